/-
  Rules and contracts, packed: G10, G11, G12, G14.
-/
import Derived.Test.YtimiokmgnclggaaQ7
set_option maxHeartbeats 1000000
set_option linter.unusedSimpArgs false
set_option linter.unusedVariables false
set_option maxHeartbeats 2000000
set_option maxRecDepth 20000
namespace Go.Proofs.Ytimiokmgnclggaa
open Go.RowKit
/-! What configurations need, whether they wait, their place. -/
theorem awC_kind (g : Gr) (st : Int) (b : Bool) (us : List Spt) : 0 ≤ (awC g st b us).1 ∧ (awC g st b us).1 ≤ 3 := by
  unfold awC
  split
  · simp
  · split
    · simp
    · exact awS_kind _ _
section
variable (E : Env) (L : List Res) (st rc at' : Int) (part : List UInt8) (tp : Option Addr) (tn tc : Nat) (e ea : Int) (b : Bool) (sp : Option Addr) (sn sc : Nat)
  (gv : Value) (g : Gr) (hg : GrE E gv g) (hl : Light g) (h0 : gcheck g = 0)
  (h3 : st = 1 ∨ st = 2) (hr : rngB rc at' = true) (hp : part.length ≤ 1) (l : List Tok) (hs : SlE E 3 tp tn (toks l)) (hgr : gringB g.k g.toks.length l e ea = true) (us : List Spt) (hu : SlE E 2 sp sn (spC us)) (hn : sn ≤ 9223372036854775807)
include hg hl h0 h3 hr hp hs hgr hu hn
theorem CNeeds_call : CallV Try.prog 20 #[gv, cfV st rc at' part tp tn tc e ea b sp sn sc] E L
    (.tuple #[.int .i64 (if ckM g st at' part l e ea b us = 0 then needC g st l.length e b us else 0), .int .i64 (ckM g st at' part l e ea b us)]) := by
  have hc := fun L0 => CAwaits_call E L0 st rc at' part tp tn tc e ea b sp sn sc gv g hg hl h0 h3 hr hp l hs hgr us hu hn
  have hkind := awC_kind g st b us
  have hq := gring_iff.1 hgr
  obtain ⟨q1, q2, q3, q4, q5, _⟩ := hq
  have en := hs.nT
  by_cases hk : ckM g st at' part l e ea b us = 0
  · simp only [if_pos hk] at hc ⊢
    rw [hk] at hc ⊢
    unfold needC
    generalize awC g st b us = r at *
    obtain ⟨gp, gc, np, nc, pp, pc, rfl, _⟩ := hg
    rw [← en]
    rw [← en] at q5
    by_cases he : e = 0
    · subst he
      by_cases h3k : r.1 = 3
      · rw [if_pos (.inr h3k)]
        refine CallS.toV (CallS.intro (l := [_, _]) _ Try.func20 rfl Try.ntmps20 rfl ?_)
        refine G_seq (G_region ?_)
        (refine G_boxA rfl rfl rfl rfl (.none rfl) ?_; intro b2)
        (refine G_boxA rfl rfl rfl rfl (.none rfl) ?_; intro b3)
        refine G_val (V_assign rfl rfl) rfl rfl (.none rfl) ?_
        refine G_val (V_assign rfl rfl) rfl rfl (.none rfl) ?_
        refine G_end (X_then (G_seq (G_region ?_)))
        refine G_val (V_loadA rfl rfl (Cells.own (.tail _ (.head _))) rfl) rfl rfl (.none rfl) ?_
        refine G_val (V_loadA rfl rfl (Cells.own (.head _)) rfl) rfl rfl (.none rfl) ?_
        refine G_callv (k := 29) (.mk rfl rfl rfl rfl) rfl rfl (.none rfl) (hc _) ?_
        refine G_val (V_move rfl rfl) rfl rfl (.none rfl) ?_
        refine G_val (V_extract rfl rfl rfl) rfl rfl (.none rfl) ?_
        refine G_val (V_extract rfl rfl rfl) rfl rfl (.none rfl) ?_
        refine G_val (V_extract rfl rfl rfl) rfl rfl (.none rfl) ?_
        refine G_val (V_assign rfl rfl) rfl rfl (.none rfl) ?_
        refine G_val (V_assign rfl rfl) rfl rfl (.none rfl) ?_
        refine G_val (V_assign rfl rfl) rfl rfl (.none rfl) ?_
        refine G_end (X_then (G_seq (G_seq (G_region ?_))))
        refine G_val (V_move rfl rfl) rfl rfl (.none rfl) ?_
        refine G_val (V_neq rfl rfl rfl) rfl rfl (.none rfl) ?_
        refine G_end (X_then ?_)
        refine G_cond_f rfl (by kernel_rfl) ?_
        refine G_skip (X_then (G_seq (G_region ?_)))
        refine G_val (V_fieldAddr rfl rfl (by decide)) rfl rfl (.none rfl) ?_
        refine G_val (V_fieldAddr rfl rfl (by decide)) rfl rfl (.none rfl) ?_
        refine G_val (V_load rfl rfl (Cell.own (.head _) rfl)) rfl rfl (.none rfl) ?_
        refine G_val (V_lenS rfl rfl) rfl rfl (.none rfl) ?_
        refine G_val (V_assign rfl rfl) rfl rfl (.none rfl) ?_
        refine G_end (X_then (G_seq (G_block (G_seq (G_region ?_)))))
        refine G_val (V_loadA rfl rfl (Cells.own (.head _)) rfl) rfl rfl (.none rfl) ?_
        refine G_callv (k := 41) (.mk rfl rfl rfl rfl) rfl rfl (.none rfl) (Stopped_call _ _ _ _ _ _ _ _ _ _ _ _ _ _ _) ?_
        refine G_val (V_move rfl rfl) rfl rfl (.none rfl) ?_
        apply G_joinOr 5 27 32 rfl
        · intro H1
          dsimp only [List.take]
          simp only [Bool.and_eq_true, Bool.or_eq_true, Bool.not_eq_true', Bool.not_eq_false', Bool.and_eq_false_iff, Bool.or_eq_false_iff, Bool.not_not, decide_eq_true_eq, decide_eq_false_iff_not, ne_eq, Decidable.not_not, Bool.decide_eq_true] at H1
          (exfalso; omega)
        · intro H2
          dsimp only [List.take]
          simp only [Bool.and_eq_true, Bool.or_eq_true, Bool.not_eq_true', Bool.not_eq_false', Bool.and_eq_false_iff, Bool.or_eq_false_iff, Bool.not_not, decide_eq_true_eq, decide_eq_false_iff_not, ne_eq, Decidable.not_not, Bool.decide_eq_true] at H2
          refine G_val (V_fieldAddr rfl rfl (by decide)) rfl rfl (.yes rfl rfl rfl rfl) ?_
          refine G_val (V_fieldAddr rfl rfl (by decide)) rfl rfl (.yes rfl rfl rfl rfl) ?_
          refine G_val (V_load rfl rfl (Cell.own (.head _) rfl)) rfl rfl (.yes rfl rfl rfl rfl) ?_
          refine G_val (V_neq rfl rfl rfl) rfl rfl (.yes rfl rfl rfl rfl) ?_
          refine G_val (V_pick_f rfl rfl rfl) rfl rfl (.none rfl) ?_
          refine G_end ?_
          exact JQ_end 5 rfl rfl (by kernel_rfl)
        dsimp only [List.drop]
        refine G_val (V_move rfl rfl) rfl rfl (.none rfl) ?_
        apply G_joinOr 3 33 36 rfl
        · intro H3
          dsimp only [List.take]
          simp only [Bool.and_eq_true, Bool.or_eq_true, Bool.not_eq_true', Bool.not_eq_false', Bool.and_eq_false_iff, Bool.or_eq_false_iff, Bool.not_not, decide_eq_true_eq, decide_eq_false_iff_not, ne_eq, Decidable.not_not, Bool.decide_eq_true] at H3
          refine G_stay (.no rfl rfl rfl rfl) rfl rfl ?_
          refine G_stay (.no rfl rfl rfl rfl) rfl rfl ?_
          refine G_val (V_pick_t rfl rfl rfl) rfl rfl (.none rfl) ?_
          refine G_end ?_
          exact JQ_end 3 rfl rfl (by kernel_rfl)
        · intro H4
          dsimp only [List.take]
          simp only [Bool.and_eq_true, Bool.or_eq_true, Bool.not_eq_true', Bool.not_eq_false', Bool.and_eq_false_iff, Bool.or_eq_false_iff, Bool.not_not, decide_eq_true_eq, decide_eq_false_iff_not, ne_eq, Decidable.not_not, Bool.decide_eq_true] at H4
          refine G_val (V_move rfl rfl) rfl rfl (.yes rfl rfl rfl rfl) ?_
          refine G_val (V_eql rfl rfl rfl) rfl rfl (.yes rfl rfl rfl rfl) ?_
          refine G_val (V_pick_f rfl rfl rfl) rfl rfl (.none rfl) ?_
          refine G_end ?_
          exact JQ_end 3 rfl rfl (by kernel_rfl)
        dsimp only [List.drop]
        refine G_val (V_assign rfl rfl) rfl rfl (.none rfl) ?_
        refine G_end (X_then ?_)
        refine G_cond_t rfl (by simp [*]; done) ?_
        refine G_seq (G_region ?_)
        refine G_val (V_assign rfl rfl) rfl rfl (.none rfl) ?_
        refine G_val (V_assign rfl rfl) rfl rfl (.none rfl) ?_
        refine G_end (X_then (G_ret (X_block_ret (X_then_ret ?_))))
        refine G_leaveS (.drop _ (.drop _ (.nil _))) (by exact (.cons (.tmp rfl) (.cons (.tmp rfl) (.nil)))) rfl ?_ ?_
        · exact (.refl _)
        exact ⟨(by kernel_rfl), rfl⟩
      · rw [if_neg (by omega)]
        by_cases h2k : r.1 = 2
        · rw [if_pos h2k]
          refine CallS.toV (CallS.intro (l := [_, _]) _ Try.func20 rfl Try.ntmps20 rfl ?_)
          refine G_seq (G_region ?_)
          (refine G_boxA rfl rfl rfl rfl (.none rfl) ?_; intro b2)
          (refine G_boxA rfl rfl rfl rfl (.none rfl) ?_; intro b3)
          refine G_val (V_assign rfl rfl) rfl rfl (.none rfl) ?_
          refine G_val (V_assign rfl rfl) rfl rfl (.none rfl) ?_
          refine G_end (X_then (G_seq (G_region ?_)))
          refine G_val (V_loadA rfl rfl (Cells.own (.tail _ (.head _))) rfl) rfl rfl (.none rfl) ?_
          refine G_val (V_loadA rfl rfl (Cells.own (.head _)) rfl) rfl rfl (.none rfl) ?_
          refine G_callv (k := 29) (.mk rfl rfl rfl rfl) rfl rfl (.none rfl) (hc _) ?_
          refine G_val (V_move rfl rfl) rfl rfl (.none rfl) ?_
          refine G_val (V_extract rfl rfl rfl) rfl rfl (.none rfl) ?_
          refine G_val (V_extract rfl rfl rfl) rfl rfl (.none rfl) ?_
          refine G_val (V_extract rfl rfl rfl) rfl rfl (.none rfl) ?_
          refine G_val (V_assign rfl rfl) rfl rfl (.none rfl) ?_
          refine G_val (V_assign rfl rfl) rfl rfl (.none rfl) ?_
          refine G_val (V_assign rfl rfl) rfl rfl (.none rfl) ?_
          refine G_end (X_then (G_seq (G_seq (G_region ?_))))
          refine G_val (V_move rfl rfl) rfl rfl (.none rfl) ?_
          refine G_val (V_neq rfl rfl rfl) rfl rfl (.none rfl) ?_
          refine G_end (X_then ?_)
          refine G_cond_f rfl (by kernel_rfl) ?_
          refine G_skip (X_then (G_seq (G_region ?_)))
          refine G_val (V_fieldAddr rfl rfl (by decide)) rfl rfl (.none rfl) ?_
          refine G_val (V_fieldAddr rfl rfl (by decide)) rfl rfl (.none rfl) ?_
          refine G_val (V_load rfl rfl (Cell.own (.head _) rfl)) rfl rfl (.none rfl) ?_
          refine G_val (V_lenS rfl rfl) rfl rfl (.none rfl) ?_
          refine G_val (V_assign rfl rfl) rfl rfl (.none rfl) ?_
          refine G_end (X_then (G_seq (G_block (G_seq (G_region ?_)))))
          refine G_val (V_loadA rfl rfl (Cells.own (.head _)) rfl) rfl rfl (.none rfl) ?_
          refine G_callv (k := 41) (.mk rfl rfl rfl rfl) rfl rfl (.none rfl) (Stopped_call _ _ _ _ _ _ _ _ _ _ _ _ _ _ _) ?_
          refine G_val (V_move rfl rfl) rfl rfl (.none rfl) ?_
          apply G_joinOr 5 27 32 rfl
          · intro H1
            dsimp only [List.take]
            simp only [Bool.and_eq_true, Bool.or_eq_true, Bool.not_eq_true', Bool.not_eq_false', Bool.and_eq_false_iff, Bool.or_eq_false_iff, Bool.not_not, decide_eq_true_eq, decide_eq_false_iff_not, ne_eq, Decidable.not_not, Bool.decide_eq_true] at H1
            (exfalso; omega)
          · intro H2
            dsimp only [List.take]
            simp only [Bool.and_eq_true, Bool.or_eq_true, Bool.not_eq_true', Bool.not_eq_false', Bool.and_eq_false_iff, Bool.or_eq_false_iff, Bool.not_not, decide_eq_true_eq, decide_eq_false_iff_not, ne_eq, Decidable.not_not, Bool.decide_eq_true] at H2
            refine G_val (V_fieldAddr rfl rfl (by decide)) rfl rfl (.yes rfl rfl rfl rfl) ?_
            refine G_val (V_fieldAddr rfl rfl (by decide)) rfl rfl (.yes rfl rfl rfl rfl) ?_
            refine G_val (V_load rfl rfl (Cell.own (.head _) rfl)) rfl rfl (.yes rfl rfl rfl rfl) ?_
            refine G_val (V_neq rfl rfl rfl) rfl rfl (.yes rfl rfl rfl rfl) ?_
            refine G_val (V_pick_f rfl rfl rfl) rfl rfl (.none rfl) ?_
            refine G_end ?_
            exact JQ_end 5 rfl rfl (by kernel_rfl)
          dsimp only [List.drop]
          refine G_val (V_move rfl rfl) rfl rfl (.none rfl) ?_
          apply G_joinOr 3 33 36 rfl
          · intro H3
            dsimp only [List.take]
            simp only [Bool.and_eq_true, Bool.or_eq_true, Bool.not_eq_true', Bool.not_eq_false', Bool.and_eq_false_iff, Bool.or_eq_false_iff, Bool.not_not, decide_eq_true_eq, decide_eq_false_iff_not, ne_eq, Decidable.not_not, Bool.decide_eq_true] at H3
            refine G_stay (.no rfl rfl rfl rfl) rfl rfl ?_
            refine G_stay (.no rfl rfl rfl rfl) rfl rfl ?_
            refine G_val (V_pick_t rfl rfl rfl) rfl rfl (.none rfl) ?_
            refine G_end ?_
            exact JQ_end 3 rfl rfl (by kernel_rfl)
          · intro H4
            dsimp only [List.take]
            simp only [Bool.and_eq_true, Bool.or_eq_true, Bool.not_eq_true', Bool.not_eq_false', Bool.and_eq_false_iff, Bool.or_eq_false_iff, Bool.not_not, decide_eq_true_eq, decide_eq_false_iff_not, ne_eq, Decidable.not_not, Bool.decide_eq_true] at H4
            refine G_val (V_move rfl rfl) rfl rfl (.yes rfl rfl rfl rfl) ?_
            refine G_val (V_eql rfl rfl rfl) rfl rfl (.yes rfl rfl rfl rfl) ?_
            refine G_val (V_pick_f rfl rfl rfl) rfl rfl (.none rfl) ?_
            refine G_end ?_
            exact JQ_end 3 rfl rfl (by kernel_rfl)
          dsimp only [List.drop]
          refine G_val (V_assign rfl rfl) rfl rfl (.none rfl) ?_
          refine G_end (X_then ?_)
          refine G_cond rfl (fun H5 => ?_) (fun H5 => ?_)
          · simp only [Bool.and_eq_true, Bool.or_eq_true, Bool.not_eq_true', Bool.not_eq_false', Bool.and_eq_false_iff, Bool.or_eq_false_iff, Bool.not_not, decide_eq_true_eq, decide_eq_false_iff_not, ne_eq, Decidable.not_not, Bool.decide_eq_true] at H5
            refine G_seq (G_region ?_)
            refine G_val (V_assign rfl rfl) rfl rfl (.none rfl) ?_
            refine G_val (V_assign rfl rfl) rfl rfl (.none rfl) ?_
            refine G_end (X_then (G_ret (X_block_ret (X_then_ret ?_))))
            refine G_leaveS (.drop _ (.drop _ (.nil _))) (by exact (.cons (.tmp rfl) (.cons (.tmp rfl) (.nil)))) rfl ?_ ?_
            · exact (.refl _)
            exact ⟨(by ((try simp only [resVal]); (repeat' split) <;> first | rfl | (exfalso; omega) | (simp_all; done) | (simp_all; omega))), (by rfl)⟩
          simp only [Bool.and_eq_true, Bool.or_eq_true, Bool.not_eq_true', Bool.not_eq_false', Bool.and_eq_false_iff, Bool.or_eq_false_iff, Bool.not_not, decide_eq_true_eq, decide_eq_false_iff_not, ne_eq, Decidable.not_not, Bool.decide_eq_true] at H5
          refine G_seq (G_region ?_)
          refine G_val (V_move rfl rfl) rfl rfl (.none rfl) ?_
          refine G_val (V_eql rfl rfl rfl) rfl rfl (.none rfl) ?_
          refine G_val (V_assign rfl rfl) rfl rfl (.none rfl) ?_
          refine G_end (X_then ?_)
          refine G_cond_t rfl (decide_eq_true (by omega)) ?_
          refine G_seq (G_region ?_)
          refine G_val (V_fieldAddr rfl rfl (by decide)) rfl rfl (.none rfl) ?_
          refine G_val (V_load rfl rfl (Cell.own (.tail _ (.head _)) rfl)) rfl rfl (.none rfl) ?_
          refine G_val (V_move rfl rfl) rfl rfl (.none rfl) ?_
          refine G_val (V_sub_i64 rfl rfl rfl (by omega) (by omega)) rfl rfl (.none rfl) ?_
          refine G_val (V_max rfl rfl rfl) rfl rfl (.none rfl) ?_
          refine G_val (V_assign rfl rfl) rfl rfl (.none rfl) ?_
          refine G_val (V_assign rfl rfl) rfl rfl (.none rfl) ?_
          refine G_end (X_then (G_ret (X_block_ret (X_then_ret ?_))))
          refine G_leaveS (.drop _ (.drop _ (.nil _))) (by exact (.cons (.tmp rfl) (.cons (.tmp rfl) (.nil)))) rfl ?_ ?_
          · exact (.refl _)
          exact ⟨rfl, rfl⟩
        · rw [if_neg h2k]
          refine CallS.toV (CallS.intro (l := [_, _]) _ Try.func20 rfl Try.ntmps20 rfl ?_)
          refine G_seq (G_region ?_)
          (refine G_boxA rfl rfl rfl rfl (.none rfl) ?_; intro b2)
          (refine G_boxA rfl rfl rfl rfl (.none rfl) ?_; intro b3)
          refine G_val (V_assign rfl rfl) rfl rfl (.none rfl) ?_
          refine G_val (V_assign rfl rfl) rfl rfl (.none rfl) ?_
          refine G_end (X_then (G_seq (G_region ?_)))
          refine G_val (V_loadA rfl rfl (Cells.own (.tail _ (.head _))) rfl) rfl rfl (.none rfl) ?_
          refine G_val (V_loadA rfl rfl (Cells.own (.head _)) rfl) rfl rfl (.none rfl) ?_
          refine G_callv (k := 29) (.mk rfl rfl rfl rfl) rfl rfl (.none rfl) (hc _) ?_
          refine G_val (V_move rfl rfl) rfl rfl (.none rfl) ?_
          refine G_val (V_extract rfl rfl rfl) rfl rfl (.none rfl) ?_
          refine G_val (V_extract rfl rfl rfl) rfl rfl (.none rfl) ?_
          refine G_val (V_extract rfl rfl rfl) rfl rfl (.none rfl) ?_
          refine G_val (V_assign rfl rfl) rfl rfl (.none rfl) ?_
          refine G_val (V_assign rfl rfl) rfl rfl (.none rfl) ?_
          refine G_val (V_assign rfl rfl) rfl rfl (.none rfl) ?_
          refine G_end (X_then (G_seq (G_seq (G_region ?_))))
          refine G_val (V_move rfl rfl) rfl rfl (.none rfl) ?_
          refine G_val (V_neq rfl rfl rfl) rfl rfl (.none rfl) ?_
          refine G_end (X_then ?_)
          refine G_cond_f rfl (by kernel_rfl) ?_
          refine G_skip (X_then (G_seq (G_region ?_)))
          refine G_val (V_fieldAddr rfl rfl (by decide)) rfl rfl (.none rfl) ?_
          refine G_val (V_fieldAddr rfl rfl (by decide)) rfl rfl (.none rfl) ?_
          refine G_val (V_load rfl rfl (Cell.own (.head _) rfl)) rfl rfl (.none rfl) ?_
          refine G_val (V_lenS rfl rfl) rfl rfl (.none rfl) ?_
          refine G_val (V_assign rfl rfl) rfl rfl (.none rfl) ?_
          refine G_end (X_then (G_seq (G_block (G_seq (G_region ?_)))))
          refine G_val (V_loadA rfl rfl (Cells.own (.head _)) rfl) rfl rfl (.none rfl) ?_
          refine G_callv (k := 41) (.mk rfl rfl rfl rfl) rfl rfl (.none rfl) (Stopped_call _ _ _ _ _ _ _ _ _ _ _ _ _ _ _) ?_
          refine G_val (V_move rfl rfl) rfl rfl (.none rfl) ?_
          apply G_joinOr 5 27 32 rfl
          · intro H1
            dsimp only [List.take]
            simp only [Bool.and_eq_true, Bool.or_eq_true, Bool.not_eq_true', Bool.not_eq_false', Bool.and_eq_false_iff, Bool.or_eq_false_iff, Bool.not_not, decide_eq_true_eq, decide_eq_false_iff_not, ne_eq, Decidable.not_not, Bool.decide_eq_true] at H1
            (exfalso; omega)
          · intro H2
            dsimp only [List.take]
            simp only [Bool.and_eq_true, Bool.or_eq_true, Bool.not_eq_true', Bool.not_eq_false', Bool.and_eq_false_iff, Bool.or_eq_false_iff, Bool.not_not, decide_eq_true_eq, decide_eq_false_iff_not, ne_eq, Decidable.not_not, Bool.decide_eq_true] at H2
            refine G_val (V_fieldAddr rfl rfl (by decide)) rfl rfl (.yes rfl rfl rfl rfl) ?_
            refine G_val (V_fieldAddr rfl rfl (by decide)) rfl rfl (.yes rfl rfl rfl rfl) ?_
            refine G_val (V_load rfl rfl (Cell.own (.head _) rfl)) rfl rfl (.yes rfl rfl rfl rfl) ?_
            refine G_val (V_neq rfl rfl rfl) rfl rfl (.yes rfl rfl rfl rfl) ?_
            refine G_val (V_pick_f rfl rfl rfl) rfl rfl (.none rfl) ?_
            refine G_end ?_
            exact JQ_end 5 rfl rfl (by kernel_rfl)
          dsimp only [List.drop]
          refine G_val (V_move rfl rfl) rfl rfl (.none rfl) ?_
          apply G_joinOr 3 33 36 rfl
          · intro H3
            dsimp only [List.take]
            simp only [Bool.and_eq_true, Bool.or_eq_true, Bool.not_eq_true', Bool.not_eq_false', Bool.and_eq_false_iff, Bool.or_eq_false_iff, Bool.not_not, decide_eq_true_eq, decide_eq_false_iff_not, ne_eq, Decidable.not_not, Bool.decide_eq_true] at H3
            refine G_stay (.no rfl rfl rfl rfl) rfl rfl ?_
            refine G_stay (.no rfl rfl rfl rfl) rfl rfl ?_
            refine G_val (V_pick_t rfl rfl rfl) rfl rfl (.none rfl) ?_
            refine G_end ?_
            exact JQ_end 3 rfl rfl (by kernel_rfl)
          · intro H4
            dsimp only [List.take]
            simp only [Bool.and_eq_true, Bool.or_eq_true, Bool.not_eq_true', Bool.not_eq_false', Bool.and_eq_false_iff, Bool.or_eq_false_iff, Bool.not_not, decide_eq_true_eq, decide_eq_false_iff_not, ne_eq, Decidable.not_not, Bool.decide_eq_true] at H4
            refine G_val (V_move rfl rfl) rfl rfl (.yes rfl rfl rfl rfl) ?_
            refine G_val (V_eql rfl rfl rfl) rfl rfl (.yes rfl rfl rfl rfl) ?_
            refine G_val (V_pick_f rfl rfl rfl) rfl rfl (.none rfl) ?_
            refine G_end ?_
            exact JQ_end 3 rfl rfl (by kernel_rfl)
          dsimp only [List.drop]
          refine G_val (V_assign rfl rfl) rfl rfl (.none rfl) ?_
          refine G_end (X_then ?_)
          refine G_cond rfl (fun H5 => ?_) (fun H5 => ?_)
          · simp only [Bool.and_eq_true, Bool.or_eq_true, Bool.not_eq_true', Bool.not_eq_false', Bool.and_eq_false_iff, Bool.or_eq_false_iff, Bool.not_not, decide_eq_true_eq, decide_eq_false_iff_not, ne_eq, Decidable.not_not, Bool.decide_eq_true] at H5
            refine G_seq (G_region ?_)
            refine G_val (V_assign rfl rfl) rfl rfl (.none rfl) ?_
            refine G_val (V_assign rfl rfl) rfl rfl (.none rfl) ?_
            refine G_end (X_then (G_ret (X_block_ret (X_then_ret ?_))))
            refine G_leaveS (.drop _ (.drop _ (.nil _))) (by exact (.cons (.tmp rfl) (.cons (.tmp rfl) (.nil)))) rfl ?_ ?_
            · exact (.refl _)
            exact ⟨(by ((try simp only [resVal]); (repeat' split) <;> first | rfl | (exfalso; omega) | (simp_all; done) | (simp_all; omega))), (by rfl)⟩
          simp only [Bool.and_eq_true, Bool.or_eq_true, Bool.not_eq_true', Bool.not_eq_false', Bool.and_eq_false_iff, Bool.or_eq_false_iff, Bool.not_not, decide_eq_true_eq, decide_eq_false_iff_not, ne_eq, Decidable.not_not, Bool.decide_eq_true] at H5
          refine G_seq (G_region ?_)
          refine G_val (V_move rfl rfl) rfl rfl (.none rfl) ?_
          refine G_val (V_eql rfl rfl rfl) rfl rfl (.none rfl) ?_
          refine G_val (V_assign rfl rfl) rfl rfl (.none rfl) ?_
          refine G_end (X_then ?_)
          refine G_cond_f rfl (decide_eq_false (by omega)) ?_
          refine G_skip (X_block (X_then (G_seq (G_region ?_))))
          refine G_val (V_move rfl rfl) rfl rfl (.none rfl) ?_
          refine G_val (V_sub_i64 rfl rfl rfl (by omega) (by omega)) rfl rfl (.none rfl) ?_
          refine G_val (V_max rfl rfl rfl) rfl rfl (.none rfl) ?_
          refine G_val (V_assign rfl rfl) rfl rfl (.none rfl) ?_
          refine G_val (V_assign rfl rfl) rfl rfl (.none rfl) ?_
          refine G_end (X_then (G_ret ?_))
          refine G_leaveS (.drop _ (.drop _ (.nil _))) (by exact (.cons (.tmp rfl) (.cons (.tmp rfl) (.nil)))) rfl ?_ ?_
          · exact (.refl _)
          exact ⟨rfl, rfl⟩
    · rw [if_pos (.inl he)]
      refine CallS.toV (CallS.intro (l := [_, _]) _ Try.func20 rfl Try.ntmps20 rfl ?_)
      refine G_seq (G_region ?_)
      (refine G_boxA rfl rfl rfl rfl (.none rfl) ?_; intro b2)
      (refine G_boxA rfl rfl rfl rfl (.none rfl) ?_; intro b3)
      refine G_val (V_assign rfl rfl) rfl rfl (.none rfl) ?_
      refine G_val (V_assign rfl rfl) rfl rfl (.none rfl) ?_
      refine G_end (X_then (G_seq (G_region ?_)))
      refine G_val (V_loadA rfl rfl (Cells.own (.tail _ (.head _))) rfl) rfl rfl (.none rfl) ?_
      refine G_val (V_loadA rfl rfl (Cells.own (.head _)) rfl) rfl rfl (.none rfl) ?_
      refine G_callv (k := 29) (.mk rfl rfl rfl rfl) rfl rfl (.none rfl) (hc _) ?_
      refine G_val (V_move rfl rfl) rfl rfl (.none rfl) ?_
      refine G_val (V_extract rfl rfl rfl) rfl rfl (.none rfl) ?_
      refine G_val (V_extract rfl rfl rfl) rfl rfl (.none rfl) ?_
      refine G_val (V_extract rfl rfl rfl) rfl rfl (.none rfl) ?_
      refine G_val (V_assign rfl rfl) rfl rfl (.none rfl) ?_
      refine G_val (V_assign rfl rfl) rfl rfl (.none rfl) ?_
      refine G_val (V_assign rfl rfl) rfl rfl (.none rfl) ?_
      refine G_end (X_then (G_seq (G_seq (G_region ?_))))
      refine G_val (V_move rfl rfl) rfl rfl (.none rfl) ?_
      refine G_val (V_neq rfl rfl rfl) rfl rfl (.none rfl) ?_
      refine G_end (X_then ?_)
      refine G_cond_f rfl (by kernel_rfl) ?_
      refine G_skip (X_then (G_seq (G_region ?_)))
      refine G_val (V_fieldAddr rfl rfl (by decide)) rfl rfl (.none rfl) ?_
      refine G_val (V_fieldAddr rfl rfl (by decide)) rfl rfl (.none rfl) ?_
      refine G_val (V_load rfl rfl (Cell.own (.head _) rfl)) rfl rfl (.none rfl) ?_
      refine G_val (V_lenS rfl rfl) rfl rfl (.none rfl) ?_
      refine G_val (V_assign rfl rfl) rfl rfl (.none rfl) ?_
      refine G_end (X_then (G_seq (G_block (G_seq (G_region ?_)))))
      refine G_val (V_loadA rfl rfl (Cells.own (.head _)) rfl) rfl rfl (.none rfl) ?_
      refine G_callv (k := 41) (.mk rfl rfl rfl rfl) rfl rfl (.none rfl) (Stopped_call _ _ _ _ _ _ _ _ _ _ _ _ _ _ _) ?_
      refine G_val (V_move rfl rfl) rfl rfl (.none rfl) ?_
      apply G_joinOr 5 27 32 rfl
      · intro H1
        dsimp only [List.take]
        simp only [Bool.and_eq_true, Bool.or_eq_true, Bool.not_eq_true', Bool.not_eq_false', Bool.and_eq_false_iff, Bool.or_eq_false_iff, Bool.not_not, decide_eq_true_eq, decide_eq_false_iff_not, ne_eq, Decidable.not_not, Bool.decide_eq_true] at H1
        (exfalso; omega)
      · intro H2
        dsimp only [List.take]
        simp only [Bool.and_eq_true, Bool.or_eq_true, Bool.not_eq_true', Bool.not_eq_false', Bool.and_eq_false_iff, Bool.or_eq_false_iff, Bool.not_not, decide_eq_true_eq, decide_eq_false_iff_not, ne_eq, Decidable.not_not, Bool.decide_eq_true] at H2
        refine G_val (V_fieldAddr rfl rfl (by decide)) rfl rfl (.yes rfl rfl rfl rfl) ?_
        refine G_val (V_fieldAddr rfl rfl (by decide)) rfl rfl (.yes rfl rfl rfl rfl) ?_
        refine G_val (V_load rfl rfl (Cell.own (.head _) rfl)) rfl rfl (.yes rfl rfl rfl rfl) ?_
        refine G_val (V_neq rfl rfl rfl) rfl rfl (.yes rfl rfl rfl rfl) ?_
        refine G_val (V_pick_f rfl rfl rfl) rfl rfl (.none rfl) ?_
        refine G_end ?_
        exact JQ_end 5 rfl rfl (by kernel_rfl)
      dsimp only [List.drop]
      refine G_val (V_move rfl rfl) rfl rfl (.none rfl) ?_
      refine G.bool_t 33 rfl (by simp [*]; done) ?_
      refine G_stay (.no rfl rfl rfl rfl) rfl rfl ?_
      refine G_stay (.no rfl rfl rfl rfl) rfl rfl ?_
      refine G_val (V_pick_t rfl rfl rfl) rfl rfl (.none rfl) ?_
      refine G_val (V_assign rfl rfl) rfl rfl (.none rfl) ?_
      refine G_end (X_then ?_)
      refine G_cond_t rfl rfl ?_
      refine G_seq (G_region ?_)
      refine G_val (V_assign rfl rfl) rfl rfl (.none rfl) ?_
      refine G_val (V_assign rfl rfl) rfl rfl (.none rfl) ?_
      refine G_end (X_then (G_ret (X_block_ret (X_then_ret ?_))))
      refine G_leaveS (.drop _ (.drop _ (.nil _))) (by exact (.cons (.tmp rfl) (.cons (.tmp rfl) (.nil)))) rfl ?_ ?_
      · exact (.refl _)
      exact ⟨(by kernel_rfl), rfl⟩
  · simp only [if_neg hk] at hc ⊢
    generalize ckM g st at' part l e ea b us = x at *
    obtain ⟨gp, gc, np, nc, pp, pc, rfl, _⟩ := hg
    refine CallS.toV (CallS.intro (l := [_, _]) _ Try.func20 rfl Try.ntmps20 rfl ?_)
    refine G_seq (G_region ?_)
    (refine G_boxA rfl rfl rfl rfl (.none rfl) ?_; intro b2)
    (refine G_boxA rfl rfl rfl rfl (.none rfl) ?_; intro b3)
    refine G_val (V_assign rfl rfl) rfl rfl (.none rfl) ?_
    refine G_val (V_assign rfl rfl) rfl rfl (.none rfl) ?_
    refine G_end (X_then (G_seq (G_region ?_)))
    refine G_val (V_loadA rfl rfl (Cells.own (.tail _ (.head _))) rfl) rfl rfl (.none rfl) ?_
    refine G_val (V_loadA rfl rfl (Cells.own (.head _)) rfl) rfl rfl (.none rfl) ?_
    refine G_callv (k := 29) (.mk rfl rfl rfl rfl) rfl rfl (.none rfl) (hc _) ?_
    refine G_val (V_move rfl rfl) rfl rfl (.none rfl) ?_
    refine G_val (V_extract rfl rfl rfl) rfl rfl (.none rfl) ?_
    refine G_val (V_extract rfl rfl rfl) rfl rfl (.none rfl) ?_
    refine G_val (V_extract rfl rfl rfl) rfl rfl (.none rfl) ?_
    refine G_val (V_assign rfl rfl) rfl rfl (.none rfl) ?_
    refine G_val (V_assign rfl rfl) rfl rfl (.none rfl) ?_
    refine G_val (V_assign rfl rfl) rfl rfl (.none rfl) ?_
    refine G_end (X_then (G_seq (G_seq (G_region ?_))))
    refine G_val (V_move rfl rfl) rfl rfl (.none rfl) ?_
    refine G_val (V_neq rfl rfl rfl) rfl rfl (.none rfl) ?_
    refine G_end (X_then ?_)
    refine G_cond_t rfl (decide_eq_true (by omega)) ?_
    refine G_seq (G_region ?_)
    refine G_val (V_move rfl rfl) rfl rfl (.none rfl) ?_
    refine G_val (V_assign rfl rfl) rfl rfl (.none rfl) ?_
    refine G_val (V_assign rfl rfl) rfl rfl (.none rfl) ?_
    refine G_end (X_then (G_ret (X_then_ret ?_)))
    refine G_leaveS (.drop _ (.drop _ (.nil _))) (by exact (.cons (.tmp rfl) (.cons (.tmp rfl) (.nil)))) rfl ?_ ?_
    · exact (.refl _)
    exact ⟨rfl, rfl⟩
theorem CWaits_call : CallV Try.prog 30 #[gv, cfV st rc at' part tp tn tc e ea b sp sn sc] E L
    (.tuple #[.bool (decide (0 < (if ckM g st at' part l e ea b us = 0 then needC g st l.length e b us else 0))), .int .i64 (ckM g st at' part l e ea b us)]) := by
  have hc := fun L0 => CNeeds_call E L0 st rc at' part tp tn tc e ea b sp sn sc gv g hg hl h0 h3 hr hp l hs hgr us hu hn
  generalize (if ckM g st at' part l e ea b us = 0 then needC g st l.length e b us else 0) = y at *
  generalize ckM g st at' part l e ea b us = x at *
  obtain ⟨gp, gc, np, nc, pp, pc, rfl, _⟩ := hg
  refine CallS.toV (CallS.intro (l := [_, _]) _ Try.func30 rfl Try.ntmps30 rfl ?_)
  refine G_seq (G_region ?_)
  (refine G_boxA rfl rfl rfl rfl (.none rfl) ?_; intro b2)
  (refine G_boxA rfl rfl rfl rfl (.none rfl) ?_; intro b3)
  refine G_val (V_assign rfl rfl) rfl rfl (.none rfl) ?_
  refine G_val (V_assign rfl rfl) rfl rfl (.none rfl) ?_
  refine G_end (X_then (G_seq (G_region ?_)))
  refine G_val (V_loadA rfl rfl (Cells.own (.tail _ (.head _))) rfl) rfl rfl (.none rfl) ?_
  refine G_val (V_loadA rfl rfl (Cells.own (.head _)) rfl) rfl rfl (.none rfl) ?_
  refine G_callv (k := 20) (.mk rfl rfl rfl rfl) rfl rfl (.none rfl) (hc _) ?_
  refine G_val (V_move rfl rfl) rfl rfl (.none rfl) ?_
  refine G_val (V_extract rfl rfl rfl) rfl rfl (.none rfl) ?_
  refine G_val (V_extract rfl rfl rfl) rfl rfl (.none rfl) ?_
  refine G_val (V_assign rfl rfl) rfl rfl (.none rfl) ?_
  refine G_val (V_assign rfl rfl) rfl rfl (.none rfl) ?_
  refine G_end (X_then (G_seq (G_region ?_)))
  refine G_val (V_move rfl rfl) rfl rfl (.none rfl) ?_
  refine G_val (V_gtr rfl rfl rfl) rfl rfl (.none rfl) ?_
  refine G_val (V_move rfl rfl) rfl rfl (.none rfl) ?_
  refine G_val (V_assign rfl rfl) rfl rfl (.none rfl) ?_
  refine G_val (V_assign rfl rfl) rfl rfl (.none rfl) ?_
  refine G_end (X_then (G_ret ?_))
  refine G_leaveS (.drop _ (.drop _ (.nil _))) (by exact (.cons (.tmp rfl) (.cons (.tmp rfl) (.nil)))) rfl ?_ ?_
  · exact (.refl _)
  exact ⟨rfl, rfl⟩
/-- The place: the first token's, or where the part begins. -/
def plcC (at' : Int) (pn : Nat) (l : List Tok) : Int := match l with
  | [] => at' - pn
  | t :: _ => t.at'
theorem CPlace_call (he : e = 0) : CallV Try.prog 19 #[gv, cfV st rc at' part tp tn tc e ea b sp sn sc] E L
    (.tuple #[.int .i64 (if ckM g st at' part l e ea b us = 0 then plcC at' part.length l else 0), .int .i64 (ckM g st at' part l e ea b us)]) := by
  have hc := fun L0 => CCheck_call E L0 st rc at' part tp tn tc e ea b sp sn sc gv g hg hl h0 h3 hr hp l hs hgr us hu hn
  have hrr := hr
  simp only [rngB, Bool.and_eq_true, decide_eq_true_eq] at hrr
  obtain ⟨_, w1, w2⟩ := hrr
  have en := hs.nT
  by_cases hk : ckM g st at' part l e ea b us = 0
  · simp only [if_pos hk]
    rw [hk] at hc ⊢
    match l, hs, hgr with
    | [], hs, hgr =>
      obtain rfl : tn = 0 := en
      have hpl := fun L0 => PlaceEmpty_call E L0 g.k g.toks.length tp 0 tc e ea [] hs hgr rfl he
      obtain ⟨gp, gc, np, nc, pp, pc, rfl, _⟩ := hg
      unfold plcC
      refine CallS.toV (CallS.intro (l := [_, _]) _ Try.func19 rfl Try.ntmps19 rfl ?_)
      refine G_seq (G_region ?_)
      (refine G_boxA rfl rfl rfl rfl (.none rfl) ?_; intro b2)
      (refine G_boxA rfl rfl rfl rfl (.none rfl) ?_; intro b3)
      refine G_val (V_assign rfl rfl) rfl rfl (.none rfl) ?_
      refine G_val (V_assign rfl rfl) rfl rfl (.none rfl) ?_
      refine G_end (X_then (G_seq (G_seq (G_region ?_))))
      refine G_val (V_loadA rfl rfl (Cells.own (.tail _ (.head _))) rfl) rfl rfl (.none rfl) ?_
      refine G_val (V_loadA rfl rfl (Cells.own (.head _)) rfl) rfl rfl (.none rfl) ?_
      refine G_callv (k := 18) (.mk rfl rfl rfl rfl) rfl rfl (.none rfl) (hc _) ?_
      refine G_val (V_assign rfl rfl) rfl rfl (.none rfl) ?_
      refine G_end (X_then (G_seq (G_region ?_)))
      refine G_val (V_move rfl rfl) rfl rfl (.none rfl) ?_
      refine G_val (V_neq rfl rfl rfl) rfl rfl (.none rfl) ?_
      refine G_end (X_then ?_)
      refine G_cond_f rfl (by kernel_rfl) ?_
      refine G_skip (X_then (G_seq (G_region ?_)))
      refine G_val (V_fieldAddr rfl rfl (by decide)) rfl rfl (.none rfl) ?_
      refine G_val (V_load rfl rfl (Cell.own (.tail _ (.head _)) rfl)) rfl rfl (.none rfl) ?_
      refine G_val (V_fieldAddr rfl rfl (by decide)) rfl rfl (.none rfl) ?_
      refine G_val (V_load rfl rfl (Cell.own (.tail _ (.head _)) rfl)) rfl rfl (.none rfl) ?_
      refine G_val (V_lenS rfl rfl) rfl rfl (.none rfl) ?_
      refine G_val (V_fieldAddr rfl rfl (by decide)) rfl rfl (.none rfl) ?_
      refine G_val (V_loadF rfl rfl (.head _) (by simp only [Nat.zero_add, List.drop_succ_cons, List.drop_zero, List.take_succ_cons, List.take_zero]; rfl) (by rfl)) rfl rfl (.none rfl) ?_
      refine G_callv (k := 40) (.mk rfl rfl rfl rfl) rfl rfl (.none rfl) (hpl _) ?_
      refine G_val (V_move rfl rfl) rfl rfl (.none rfl) ?_
      refine G_val (V_extract rfl rfl rfl) rfl rfl (.none rfl) ?_
      refine G_val (V_extract rfl rfl rfl) rfl rfl (.none rfl) ?_
      refine G_val (V_assign rfl rfl) rfl rfl (.none rfl) ?_
      refine G_val (V_assign rfl rfl) rfl rfl (.none rfl) ?_
      refine G_end (X_then (G_seq (G_seq (G_region ?_))))
      refine G_val (V_move rfl rfl) rfl rfl (.none rfl) ?_
      refine G_val (V_neq rfl rfl rfl) rfl rfl (.none rfl) ?_
      refine G_end (X_then ?_)
      refine G_cond_t rfl (by kernel_rfl) ?_
      refine G_seq (G_region ?_)
      refine G_val (V_fieldAddr rfl rfl (by decide)) rfl rfl (.none rfl) ?_
      refine G_val (V_load rfl rfl (Cell.own (.head _) rfl)) rfl rfl (.none rfl) ?_
      refine G_val (V_fieldAddr rfl rfl (by decide)) rfl rfl (.none rfl) ?_
      refine G_val (V_load rfl rfl (Cell.own (.head _) rfl)) rfl rfl (.none rfl) ?_
      refine G_val (V_len rfl rfl) rfl rfl (.none rfl) ?_
      refine G_val (V_sub_i64 rfl rfl rfl (by omega) (by omega)) rfl rfl (.none rfl) ?_
      refine G_val (V_assign rfl rfl) rfl rfl (.none rfl) ?_
      refine G_val (V_assign rfl rfl) rfl rfl (.none rfl) ?_
      refine G_end (X_then (G_ret (X_then_ret ?_)))
      refine G_leaveS (.drop _ (.drop _ (.nil _))) (by exact (.cons (.tmp rfl) (.cons (.tmp rfl) (.nil)))) rfl ?_ ?_
      · exact (.refl _)
      exact ⟨rfl, rfl⟩
    | ⟨ta, ts, td⟩ :: l, hs, hgr =>
      have hpl := fun L0 => Place_call E L0 g.k g.toks.length tp tn tc e ea _ hs hgr (by rw [en]; simp) ta ts td rfl
      obtain ⟨gp, gc, np, nc, pp, pc, rfl, _⟩ := hg
      unfold plcC
      refine CallS.toV (CallS.intro (l := [_, _]) _ Try.func19 rfl Try.ntmps19 rfl ?_)
      refine G_seq (G_region ?_)
      (refine G_boxA rfl rfl rfl rfl (.none rfl) ?_; intro b2)
      (refine G_boxA rfl rfl rfl rfl (.none rfl) ?_; intro b3)
      refine G_val (V_assign rfl rfl) rfl rfl (.none rfl) ?_
      refine G_val (V_assign rfl rfl) rfl rfl (.none rfl) ?_
      refine G_end (X_then (G_seq (G_seq (G_region ?_))))
      refine G_val (V_loadA rfl rfl (Cells.own (.tail _ (.head _))) rfl) rfl rfl (.none rfl) ?_
      refine G_val (V_loadA rfl rfl (Cells.own (.head _)) rfl) rfl rfl (.none rfl) ?_
      refine G_callv (k := 18) (.mk rfl rfl rfl rfl) rfl rfl (.none rfl) (hc _) ?_
      refine G_val (V_assign rfl rfl) rfl rfl (.none rfl) ?_
      refine G_end (X_then (G_seq (G_region ?_)))
      refine G_val (V_move rfl rfl) rfl rfl (.none rfl) ?_
      refine G_val (V_neq rfl rfl rfl) rfl rfl (.none rfl) ?_
      refine G_end (X_then ?_)
      refine G_cond_f rfl (by kernel_rfl) ?_
      refine G_skip (X_then (G_seq (G_region ?_)))
      refine G_val (V_fieldAddr rfl rfl (by decide)) rfl rfl (.none rfl) ?_
      refine G_val (V_load rfl rfl (Cell.own (.tail _ (.head _)) rfl)) rfl rfl (.none rfl) ?_
      refine G_val (V_fieldAddr rfl rfl (by decide)) rfl rfl (.none rfl) ?_
      refine G_val (V_load rfl rfl (Cell.own (.tail _ (.head _)) rfl)) rfl rfl (.none rfl) ?_
      refine G_val (V_lenS rfl rfl) rfl rfl (.none rfl) ?_
      refine G_val (V_fieldAddr rfl rfl (by decide)) rfl rfl (.none rfl) ?_
      refine G_val (V_loadF rfl rfl (.head _) (by simp only [Nat.zero_add, List.drop_succ_cons, List.drop_zero, List.take_succ_cons, List.take_zero]; rfl) (by rfl)) rfl rfl (.none rfl) ?_
      refine G_callv (k := 40) (.mk rfl rfl rfl rfl) rfl rfl (.none rfl) (hpl _) ?_
      refine G_val (V_move rfl rfl) rfl rfl (.none rfl) ?_
      refine G_val (V_extract rfl rfl rfl) rfl rfl (.none rfl) ?_
      refine G_val (V_extract rfl rfl rfl) rfl rfl (.none rfl) ?_
      refine G_val (V_assign rfl rfl) rfl rfl (.none rfl) ?_
      refine G_val (V_assign rfl rfl) rfl rfl (.none rfl) ?_
      refine G_end (X_then (G_seq (G_seq (G_region ?_))))
      refine G_val (V_move rfl rfl) rfl rfl (.none rfl) ?_
      refine G_val (V_neq rfl rfl rfl) rfl rfl (.none rfl) ?_
      refine G_end (X_then ?_)
      refine G_cond_f rfl (by kernel_rfl) ?_
      refine G_skip (X_then (G_seq (G_region ?_)))
      refine G_val (V_move rfl rfl) rfl rfl (.none rfl) ?_
      refine G_val (V_assign rfl rfl) rfl rfl (.none rfl) ?_
      refine G_val (V_assign rfl rfl) rfl rfl (.none rfl) ?_
      refine G_end (X_then (G_ret ?_))
      refine G_leaveS (.drop _ (.drop _ (.nil _))) (by exact (.cons (.tmp rfl) (.cons (.tmp rfl) (.nil)))) rfl ?_ ?_
      · exact (.refl _)
      exact ⟨rfl, rfl⟩
  · simp only [if_neg hk]
    generalize ckM g st at' part l e ea b us = x at *
    obtain ⟨gp, gc, np, nc, pp, pc, rfl, _⟩ := hg
    refine CallS.toV (CallS.intro (l := [_, _]) _ Try.func19 rfl Try.ntmps19 rfl ?_)
    refine G_seq (G_region ?_)
    (refine G_boxA rfl rfl rfl rfl (.none rfl) ?_; intro b2)
    (refine G_boxA rfl rfl rfl rfl (.none rfl) ?_; intro b3)
    refine G_val (V_assign rfl rfl) rfl rfl (.none rfl) ?_
    refine G_val (V_assign rfl rfl) rfl rfl (.none rfl) ?_
    refine G_end (X_then (G_seq (G_seq (G_region ?_))))
    refine G_val (V_loadA rfl rfl (Cells.own (.tail _ (.head _))) rfl) rfl rfl (.none rfl) ?_
    refine G_val (V_loadA rfl rfl (Cells.own (.head _)) rfl) rfl rfl (.none rfl) ?_
    refine G_callv (k := 18) (.mk rfl rfl rfl rfl) rfl rfl (.none rfl) (hc _) ?_
    refine G_val (V_assign rfl rfl) rfl rfl (.none rfl) ?_
    refine G_end (X_then (G_seq (G_region ?_)))
    refine G_val (V_move rfl rfl) rfl rfl (.none rfl) ?_
    refine G_val (V_neq rfl rfl rfl) rfl rfl (.none rfl) ?_
    refine G_end (X_then ?_)
    refine G_cond_t rfl (decide_eq_true (by omega)) ?_
    refine G_seq (G_region ?_)
    refine G_val (V_move rfl rfl) rfl rfl (.none rfl) ?_
    refine G_val (V_assign rfl rfl) rfl rfl (.none rfl) ?_
    refine G_val (V_assign rfl rfl) rfl rfl (.none rfl) ?_
    refine G_end (X_then (G_ret (X_then_ret ?_)))
    refine G_leaveS (.drop _ (.drop _ (.nil _))) (by exact (.cons (.tmp rfl) (.cons (.tmp rfl) (.nil)))) rfl ?_ ?_
    · exact (.refl _)
    exact ⟨rfl, rfl⟩
end
end Go.Proofs.Ytimiokmgnclggaa
set_option linter.unusedSimpArgs false
set_option linter.unusedVariables false
set_option maxHeartbeats 2000000
set_option maxRecDepth 20000
namespace Go.Proofs.Ytimiokmgnclggaa
open Go.RowKit
/-! The law's helpers: example, limits, inside, awaits, awake. -/
abbrev exG : Gr := ⟨2, [[97], [98]], [110, 108], [[83]], 16, [(16, [0, 16]), (16, [])]⟩
theorem exG_ok : gcheck exG = 0 := by decide +kernel
theorem exG_light : Light exG := lightB_iff.1 (by decide +kernel)
section
variable (E : Env) (L : List Res)
theorem example_call : CallS Try.prog 14 #[] E L (fun r E' L' => ∃ b0 b1 b2 b3 b6, r = .agg #[.int .i64 2, .slice (some ⟨b1, 0, none⟩) 2 2, .string (S [110, 108]), .slice (some ⟨b2, 0, none⟩) 1 1, .int .i64 16, .slice (some ⟨b6, 0, none⟩) 2 2] ∧ E = E' ∧
    L' = .blk b6 (.cells #[.int .i64 16, .slice (some ⟨b3, 0, none⟩) 2 2, .int .i64 16, .slice none 0 0] 59 (0, 0)) :: .blk b3 (.cells #[.int .i64 0, .int .i64 16] 3 (0, 0)) :: .blk b2 (.cells #[.string (S [83])] 9 (0, 0)) :: .blk b1 (.cells #[.string (S [97]), .string (S [98])] 9 (0, 0)) :: .blk b0 (.cells #[.int .i64 2, .slice (some ⟨b1, 0, none⟩) 2 2, .string (S [110, 108]), .slice (some ⟨b2, 0, none⟩) 1 1, .int .i64 16, .slice (some ⟨b6, 0, none⟩) 2 2] 41 (0, 0)) :: L) := by
  refine CallS.intro (l := []) _ Try.func14 rfl Try.ntmps14 rfl ?_
  refine G_seq (G_region ?_)
  (refine G_alloc rfl rfl rfl (.none rfl) ?_; intro b0)
  refine G_end (X_then (G_seq (G_region ?_)))
  (refine G_lit2 rfl rfl rfl rfl rfl rfl rfl (.none rfl) ?_; intro b1)
  (refine G_lit1 rfl rfl rfl rfl rfl (.none rfl) ?_; intro b2)
  (refine G_lit2 rfl rfl rfl rfl rfl rfl rfl (.none rfl) ?_; intro b3)
  refine G_val (V_build rfl rfl (by simp [fillV, setLs, setL, Value.cells]; rfl)) rfl rfl (.none rfl) ?_
  refine G_val (V_build rfl rfl (by simp [fillV, setLs, setL, Value.cells]; rfl)) rfl rfl (.none rfl) ?_
  (refine G_lit rfl rfl (by decide) (by simp [fillS, zeros, setLs, setL, Value.cells, List.range, List.range.loop]; rfl) rfl rfl (.none rfl) ?_; intro b6)
  refine G_val (V_build rfl rfl (by simp [fillV, setLs, setL, Value.cells]; rfl)) rfl rfl (.none rfl) ?_
  refine G_storeA rfl rfl rfl rfl (by simp [Value.oneCell']) rfl (.none rfl) (.tail _ (.tail _ (.tail _ (.tail _ (.head _ _ _))))) rfl ?_
  refine G_end (X_then (G_ret ?_))
  refine G_leaveS (.keep _ (.keep _ (.keep _ (.keep _ (.keep _ (.nil _)))))) (by exact (.cons (.cellA rfl (Cells.own (.tail _ (.tail _ (.tail _ (.tail _ (.head _)))))) rfl) (.nil))) rfl ?_ ?_
  · exact (.refl _)
  exact ⟨_, ⟨_, ⟨_, ⟨_, ⟨_, ⟨rfl, ⟨rfl, rfl⟩⟩⟩⟩⟩⟩⟩
theorem example_call' : CallS Try.prog 14 #[] E L (fun r E' L' => GrE E' r exG ∧ L' = L) :=
  fun w hw => (example_call E L w hw).mono fun _ _ ⟨r, E', L', he, hE, hs, b0, b1, b2, b3, b6, hr, _, hL⟩ => by
    subst hL hr
    obtain ⟨E2, hE2, hs2, hok2⟩ := hs.freeze
    obtain ⟨E3, hE3, hs3, hok3⟩ := hs2.freeze
    obtain ⟨E4, hE4, hs4, hok4⟩ := hs3.freeze
    obtain ⟨E5, hE5, hs5, hok5⟩ := hs4.freeze
    refine ⟨_, E5, L, he, (((hE.trans hE2).trans hE3).trans hE4).trans hE5, hs5.drop, ?_, rfl⟩
    refine GrE.mk (g := exG) (SlE.lit (l := strs [[97], [98]]) hok5 rfl) ((SlE.lit (l := strs [[83]]) hok4 rfl).mono hE5) ⟨[(some ⟨b3, 0, none⟩, 2, (16, [0, 16])), (none, 0, (16, []))], rfl, ?_, fun r hr => ?_⟩ (Nat.le_refl _) (Nat.le_refl _) (Nat.le_refl _)
    · exact ((SlE.lit (l := prows [(some ⟨b3, 0, none⟩, 2, (16, [0, 16])), (none, 0, (16, []))]) hok2 rfl).mono (hE3.trans hE4)).mono hE5
    · simp only [List.mem_cons, List.not_mem_nil, or_false] at hr
      rcases hr with rfl | rfl
      · exact ((SlE.lit (l := i64s [0, 16]) hok3 rfl).mono hE4).mono hE5
      · exact SlE.nil
theorem limits_call : CallV Try.prog 15 #[] E L (.agg #[.int .i64 9, .int .i64 9, .int .i64 5, .int .i64 1]) := by
  refine CallS.toV (CallS.intro (l := []) _ Try.func15 rfl Try.ntmps15 rfl ?_)
  refine G_seq (G_region ?_)
  (refine G_alloc rfl rfl rfl (.none rfl) ?_; intro b0)
  refine G_end (X_then (G_seq (G_region ?_)))
  refine G_val (V_build rfl rfl (by simp [fillV, setLs, setL, Value.cells]; rfl)) rfl rfl (.none rfl) ?_
  refine G_storeA rfl rfl rfl rfl (by simp [Value.oneCell']) rfl (.none rfl) (.head _ _ _) rfl ?_
  refine G_end (X_then (G_ret ?_))
  refine G_leaveS (.drop _ (.nil _)) (by exact (.cons (.cellA rfl (Cells.own (.head _)) rfl) (.nil))) rfl ?_ ?_
  · exact (.refl _)
  exact ⟨(by kernel_rfl), rfl⟩
theorem New_ex : CallV Try.prog 7 #[.agg #[.int .i64 9, .int .i64 9, .int .i64 5, .int .i64 1]] E L (.tuple #[cfV 1 1 5 [] none 0 0 0 0 false none 0 0, .int .i64 0]) := CallV.castV (New_call E L 9 9 5 1) (by kernel_rfl)
theorem Needs_ex (gv : Value) (hg : GrE E gv exG) : CallV Try.prog 20 #[gv, cfV 1 1 5 [] none 0 0 0 0 false none 0 0] E L (.tuple #[.int .i64 1, .int .i64 0]) :=
  CallV.castV (CNeeds_call E L 1 1 5 [] none 0 0 0 0 false none 0 0 gv exG hg exG_light exG_ok (.inl rfl) (by rfl) (by simp) [] SlE.nilT (by decide +kernel) [] SlE.nil (by omega)) (by kernel_rfl)
theorem Same_ex : CallV Try.prog 11 #[cfV 1 1 5 [] none 0 0 0 0 false none 0 0, cfV 1 1 5 [] none 0 0 0 0 false none 0 0] E L (.bool true) :=
  CallV.castV (SameConf_call E L 1 1 5 1 1 5 [] [] none none 0 0 0 0 0 0 0 0 false false none none 0 0 0 0 [] [] [] [] SlE.nilT SlE.nilT SlE.nil SlE.nil (by omega) (by omega) (by omega) (by omega)) (by rfl)
theorem awake_call' : CallS Try.prog 6 #[] E L (fun r E' L' => r = .bool true ∧ L' = L) := by
  refine CallS.intro (l := []) _ Try.func6 rfl Try.ntmps6 rfl ?_
  refine G_seq (G_region ?_)
  refine G_val (V_assign rfl rfl) rfl rfl (.none rfl) ?_
  refine G_end (X_then (G_seq (G_region ?_)))
  refine G_callv (k := 15) (.mk rfl rfl rfl rfl) rfl rfl (.none rfl) (limits_call _ _) ?_
  refine G_callv (k := 7) (.mk rfl rfl rfl rfl) rfl rfl (.none rfl) (New_ex _ _) ?_
  refine G_val (V_move rfl rfl) rfl rfl (.none rfl) ?_
  refine G_val (V_extract rfl rfl rfl) rfl rfl (.none rfl) ?_
  refine G_val (V_extract rfl rfl rfl) rfl rfl (.none rfl) ?_
  (refine G_alloc rfl rfl rfl (.none rfl) ?_; intro b1)
  refine G_storeA rfl rfl rfl rfl (by simp [Value.oneCell']) rfl (.none rfl) (.head _ _ _) rfl ?_
  refine G_val (V_assign rfl rfl) rfl rfl (.none rfl) ?_
  refine G_end (X_then (G_seq ?_))
  refine G_drawX 8 [(1, 1), (0, 3), (2, 3), (3, 0), (4, 0), (5, 0), (6, 0), (7, 0)] mixed (by kernel_rfl) ?_
  refine F_load rfl (.head _) (V_loadA rfl rfl (Cells.own (.head _)) rfl) rfl rfl (.none rfl) ?_
  apply F_call (k := 14) rfl (.mk rfl rfl rfl rfl) rfl rfl (.none rfl)
  · (intro L0; refine CallS.mono (example_call' _ _) ?_; exact fun _ _ _ _ h => h)
  · (rintro L0 r E' L' ⟨Z1, rfl⟩; exact ⟨rfl, ⟨(by assumption), rfl⟩⟩)
  rintro r2 E3 hE4 ⟨Z5, _⟩
  refine F_callv (k := 20) rfl (.mk rfl rfl rfl rfl) rfl rfl (.none rfl) (fun _ => Needs_ex _ _ _ (by assumption)) ?_
  refine F_pure rfl (fun _ _ => V_move rfl rfl) rfl rfl (.none rfl) ?_
  refine F_pure rfl (fun _ _ => V_extract rfl rfl rfl) rfl rfl (.none rfl) ?_
  refine F_pure rfl (fun _ _ => V_extract rfl rfl rfl) rfl rfl (.none rfl) ?_
  refine F_pure rfl (fun _ _ => V_assign rfl rfl) rfl rfl (.none rfl) ?_
  refine F_pure rfl (fun _ _ => V_assign rfl rfl) rfl rfl (.none rfl) ?_
  (refine F_end (.nil _) ?_; dsimp only [List.drop])
  refine G_end (X_then (G_seq (G_region ?_)))
  refine G_val (V_move rfl rfl) rfl rfl (.none rfl) ?_
  refine G_val (V_eql rfl rfl rfl) rfl rfl (.none rfl) ?_
  refine G_val (V_move rfl rfl) rfl rfl (.none rfl) ?_
  refine G.bool_t 18 rfl (by kernel_rfl) ?_
  refine G_val (V_loadA rfl rfl (Cells.own (.head _)) rfl) rfl rfl (.yes rfl rfl rfl rfl) ?_
  refine G_val (V_build rfl rfl (by simp [fillV, setLs, setL, Value.cells]; rfl)) rfl rfl (.yes rfl rfl rfl rfl) ?_
  refine G_callv (k := 11) (.mk rfl rfl rfl rfl) rfl rfl (.yes rfl rfl rfl rfl) (Same_ex _ _) ?_
  refine G_val (V_pick_t rfl rfl rfl) rfl rfl (.none rfl) ?_
  refine G_val (V_move rfl rfl) rfl rfl (.none rfl) ?_
  refine G_val (V_move rfl rfl) rfl rfl (.yes rfl rfl rfl rfl) ?_
  refine G_val (V_eql rfl rfl rfl) rfl rfl (.yes rfl rfl rfl rfl) ?_
  refine G_val (V_pick_t rfl rfl rfl) rfl rfl (.none rfl) ?_
  refine G_val (V_move rfl rfl) rfl rfl (.none rfl) ?_
  refine G.bool_t 27 rfl (by kernel_rfl) ?_
  refine G_val (V_move rfl rfl) rfl rfl (.yes rfl rfl rfl rfl) ?_
  refine G_val (V_eql rfl rfl rfl) rfl rfl (.yes rfl rfl rfl rfl) ?_
  refine G_val (V_pick_t rfl rfl rfl) rfl rfl (.none rfl) ?_
  refine G_val (V_assign rfl rfl) rfl rfl (.none rfl) ?_
  refine G_end (X_then (G_ret ?_))
  refine G_leaveS (.drop _ (.nil _)) (by exact (.cons (.tmp rfl) (.nil))) rfl ?_ ?_
  · exact hE4
  exact ⟨(by kernel_rfl), rfl⟩
end
end Go.Proofs.Ytimiokmgnclggaa
set_option linter.unusedSimpArgs false
set_option linter.unusedVariables false
set_option maxHeartbeats 2000000
set_option maxRecDepth 20000
namespace Go.Proofs.Ytimiokmgnclggaa
open Go.RowKit
/-! The law's helpers: inside, awaits; the law ConfigLimits. -/
abbrev exT : List Tok := [⟨0, [], 5⟩]
section
variable (E : Env) (L : List Res)
theorem insideT_call : CallS Try.prog 16 #[.bool true, .slice none 0 0] E L (fun r E' L' => ∃ b, r = cfV 2 0 7 [] (some ⟨b, 0, none⟩) 1 1 0 0 false none 0 0 ∧ SlE E' 3 (some ⟨b, 0, none⟩) 1 (toks exT) ∧ L' = L) := by
  refine CallS.intro (l := [_, _]) _ Try.func16 rfl Try.ntmps16 rfl ?_
  refine G_seq (G_region ?_)
  (refine G_alloc rfl rfl rfl (.none rfl) ?_; intro b4)
  refine G_end (X_then (G_seq (G_region ?_)))
  refine G_val (V_move rfl rfl) rfl rfl (.none rfl) ?_
  refine G_val (V_lenS rfl rfl) rfl rfl (.none rfl) ?_
  refine G_val (V_gtr rfl rfl rfl) rfl rfl (.none rfl) ?_
  refine G_val (V_move rfl rfl) rfl rfl (.none rfl) ?_
  refine G_val (V_build rfl rfl (by simp [fillV, setLs, setL, Value.cells]; rfl)) rfl rfl (.none rfl) ?_
  (refine G_alloc rfl rfl rfl (.none rfl) ?_; intro b5)
  refine G_storeA rfl rfl rfl rfl (by simp [Value.oneCell']) rfl (.none rfl) (.head _ _ _) rfl ?_
  refine G_end (X_then (G_seq (G_seq (G_region ?_))))
  refine G_val (V_move rfl rfl) rfl rfl (.none rfl) ?_
  refine G_end (X_then ?_)
  refine G_cond_t rfl rfl ?_
  refine G_region ?_
  refine G_val (V_build rfl rfl (by simp [fillV, setLs, setL, Value.cells]; rfl)) rfl rfl (.none rfl) ?_
  (refine G_lit rfl rfl (by decide) (by simp [fillS, zeros, setLs, setL, Value.cells, List.range, List.range.loop]; rfl) rfl rfl (.none rfl) ?_; intro b13)
  refine G_val (V_fieldAddr rfl rfl (by decide)) rfl rfl (.none rfl) ?_
  refine G_val (V_fieldAddr rfl rfl (by decide)) rfl rfl (.none rfl) ?_
  refine G_storeAt rfl rfl rfl rfl rfl rfl (.none rfl) (.tail _ (.head _ _ _)) (Nat.le_of_ble_eq_true rfl) (by simp only [putAll, Nat.zero_add, Nat.reduceAdd, List.setIfInBounds_toArray, List.set_cons_succ, List.set_cons_zero]; rfl) ?_
  refine G_val (V_fieldAddr rfl rfl (by decide)) rfl rfl (.none rfl) ?_
  refine G_storeAt rfl rfl rfl rfl rfl rfl (.none rfl) (.tail _ (.head _ _ _)) (Nat.le_of_ble_eq_true rfl) (by simp only [putAll, Nat.zero_add, Nat.reduceAdd, List.setIfInBounds_toArray, List.set_cons_succ, List.set_cons_zero]; rfl) ?_
  refine G_end (X_then (G_seq (G_region ?_)))
  refine G_val (V_loadA rfl rfl (Cells.own (.tail _ (.head _))) rfl) rfl rfl (.none rfl) ?_
  refine G_storeA rfl rfl rfl rfl (by simp [Value.oneCell']) rfl (.none rfl) (.tail _ (.tail _ (.head _ _ _))) rfl ?_
  refine G_end (X_then (G_ret ?_))
  refine G.freezeB (k := 1) (sz := 3) (.head _ _) rfl ?_
  intro E1 hE1 hs1
  have hs2 : SlE E1 3 (some ⟨b13, 0, none⟩) 1 (toks exT) := hs1
  refine G_leaveS (.drop _ (.drop _ (.nil _))) (by exact (.cons (.cellA rfl (Cells.own (.tail _ (.head _))) rfl) (.nil))) rfl ?_ ?_
  · exact hE1
  exact ⟨_, ⟨rfl, ⟨(by assumption), rfl⟩⟩⟩
theorem insideTS_call (p : Option Addr) (c : Nat) : CallS Try.prog 16 #[.bool true, .slice p 1 c] E L (fun r E' L' => ∃ b, r = cfV 2 0 7 [] (some ⟨b, 0, none⟩) 1 1 0 0 true p 1 c ∧ SlE E' 3 (some ⟨b, 0, none⟩) 1 (toks exT) ∧ L' = L) := by
  refine CallS.intro (l := [_, _]) _ Try.func16 rfl Try.ntmps16 rfl ?_
  refine G_seq (G_region ?_)
  (refine G_alloc rfl rfl rfl (.none rfl) ?_; intro b4)
  refine G_end (X_then (G_seq (G_region ?_)))
  refine G_val (V_move rfl rfl) rfl rfl (.none rfl) ?_
  refine G_val (V_lenS rfl rfl) rfl rfl (.none rfl) ?_
  refine G_val (V_gtr rfl rfl rfl) rfl rfl (.none rfl) ?_
  refine G_val (V_move rfl rfl) rfl rfl (.none rfl) ?_
  refine G_val (V_build rfl rfl (by simp [fillV, setLs, setL, Value.cells]; rfl)) rfl rfl (.none rfl) ?_
  (refine G_alloc rfl rfl rfl (.none rfl) ?_; intro b5)
  refine G_storeA rfl rfl rfl rfl (by simp [Value.oneCell']) rfl (.none rfl) (.head _ _ _) rfl ?_
  refine G_end (X_then (G_seq (G_seq (G_region ?_))))
  refine G_val (V_move rfl rfl) rfl rfl (.none rfl) ?_
  refine G_end (X_then ?_)
  refine G_cond_t rfl rfl ?_
  refine G_region ?_
  refine G_val (V_build rfl rfl (by simp [fillV, setLs, setL, Value.cells]; rfl)) rfl rfl (.none rfl) ?_
  (refine G_lit rfl rfl (by decide) (by simp [fillS, zeros, setLs, setL, Value.cells, List.range, List.range.loop]; rfl) rfl rfl (.none rfl) ?_; intro b13)
  refine G_val (V_fieldAddr rfl rfl (by decide)) rfl rfl (.none rfl) ?_
  refine G_val (V_fieldAddr rfl rfl (by decide)) rfl rfl (.none rfl) ?_
  refine G_storeAt rfl rfl rfl rfl rfl rfl (.none rfl) (.tail _ (.head _ _ _)) (Nat.le_of_ble_eq_true rfl) (by simp only [putAll, Nat.zero_add, Nat.reduceAdd, List.setIfInBounds_toArray, List.set_cons_succ, List.set_cons_zero]; rfl) ?_
  refine G_val (V_fieldAddr rfl rfl (by decide)) rfl rfl (.none rfl) ?_
  refine G_storeAt rfl rfl rfl rfl rfl rfl (.none rfl) (.tail _ (.head _ _ _)) (Nat.le_of_ble_eq_true rfl) (by simp only [putAll, Nat.zero_add, Nat.reduceAdd, List.setIfInBounds_toArray, List.set_cons_succ, List.set_cons_zero]; rfl) ?_
  refine G_end (X_then (G_seq (G_region ?_)))
  refine G_val (V_loadA rfl rfl (Cells.own (.tail _ (.head _))) rfl) rfl rfl (.none rfl) ?_
  refine G_storeA rfl rfl rfl rfl (by simp [Value.oneCell']) rfl (.none rfl) (.tail _ (.tail _ (.head _ _ _))) rfl ?_
  refine G_end (X_then (G_ret ?_))
  refine G.freezeB (k := 1) (sz := 3) (.head _ _) rfl ?_
  intro E1 hE1 hs1
  have hs2 : SlE E1 3 (some ⟨b13, 0, none⟩) 1 (toks exT) := hs1
  refine G_leaveS (.drop _ (.drop _ (.nil _))) (by exact (.cons (.cellA rfl (Cells.own (.tail _ (.head _))) rfl) (.nil))) rfl ?_ ?_
  · exact hE1
  exact ⟨_, ⟨rfl, ⟨(by assumption), rfl⟩⟩⟩
theorem insideN_call : CallS Try.prog 16 #[.bool false, .slice none 0 0] E L (fun r E' L' => r = cfV 2 0 5 [] none 0 0 0 0 false none 0 0 ∧ E = E' ∧ L' = L) := by
  refine CallS.intro (l := [_, _]) _ Try.func16 rfl Try.ntmps16 rfl ?_
  refine G_seq (G_region ?_)
  (refine G_alloc rfl rfl rfl (.none rfl) ?_; intro b4)
  refine G_end (X_then (G_seq (G_region ?_)))
  refine G_val (V_move rfl rfl) rfl rfl (.none rfl) ?_
  refine G_val (V_lenS rfl rfl) rfl rfl (.none rfl) ?_
  refine G_val (V_gtr rfl rfl rfl) rfl rfl (.none rfl) ?_
  refine G_val (V_move rfl rfl) rfl rfl (.none rfl) ?_
  refine G_val (V_build rfl rfl (by simp [fillV, setLs, setL, Value.cells]; rfl)) rfl rfl (.none rfl) ?_
  (refine G_alloc rfl rfl rfl (.none rfl) ?_; intro b5)
  refine G_storeA rfl rfl rfl rfl (by simp [Value.oneCell']) rfl (.none rfl) (.head _ _ _) rfl ?_
  refine G_end (X_then (G_seq (G_seq (G_region ?_))))
  refine G_val (V_move rfl rfl) rfl rfl (.none rfl) ?_
  refine G_end (X_then ?_)
  refine G_cond_f rfl rfl ?_
  refine G_skip (X_then (G_seq (G_region ?_)))
  refine G_val (V_loadA rfl rfl (Cells.own (.head _)) rfl) rfl rfl (.none rfl) ?_
  refine G_storeA rfl rfl rfl rfl (by simp [Value.oneCell']) rfl (.none rfl) (.tail _ (.head _ _ _)) rfl ?_
  refine G_end (X_then (G_ret ?_))
  refine G_leaveS (.drop _ (.drop _ (.nil _))) (by exact (.cons (.cellA rfl (Cells.own (.tail _ (.head _))) rfl) (.nil))) rfl ?_ ?_
  · exact (.refl _)
  exact ⟨(by kernel_rfl), ⟨rfl, rfl⟩⟩
theorem insideNS_call (p : Option Addr) (c : Nat) : CallS Try.prog 16 #[.bool false, .slice p 1 c] E L (fun r E' L' => r = cfV 2 0 5 [] none 0 0 0 0 true p 1 c ∧ E = E' ∧ L' = L) := by
  refine CallS.intro (l := [_, _]) _ Try.func16 rfl Try.ntmps16 rfl ?_
  refine G_seq (G_region ?_)
  (refine G_alloc rfl rfl rfl (.none rfl) ?_; intro b4)
  refine G_end (X_then (G_seq (G_region ?_)))
  refine G_val (V_move rfl rfl) rfl rfl (.none rfl) ?_
  refine G_val (V_lenS rfl rfl) rfl rfl (.none rfl) ?_
  refine G_val (V_gtr rfl rfl rfl) rfl rfl (.none rfl) ?_
  refine G_val (V_move rfl rfl) rfl rfl (.none rfl) ?_
  refine G_val (V_build rfl rfl (by simp [fillV, setLs, setL, Value.cells]; rfl)) rfl rfl (.none rfl) ?_
  (refine G_alloc rfl rfl rfl (.none rfl) ?_; intro b5)
  refine G_storeA rfl rfl rfl rfl (by simp [Value.oneCell']) rfl (.none rfl) (.head _ _ _) rfl ?_
  refine G_end (X_then (G_seq (G_seq (G_region ?_))))
  refine G_val (V_move rfl rfl) rfl rfl (.none rfl) ?_
  refine G_end (X_then ?_)
  refine G_cond_f rfl rfl ?_
  refine G_skip (X_then (G_seq (G_region ?_)))
  refine G_val (V_loadA rfl rfl (Cells.own (.head _)) rfl) rfl rfl (.none rfl) ?_
  refine G_storeA rfl rfl rfl rfl (by simp [Value.oneCell']) rfl (.none rfl) (.tail _ (.head _ _ _)) rfl ?_
  refine G_end (X_then (G_ret ?_))
  refine G_leaveS (.drop _ (.drop _ (.nil _))) (by exact (.cons (.cellA rfl (Cells.own (.tail _ (.head _))) rfl) (.nil))) rfl ?_ ?_
  · exact (.refl _)
  exact ⟨rfl, ⟨rfl, rfl⟩⟩
section
/-- What the examples' configurations are, and what they await and need. -/
structure ExOk (st rc at' : Int) (part : List UInt8) (l : List Tok) (e ea : Int) (b : Bool) (us : List Spt) (kd sy nd : Int) : Prop where
  h3 : st = 1 ∨ st = 2
  hr : rngB rc at' = true
  hp : part.length ≤ 1
  hgr : gringB exG.k exG.toks.length l e ea = true
  hk : ckM exG st at' part l e ea b us = 0
  ha : awC exG st b us = (kd, sy)
  hnd : needC exG st l.length e b us = nd
variable (st rc at' : Int) (part : List UInt8) (tp : Option Addr) (tn tc : Nat) (e ea : Int) (b : Bool) (sp : Option Addr) (sn sc : Nat)
  (l : List Tok) (hs : SlE E 3 tp tn (toks l)) (us : List Spt) (hu : SlE E 2 sp sn (spC us)) (hn : sn ≤ 9223372036854775807) (kd sy nd : Int) (hx : ExOk st rc at' part l e ea b us kd sy nd)
include hs hu hn hx
theorem CAwaits_call' (gv : Value) (hg : GrE E gv exG) : CallV Try.prog 29 #[gv, cfV st rc at' part tp tn tc e ea b sp sn sc] E L (.tuple #[.int .i64 kd, .int .i64 sy, .int .i64 0]) := by
  have := CAwaits_call E L st rc at' part tp tn tc e ea b sp sn sc gv exG hg exG_light exG_ok hx.h3 hx.hr hx.hp l hs hx.hgr us hu hn
  rwa [hx.hk, if_pos rfl, if_pos rfl, hx.ha] at this
theorem CNeeds_call' (gv : Value) (hg : GrE E gv exG) : CallV Try.prog 20 #[gv, cfV st rc at' part tp tn tc e ea b sp sn sc] E L (.tuple #[.int .i64 nd, .int .i64 0]) := by
  have := CNeeds_call E L st rc at' part tp tn tc e ea b sp sn sc gv exG hg exG_light exG_ok hx.h3 hx.hr hx.hp l hs hx.hgr us hu hn
  rwa [hx.hk, if_pos rfl, hx.hnd] at this
theorem CWaits_call' (gv : Value) (hg : GrE E gv exG) : CallV Try.prog 30 #[gv, cfV st rc at' part tp tn tc e ea b sp sn sc] E L (.tuple #[.bool (decide (0 < nd)), .int .i64 0]) := by
  have := CWaits_call E L st rc at' part tp tn tc e ea b sp sn sc gv exG hg exG_light exG_ok hx.h3 hx.hr hx.hp l hs hx.hgr us hu hn
  rwa [hx.hk, if_pos rfl, hx.hnd] at this
theorem awaitsC_call : CallS Try.prog 17 #[cfV st rc at' part tp tn tc e ea b sp sn sc, .int .i64 kd, .int .i64 sy, .int .i64 nd] E L (fun r E' L' => r = .bool true ∧ L' = L) := by
  refine CallS.intro (l := [_, _, _, _]) _ Try.func17 rfl Try.ntmps17 rfl ?_
  refine G_seq (G_region ?_)
  (refine G_boxA rfl rfl rfl rfl (.none rfl) ?_; intro b4)
  refine G_val (V_assign rfl rfl) rfl rfl (.none rfl) ?_
  refine G_end (X_then (G_seq ?_))
  refine G_drawX 10 [(1, 1), (0, 3), (2, 3), (3, 0), (4, 0), (5, 0), (6, 0), (7, 0), (8, 0), (9, 0)] mixed (by kernel_rfl) ?_
  refine F_load rfl (.head _) (V_loadA rfl rfl (Cells.own (.head _)) rfl) rfl rfl (.none rfl) ?_
  apply F_call (k := 14) rfl (.mk rfl rfl rfl rfl) rfl rfl (.none rfl)
  · (intro L0; refine CallS.mono (example_call' _ _) ?_; exact fun _ _ _ _ h => h)
  · (rintro L0 r E' L' ⟨Z1, rfl⟩; exact ⟨rfl, ⟨(by assumption), rfl⟩⟩)
  rintro r2 E3 hE4 ⟨Z5, _⟩
  replace hs := hs.mono hE4
  replace hu := hu.mono hE4
  refine F_callv (k := 29) rfl (.mk rfl rfl rfl rfl) rfl rfl (.none rfl) (fun _ => CAwaits_call' _ _ _ _ _ _ _ _ _ _ _ _ _ _ _ _ (by assumption) _ (by assumption) (by assumption) _ _ _ (by assumption) _ (by assumption)) ?_
  refine F_pure rfl (fun _ _ => V_move rfl rfl) rfl rfl (.none rfl) ?_
  refine F_pure rfl (fun _ _ => V_extract rfl rfl rfl) rfl rfl (.none rfl) ?_
  refine F_pure rfl (fun _ _ => V_extract rfl rfl rfl) rfl rfl (.none rfl) ?_
  refine F_pure rfl (fun _ _ => V_extract rfl rfl rfl) rfl rfl (.none rfl) ?_
  refine F_pure rfl (fun _ _ => V_assign rfl rfl) rfl rfl (.none rfl) ?_
  refine F_pure rfl (fun _ _ => V_assign rfl rfl) rfl rfl (.none rfl) ?_
  refine F_pure rfl (fun _ _ => V_assign rfl rfl) rfl rfl (.none rfl) ?_
  (refine F_end (.nil _) ?_; dsimp only [List.drop])
  refine G_end (X_then (G_seq ?_))
  refine G_drawX 8 [(1, 1), (0, 3), (2, 3), (3, 0), (4, 0), (5, 0), (6, 0), (7, 0)] mixed (by kernel_rfl) ?_
  refine F_load rfl (.head _) (V_loadA rfl rfl (Cells.own (.head _)) rfl) rfl rfl (.none rfl) ?_
  apply F_call (k := 14) rfl (.mk rfl rfl rfl rfl) rfl rfl (.none rfl)
  · (intro L0; refine CallS.mono (example_call' _ _) ?_; exact fun _ _ _ _ h => h)
  · (rintro L0 r E' L' ⟨Z6, rfl⟩; exact ⟨rfl, ⟨(by assumption), rfl⟩⟩)
  rintro r7 E8 hE9 ⟨Z10, _⟩
  replace Z5 := Z5.mono hE9
  replace hs := hs.mono hE9
  replace hu := hu.mono hE9
  refine F_callv (k := 20) rfl (.mk rfl rfl rfl rfl) rfl rfl (.none rfl) (fun _ => CNeeds_call' _ _ _ _ _ _ _ _ _ _ _ _ _ _ _ _ (by assumption) _ (by assumption) (by assumption) _ _ _ (by assumption) _ (by assumption)) ?_
  refine F_pure rfl (fun _ _ => V_move rfl rfl) rfl rfl (.none rfl) ?_
  refine F_pure rfl (fun _ _ => V_extract rfl rfl rfl) rfl rfl (.none rfl) ?_
  refine F_pure rfl (fun _ _ => V_extract rfl rfl rfl) rfl rfl (.none rfl) ?_
  refine F_pure rfl (fun _ _ => V_assign rfl rfl) rfl rfl (.none rfl) ?_
  refine F_pure rfl (fun _ _ => V_assign rfl rfl) rfl rfl (.none rfl) ?_
  (refine F_end (.nil _) ?_; dsimp only [List.drop])
  refine G_end (X_then (G_seq ?_))
  refine G_drawX 8 [(1, 1), (0, 3), (2, 3), (3, 0), (4, 0), (5, 0), (6, 0), (7, 0)] mixed (by kernel_rfl) ?_
  refine F_load rfl (.head _) (V_loadA rfl rfl (Cells.own (.head _)) rfl) rfl rfl (.none rfl) ?_
  apply F_call (k := 14) rfl (.mk rfl rfl rfl rfl) rfl rfl (.none rfl)
  · (intro L0; refine CallS.mono (example_call' _ _) ?_; exact fun _ _ _ _ h => h)
  · (rintro L0 r E' L' ⟨Z11, rfl⟩; exact ⟨rfl, ⟨(by assumption), rfl⟩⟩)
  rintro r12 E13 hE14 ⟨Z15, _⟩
  replace Z10 := Z10.mono hE14
  replace Z5 := Z5.mono hE14
  replace hs := hs.mono hE14
  replace hu := hu.mono hE14
  refine F_callv (k := 30) rfl (.mk rfl rfl rfl rfl) rfl rfl (.none rfl) (fun _ => CWaits_call' _ _ _ _ _ _ _ _ _ _ _ _ _ _ _ _ (by assumption) _ (by assumption) (by assumption) _ _ _ (by assumption) _ (by assumption)) ?_
  refine F_pure rfl (fun _ _ => V_move rfl rfl) rfl rfl (.none rfl) ?_
  refine F_pure rfl (fun _ _ => V_extract rfl rfl rfl) rfl rfl (.none rfl) ?_
  refine F_pure rfl (fun _ _ => V_extract rfl rfl rfl) rfl rfl (.none rfl) ?_
  refine F_pure rfl (fun _ _ => V_assign rfl rfl) rfl rfl (.none rfl) ?_
  refine F_pure rfl (fun _ _ => V_assign rfl rfl) rfl rfl (.none rfl) ?_
  (refine F_end (.nil _) ?_; dsimp only [List.drop])
  refine G_end (X_then (G_seq (G_region ?_)))
  refine G_val (V_move rfl rfl) rfl rfl (.none rfl) ?_
  refine G_val (V_move rfl rfl) rfl rfl (.none rfl) ?_
  refine G_val (V_eql rfl rfl rfl) rfl rfl (.none rfl) ?_
  refine G_val (V_move rfl rfl) rfl rfl (.none rfl) ?_
  refine G.bool_t 38 rfl (decide_eq_true (by omega)) ?_
  refine G_val (V_move rfl rfl) rfl rfl (.yes rfl rfl rfl rfl) ?_
  refine G_val (V_move rfl rfl) rfl rfl (.yes rfl rfl rfl rfl) ?_
  refine G_val (V_eql rfl rfl rfl) rfl rfl (.yes rfl rfl rfl rfl) ?_
  refine G_val (V_pick_t rfl rfl rfl) rfl rfl (.none rfl) ?_
  refine G_val (V_move rfl rfl) rfl rfl (.none rfl) ?_
  refine G.bool_t 43 rfl (decide_eq_true (by omega)) ?_
  refine G_val (V_move rfl rfl) rfl rfl (.yes rfl rfl rfl rfl) ?_
  refine G_val (V_eql rfl rfl rfl) rfl rfl (.yes rfl rfl rfl rfl) ?_
  refine G_val (V_pick_t rfl rfl rfl) rfl rfl (.none rfl) ?_
  refine G_val (V_move rfl rfl) rfl rfl (.none rfl) ?_
  refine G.bool_t 47 rfl (by kernel_rfl) ?_
  refine G_val (V_move rfl rfl) rfl rfl (.yes rfl rfl rfl rfl) ?_
  refine G_val (V_move rfl rfl) rfl rfl (.yes rfl rfl rfl rfl) ?_
  refine G_val (V_eql rfl rfl rfl) rfl rfl (.yes rfl rfl rfl rfl) ?_
  refine G_val (V_pick_t rfl rfl rfl) rfl rfl (.none rfl) ?_
  refine G_val (V_move rfl rfl) rfl rfl (.none rfl) ?_
  refine G.bool_t 52 rfl (decide_eq_true (by omega)) ?_
  refine G_val (V_move rfl rfl) rfl rfl (.yes rfl rfl rfl rfl) ?_
  refine G_val (V_eql rfl rfl rfl) rfl rfl (.yes rfl rfl rfl rfl) ?_
  refine G_val (V_pick_t rfl rfl rfl) rfl rfl (.none rfl) ?_
  refine G_val (V_move rfl rfl) rfl rfl (.none rfl) ?_
  refine G.bool_t 56 rfl (by kernel_rfl) ?_
  refine G_val (V_move rfl rfl) rfl rfl (.yes rfl rfl rfl rfl) ?_
  refine G_val (V_move rfl rfl) rfl rfl (.yes rfl rfl rfl rfl) ?_
  refine G_val (V_gtr rfl rfl rfl) rfl rfl (.yes rfl rfl rfl rfl) ?_
  refine G_val (V_beql rfl rfl rfl) rfl rfl (.yes rfl rfl rfl rfl) ?_
  refine G_val (V_pick_t rfl rfl rfl) rfl rfl (.none rfl) ?_
  refine G_val (V_move rfl rfl) rfl rfl (.none rfl) ?_
  refine G.bool_t 62 rfl (by simp [*]; done) ?_
  refine G_val (V_move rfl rfl) rfl rfl (.yes rfl rfl rfl rfl) ?_
  refine G_val (V_eql rfl rfl rfl) rfl rfl (.yes rfl rfl rfl rfl) ?_
  refine G_val (V_pick_t rfl rfl rfl) rfl rfl (.none rfl) ?_
  refine G_val (V_assign rfl rfl) rfl rfl (.none rfl) ?_
  refine G_end (X_then (G_ret ?_))
  refine G_leaveS (.drop _ (.nil _)) (by exact (.cons (.tmp rfl) (.nil))) rfl ?_ ?_
  · exact ((hE4.trans hE9).trans hE14)
  exact ⟨(by kernel_rfl), rfl⟩
end
end
end Go.Proofs.Ytimiokmgnclggaa
set_option linter.unusedSimpArgs false
set_option linter.unusedVariables false
set_option maxHeartbeats 2000000
set_option maxRecDepth 20000
namespace Go.Proofs.Ytimiokmgnclggaa
open Go.RowKit
/-! The law ConfigKnown. -/
section
variable (E : Env) (L : List Res)
theorem Limits_k1 : CallV Try.prog 9 #[.agg #[.int .i64 0, .int .i64 9, .int .i64 5, .int .i64 1]] E L (.int .i64 21) := CallV.castV (Limits_call E L 0 9 5 1) (by kernel_rfl)
theorem Limits_k2 : CallV Try.prog 9 #[.agg #[.int .i64 9, .int .i64 65, .int .i64 5, .int .i64 1]] E L (.int .i64 6) := CallV.castV (Limits_call E L 9 65 5 1) (by kernel_rfl)
theorem Limits_call' : CallV Try.prog 9 #[.agg #[.int .i64 9, .int .i64 9, .int .i64 (-1), .int .i64 1]] E L (.int .i64 2) := CallV.castV (Limits_call E L 9 9 (-1) 1) (by kernel_rfl)
theorem aw1 (b : Nat) (hs : SlE E 3 (some ⟨b, 0, none⟩) 1 (toks exT)) : CallS Try.prog 17 #[cfV 2 0 7 [] (some ⟨b, 0, none⟩) 1 1 0 0 false none 0 0, .int .i64 2, .int .i64 16, .int .i64 1] E L (fun r E' L' => r = .bool true ∧ L' = L) :=
  awaitsC_call E L 2 0 7 [] _ 1 1 0 0 false none 0 0 exT hs [] SlE.nil (by omega) 2 16 1 ⟨.inr rfl, rfl, by simp, by decide +kernel, by kernel_rfl, by kernel_rfl, by kernel_rfl⟩
theorem aw2 (b : Nat) (hs : SlE E 3 (some ⟨b, 0, none⟩) 1 (toks exT)) : CallS Try.prog 17 #[cfV 2 0 9 [] (some ⟨b, 0, none⟩) 1 1 1 7 false none 0 0, .int .i64 2, .int .i64 16, .int .i64 0] E L (fun r E' L' => r = .bool true ∧ L' = L) :=
  awaitsC_call E L 2 0 9 [] _ 1 1 1 7 false none 0 0 exT hs [] SlE.nil (by omega) 2 16 0 ⟨.inr rfl, rfl, by simp, by decide +kernel, by kernel_rfl, by kernel_rfl, by kernel_rfl⟩
theorem aw3 (p : Option Addr) (c : Nat) (hs : SlE E 2 p 1 [.int .i64 0, .int .i64 0]) : CallS Try.prog 17 #[cfV 2 0 5 [] none 0 0 0 0 true p 1 c, .int .i64 1, .int .i64 0, .int .i64 1] E L (fun r E' L' => r = .bool true ∧ L' = L) :=
  awaitsC_call E L 2 0 5 [] none 0 0 0 0 true p 1 c [] SlE.nilT [(0, 0)] hs (by omega) 1 0 1 ⟨.inr rfl, rfl, by simp, by decide +kernel, by kernel_rfl, by kernel_rfl, by kernel_rfl⟩
theorem aw4 (b : Nat) (hs : SlE E 3 (some ⟨b, 0, none⟩) 1 (toks exT)) (p : Option Addr) (c : Nat) (hs : SlE E 2 p 1 [.int .i64 0, .int .i64 1]) : CallS Try.prog 17 #[cfV 2 0 7 [] (some ⟨b, 0, none⟩) 1 1 0 0 true p 1 c, .int .i64 2, .int .i64 16, .int .i64 1] E L (fun r E' L' => r = .bool true ∧ L' = L) :=
  awaitsC_call E L 2 0 7 [] _ 1 1 0 0 true p 1 c exT (by assumption) [(0, 1)] hs (by omega) 2 16 1 ⟨.inr rfl, rfl, by simp, by decide +kernel, by kernel_rfl, by kernel_rfl, by kernel_rfl⟩
theorem awaitsC_call' (b : Nat) (hs : SlE E 3 (some ⟨b, 0, none⟩) 1 (toks exT)) (p : Option Addr) (c : Nat) (hs : SlE E 2 p 1 [.int .i64 0, .int .i64 2]) : CallS Try.prog 17 #[cfV 2 0 7 [] (some ⟨b, 0, none⟩) 1 1 0 0 true p 1 c, .int .i64 3, .int .i64 16, .int .i64 0] E L (fun r E' L' => r = .bool true ∧ L' = L) :=
  awaitsC_call E L 2 0 7 [] _ 1 1 0 0 true p 1 c exT (by assumption) [(0, 2)] hs (by omega) 3 16 0 ⟨.inr rfl, rfl, by simp, by decide +kernel, by kernel_rfl, by kernel_rfl, by kernel_rfl⟩
variable (gv : Value) (hg : GrE E gv exG) (b : Nat)
theorem CCheckState_call' (hg : GrE E gv exG) : CallV Try.prog 18 #[gv, cfV 7 0 7 [] (some ⟨b, 0, none⟩) 1 1 0 0 false none 0 0] E L (.int .i64 10) := CCheckState_call E L _ _ _ _ _ _ _ _ _ _ _ _ _ gv exG hg exG_light exG_ok (by omega)
theorem CCheckRange_call' (hg : GrE E gv exG) : CallV Try.prog 18 #[gv, cfV 2 0 (-1) [] (some ⟨b, 0, none⟩) 1 1 0 0 false none 0 0] E L (.int .i64 2) := CCheckRange_call E L _ _ _ _ _ _ _ _ _ _ _ _ _ gv exG hg exG_light exG_ok (by omega) (by rfl)
theorem CCheckFull_call' (hg : GrE E gv exG) : CallV Try.prog 18 #[gv, cfV 2 0 7 [] (some ⟨b, 0, none⟩) 3 3 0 0 false none 0 0] E L (.int .i64 6) := CCheckFull_call E L _ _ _ _ _ _ _ _ _ _ _ _ _ gv exG hg exG_light exG_ok (by omega) (by rfl) (by decide) (by decide) (by decide) (by decide) (by decide)
theorem CCheckBad_call' (hg : GrE E gv exG) (hs : SlE E 3 (some ⟨b, 0, none⟩) 1 (toks exT)) : CallV Try.prog 18 #[gv, cfV 2 0 7 [3] (some ⟨b, 0, none⟩) 1 1 0 0 false none 0 0] E L (.int .i64 14) :=
  CallV.castV (CCheck_call E L 2 0 7 [3] _ 1 1 0 0 false none 0 0 gv exG hg exG_light exG_ok (.inr rfl) (by rfl) (by simp) exT hs (by decide +kernel) [] SlE.nil (by omega)) (by kernel_rfl)
theorem CCheck_k5 (hg : GrE E gv exG) (hs : SlE E 3 (some ⟨b, 0, none⟩) 1 (toks exT)) : CallV Try.prog 18 #[gv, cfV 2 0 9 [] (some ⟨b, 0, none⟩) 1 1 0 0 false none 0 0] E L (.int .i64 9) :=
  CallV.castV (CCheck_call E L 2 0 9 [] _ 1 1 0 0 false none 0 0 gv exG hg exG_light exG_ok (.inr rfl) (by rfl) (by simp) exT hs (by decide +kernel) [] SlE.nil (by omega)) (by kernel_rfl)
theorem CCheck_call' (hg : GrE E gv exG) (p : Option Addr) (c : Nat) (hs : SlE E 2 p 1 [.int .i64 0, .int .i64 0]) : CallV Try.prog 18 #[gv, cfV 1 0 5 [] none 0 0 0 0 false p 1 c] E L (.int .i64 10) :=
  CallV.castV (CCheck_call E L 1 0 5 [] none 0 0 0 0 false p 1 c gv exG hg exG_light exG_ok (.inl rfl) (by rfl) (by simp) [] SlE.nilT (by decide +kernel) [(0, 0)] hs (by omega)) (by kernel_rfl)
theorem CPlace_k1 (hg : GrE E gv exG) (hs : SlE E 3 (some ⟨b, 0, none⟩) 1 (toks exT)) : CallV Try.prog 19 #[gv, cfV 2 0 7 [] (some ⟨b, 0, none⟩) 1 1 0 0 false none 0 0] E L (.tuple #[.int .i64 5, .int .i64 0]) :=
  CallV.castV (CPlace_call E L 2 0 7 [] _ 1 1 0 0 false none 0 0 gv exG hg exG_light exG_ok (.inr rfl) (by rfl) (by simp) exT hs (by decide +kernel) [] SlE.nil (by omega) rfl) (by kernel_rfl)
theorem CPlace_call' (hg : GrE E gv exG) : CallV Try.prog 19 #[gv, cfV 1 0 6 [0] none 0 0 0 0 false none 0 0] E L (.tuple #[.int .i64 5, .int .i64 0]) :=
  CallV.castV (CPlace_call E L 1 0 6 [0] none 0 0 0 0 false none 0 0 gv exG hg exG_light exG_ok (.inl rfl) (by rfl) (by simp) [] SlE.nilT (by decide +kernel) [] SlE.nil (by omega) rfl) (by kernel_rfl)
end
section
variable (E : Env) (L : List Res)
theorem ConfigKnown_call : CallS Try.prog 4 #[] E L (fun r E' L' => r = .bool true ∧ L' = L) := by
  refine CallS.intro (l := []) _ Try.func4 rfl Try.ntmps4 rfl ?_
  refine G_seq (G_region ?_)
  refine G_val (V_assign rfl rfl) rfl rfl (.none rfl) ?_
  refine G_end (X_then (G_seq (G_region ?_)))
  refine G_call (k := 14) (.mk rfl rfl rfl rfl) rfl rfl (.none rfl) (example_call' _ _) ?_
  rintro r1 E2 L3 hE4 ⟨Z5, rfl⟩
  (refine G_alloc rfl rfl rfl (.none rfl) ?_; intro b1)
  have hg0 : GrE E2 r1 exG := by assumption
  have hg1 := hg0
  obtain ⟨tp, tc, np, nc, pp, pc, rfl, _⟩ := hg1
  refine G_storeA rfl rfl rfl rfl (by simp [Value.oneCell']) rfl (.none rfl) (.head _ _ _) rfl ?_
  refine G_end (X_then (G_seq (G_region ?_)))
  refine G_callv (k := 15) (.mk rfl rfl rfl rfl) rfl rfl (.none rfl) (limits_call _ _) ?_
  refine G_callv (k := 15) (.mk rfl rfl rfl rfl) rfl rfl (.none rfl) (limits_call _ _) ?_
  refine G_callv (k := 15) (.mk rfl rfl rfl rfl) rfl rfl (.none rfl) (limits_call _ _) ?_
  (refine G_alloc rfl rfl rfl (.none rfl) ?_; intro b2)
  (refine G_alloc rfl rfl rfl (.none rfl) ?_; intro b3)
  (refine G_alloc rfl rfl rfl (.none rfl) ?_; intro b4)
  refine G_storeA rfl rfl rfl rfl (by simp [Value.oneCell']) rfl (.none rfl) (.tail _ (.tail _ (.head _ _ _))) rfl ?_
  refine G_storeA rfl rfl rfl rfl (by simp [Value.oneCell']) rfl (.none rfl) (.tail _ (.head _ _ _)) rfl ?_
  refine G_storeA rfl rfl rfl rfl (by simp [Value.oneCell']) rfl (.none rfl) (.head _ _ _) rfl ?_
  refine G_end (X_then (G_seq (G_region ?_)))
  refine G_val (V_fieldAddr rfl rfl (by decide)) rfl rfl (.none rfl) ?_
  refine G_storeAt rfl rfl rfl rfl rfl rfl (.none rfl) (.tail _ (.tail _ (.head _ _ _))) (Nat.le_of_ble_eq_true rfl) (by simp only [putAll, Nat.zero_add, Nat.reduceAdd, List.setIfInBounds_toArray, List.set_cons_succ, List.set_cons_zero]; rfl) ?_
  refine G_val (V_fieldAddr rfl rfl (by decide)) rfl rfl (.none rfl) ?_
  refine G_storeAt rfl rfl rfl rfl rfl rfl (.none rfl) (.tail _ (.head _ _ _)) (Nat.le_of_ble_eq_true rfl) (by simp only [putAll, Nat.zero_add, Nat.reduceAdd, List.setIfInBounds_toArray, List.set_cons_succ, List.set_cons_zero]; rfl) ?_
  refine G_val (V_fieldAddr rfl rfl (by decide)) rfl rfl (.none rfl) ?_
  refine G_storeAt rfl rfl rfl rfl rfl rfl (.none rfl) (.head _ _ _) (Nat.le_of_ble_eq_true rfl) (by simp only [putAll, Nat.zero_add, Nat.reduceAdd, List.setIfInBounds_toArray, List.set_cons_succ, List.set_cons_zero]; rfl) ?_
  refine G_end (X_then (G_seq (G_region ?_)))
  refine G_call (k := 16) (.mk rfl rfl rfl rfl) rfl rfl (.none rfl) (insideT_call _ _) ?_
  rintro r1 E3 L4 hE5 ⟨z6, ⟨rfl, ⟨Z7, rfl⟩⟩⟩
  replace Z5 := Z5.mono hE5
  replace hg0 := hg0.mono hE5
  dsimp only [Go.Proofs.Ytimiokmgnclggaa.cfV]
  (refine G_alloc rfl rfl rfl (.none rfl) ?_; intro b5)
  refine G_storeA rfl rfl rfl rfl (by simp [Value.oneCell']) rfl (.none rfl) (.head _ _ _) rfl ?_
  refine G_end (X_then (G_seq (G_region ?_)))
  refine G_val (V_fieldAddr rfl rfl (by decide)) rfl rfl (.none rfl) ?_
  refine G_val (V_fieldAddr rfl rfl (by decide)) rfl rfl (.none rfl) ?_
  refine G_storeAt rfl rfl rfl rfl rfl rfl (.none rfl) (.head _ _ _) (Nat.le_of_ble_eq_true rfl) (by simp only [putAll, Nat.zero_add, Nat.reduceAdd, List.setIfInBounds_toArray, List.set_cons_succ, List.set_cons_zero]; rfl) ?_
  refine G_val (V_fieldAddr rfl rfl (by decide)) rfl rfl (.none rfl) ?_
  refine G_val (V_fieldAddr rfl rfl (by decide)) rfl rfl (.none rfl) ?_
  refine G_storeAt rfl rfl rfl rfl rfl rfl (.none rfl) (.head _ _ _) (Nat.le_of_ble_eq_true rfl) (by simp only [putAll, Nat.zero_add, Nat.reduceAdd, List.setIfInBounds_toArray, List.set_cons_succ, List.set_cons_zero]; rfl) ?_
  refine G_val (V_fieldAddr rfl rfl (by decide)) rfl rfl (.none rfl) ?_
  refine G_storeAt rfl rfl rfl rfl rfl rfl (.none rfl) (.head _ _ _) (Nat.le_of_ble_eq_true rfl) (by simp only [putAll, Nat.zero_add, Nat.reduceAdd, List.setIfInBounds_toArray, List.set_cons_succ, List.set_cons_zero]; rfl) ?_
  refine G_end (X_then (G_seq (G_seq (G_region ?_))))
  refine G_val (V_loadA rfl rfl (Cells.own (.tail _ (.tail _ (.tail _ (.head _))))) rfl) rfl rfl (.none rfl) ?_
  refine G_callv (k := 9) (.mk rfl rfl rfl rfl) rfl rfl (.none rfl) (Limits_k1 _ _) ?_
  refine G_val (V_neq rfl rfl rfl) rfl rfl (.none rfl) ?_
  refine G_val (V_move rfl rfl) rfl rfl (.none rfl) ?_
  refine G.bool_f 33 rfl (by kernel_rfl) ?_
  refine G_val (V_loadA rfl rfl (Cells.own (.tail _ (.tail _ (.head _)))) rfl) rfl rfl (.yes rfl rfl rfl rfl) ?_
  refine G_callv (k := 9) (.mk rfl rfl rfl rfl) rfl rfl (.yes rfl rfl rfl rfl) (Limits_k2 _ _) ?_
  refine G_val (V_neq rfl rfl rfl) rfl rfl (.yes rfl rfl rfl rfl) ?_
  refine G_val (V_pick_f rfl rfl rfl) rfl rfl (.none rfl) ?_
  refine G_val (V_move rfl rfl) rfl rfl (.none rfl) ?_
  refine G.bool_f 38 rfl (by kernel_rfl) ?_
  refine G_val (V_loadA rfl rfl (Cells.own (.tail _ (.head _))) rfl) rfl rfl (.yes rfl rfl rfl rfl) ?_
  refine G_callv (k := 9) (.mk rfl rfl rfl rfl) rfl rfl (.yes rfl rfl rfl rfl) (Limits_call' _ _) ?_
  refine G_val (V_neq rfl rfl rfl) rfl rfl (.yes rfl rfl rfl rfl) ?_
  refine G_val (V_pick_f rfl rfl rfl) rfl rfl (.none rfl) ?_
  refine G_val (V_move rfl rfl) rfl rfl (.none rfl) ?_
  refine G.bool_f 43 rfl (by kernel_rfl) ?_
  refine G_call (k := 16) (.mk rfl rfl rfl rfl) rfl rfl (.yes rfl rfl rfl rfl) (insideT_call _ _) ?_
  rintro r8 E9 L10 hE11 ⟨z12, ⟨rfl, ⟨Z13, rfl⟩⟩⟩
  replace Z7 := Z7.mono hE11
  replace Z5 := Z5.mono hE11
  replace hg0 := hg0.mono hE11
  dsimp only [Go.Proofs.Ytimiokmgnclggaa.cfV]
  refine G_call (k := 17) (.mk rfl rfl rfl rfl) rfl rfl (.yes rfl rfl rfl rfl) (aw1 _ _ _ (by assumption)) ?_
  rintro r14 E15 L16 hE17 ⟨rfl, rfl⟩
  replace Z13 := Z13.mono hE17
  replace Z7 := Z7.mono hE17
  replace Z5 := Z5.mono hE17
  replace hg0 := hg0.mono hE17
  refine G_val (V_not rfl rfl) rfl rfl (.yes rfl rfl rfl rfl) ?_
  refine G_val (V_pick_f rfl rfl rfl) rfl rfl (.none rfl) ?_
  refine G_val (V_move rfl rfl) rfl rfl (.none rfl) ?_
  refine G.bool_f 48 rfl (by kernel_rfl) ?_
  refine G_val (V_loadA rfl rfl (Cells.own (.head _)) rfl) rfl rfl (.yes rfl rfl rfl rfl) ?_
  refine G_call (k := 17) (.mk rfl rfl rfl rfl) rfl rfl (.yes rfl rfl rfl rfl) (aw2 _ _ _ (by assumption)) ?_
  rintro r18 E19 L20 hE21 ⟨rfl, rfl⟩
  replace Z13 := Z13.mono hE21
  replace Z7 := Z7.mono hE21
  replace Z5 := Z5.mono hE21
  replace hg0 := hg0.mono hE21
  refine G_val (V_not rfl rfl) rfl rfl (.yes rfl rfl rfl rfl) ?_
  refine G_val (V_pick_f rfl rfl rfl) rfl rfl (.none rfl) ?_
  refine G_val (V_move rfl rfl) rfl rfl (.none rfl) ?_
  refine G.bool_f 53 rfl (by kernel_rfl) ?_
  refine G_val (V_build rfl rfl (by simp [fillV, setLs, setL, Value.cells]; rfl)) rfl rfl (.yes rfl rfl rfl rfl) ?_
  (refine G_litZ rfl rfl (by decide) (by simp [fillS, zeros, setLs, setL, Value.cells, List.range, List.range.loop]; rfl) (by rfl) rfl rfl (.yes rfl rfl rfl rfl) ?_; intro b55 E55 hE55 hs55)
  replace Z13 := Z13.mono hE55
  replace Z7 := Z7.mono hE55
  replace Z5 := Z5.mono hE55
  replace hg0 := hg0.mono hE55
  refine G_call (k := 16) (.mk rfl rfl rfl rfl) rfl rfl (.yes rfl rfl rfl rfl) (insideNS_call _ _ _ _) ?_
  rintro r22 E23 L24 hE25 ⟨rfl, ⟨rfl, rfl⟩⟩
  replace hs55 := hs55.mono hE25
  replace Z13 := Z13.mono hE25
  replace Z7 := Z7.mono hE25
  replace Z5 := Z5.mono hE25
  replace hg0 := hg0.mono hE25
  dsimp only [Go.Proofs.Ytimiokmgnclggaa.cfV]
  refine G_call (k := 17) (.mk rfl rfl rfl rfl) rfl rfl (.yes rfl rfl rfl rfl) (aw3 _ _ _ _ (by assumption)) ?_
  rintro r26 E27 L28 hE29 ⟨rfl, rfl⟩
  replace hs55 := hs55.mono hE29
  replace Z13 := Z13.mono hE29
  replace Z7 := Z7.mono hE29
  replace Z5 := Z5.mono hE29
  replace hg0 := hg0.mono hE29
  refine G_val (V_not rfl rfl) rfl rfl (.yes rfl rfl rfl rfl) ?_
  refine G_val (V_pick_f rfl rfl rfl) rfl rfl (.none rfl) ?_
  refine G_val (V_move rfl rfl) rfl rfl (.none rfl) ?_
  refine G.bool_f 60 rfl (by kernel_rfl) ?_
  refine G_val (V_build rfl rfl (by simp [fillV, setLs, setL, Value.cells]; rfl)) rfl rfl (.yes rfl rfl rfl rfl) ?_
  (refine G_litZ rfl rfl (by decide) (by simp [fillS, zeros, setLs, setL, Value.cells, List.range, List.range.loop]; rfl) (by rfl) rfl rfl (.yes rfl rfl rfl rfl) ?_; intro b62 E62 hE62 hs62)
  replace hs55 := hs55.mono hE62
  replace Z13 := Z13.mono hE62
  replace Z7 := Z7.mono hE62
  replace Z5 := Z5.mono hE62
  replace hg0 := hg0.mono hE62
  refine G_call (k := 16) (.mk rfl rfl rfl rfl) rfl rfl (.yes rfl rfl rfl rfl) (insideTS_call _ _ _ _) ?_
  rintro r30 E31 L32 hE33 ⟨z34, ⟨rfl, ⟨Z35, rfl⟩⟩⟩
  replace hs62 := hs62.mono hE33
  replace hs55 := hs55.mono hE33
  replace Z13 := Z13.mono hE33
  replace Z7 := Z7.mono hE33
  replace Z5 := Z5.mono hE33
  replace hg0 := hg0.mono hE33
  dsimp only [Go.Proofs.Ytimiokmgnclggaa.cfV]
  refine G_call (k := 17) (.mk rfl rfl rfl rfl) rfl rfl (.yes rfl rfl rfl rfl) (aw4 _ _ _ (by assumption) _ _ (by assumption)) ?_
  rintro r36 E37 L38 hE39 ⟨rfl, rfl⟩
  replace Z35 := Z35.mono hE39
  replace hs62 := hs62.mono hE39
  replace hs55 := hs55.mono hE39
  replace Z13 := Z13.mono hE39
  replace Z7 := Z7.mono hE39
  replace Z5 := Z5.mono hE39
  replace hg0 := hg0.mono hE39
  refine G_val (V_not rfl rfl) rfl rfl (.yes rfl rfl rfl rfl) ?_
  refine G_val (V_pick_f rfl rfl rfl) rfl rfl (.none rfl) ?_
  refine G_val (V_move rfl rfl) rfl rfl (.none rfl) ?_
  refine G.bool_f 67 rfl (by kernel_rfl) ?_
  refine G_val (V_build rfl rfl (by simp [fillV, setLs, setL, Value.cells]; rfl)) rfl rfl (.yes rfl rfl rfl rfl) ?_
  (refine G_litZ rfl rfl (by decide) (by simp [fillS, zeros, setLs, setL, Value.cells, List.range, List.range.loop]; rfl) (by rfl) rfl rfl (.yes rfl rfl rfl rfl) ?_; intro b69 E69 hE69 hs69)
  replace Z35 := Z35.mono hE69
  replace hs62 := hs62.mono hE69
  replace hs55 := hs55.mono hE69
  replace Z13 := Z13.mono hE69
  replace Z7 := Z7.mono hE69
  replace Z5 := Z5.mono hE69
  replace hg0 := hg0.mono hE69
  refine G_call (k := 16) (.mk rfl rfl rfl rfl) rfl rfl (.yes rfl rfl rfl rfl) (insideTS_call _ _ _ _) ?_
  rintro r40 E41 L42 hE43 ⟨z44, ⟨rfl, ⟨Z45, rfl⟩⟩⟩
  replace hs69 := hs69.mono hE43
  replace Z35 := Z35.mono hE43
  replace hs62 := hs62.mono hE43
  replace hs55 := hs55.mono hE43
  replace Z13 := Z13.mono hE43
  replace Z7 := Z7.mono hE43
  replace Z5 := Z5.mono hE43
  replace hg0 := hg0.mono hE43
  dsimp only [Go.Proofs.Ytimiokmgnclggaa.cfV]
  refine G_call (k := 17) (.mk rfl rfl rfl rfl) rfl rfl (.yes rfl rfl rfl rfl) (awaitsC_call' _ _ _ (by assumption) _ _ (by assumption)) ?_
  rintro r46 E47 L48 hE49 ⟨rfl, rfl⟩
  replace Z45 := Z45.mono hE49
  replace hs69 := hs69.mono hE49
  replace Z35 := Z35.mono hE49
  replace hs62 := hs62.mono hE49
  replace hs55 := hs55.mono hE49
  replace Z13 := Z13.mono hE49
  replace Z7 := Z7.mono hE49
  replace Z5 := Z5.mono hE49
  replace hg0 := hg0.mono hE49
  refine G_val (V_not rfl rfl) rfl rfl (.yes rfl rfl rfl rfl) ?_
  refine G_val (V_pick_f rfl rfl rfl) rfl rfl (.none rfl) ?_
  refine G_end (X_then ?_)
  refine G_cond_f rfl (by kernel_rfl) ?_
  refine G_skip (X_then (G_seq (G_region ?_)))
  refine G_call (k := 16) (.mk rfl rfl rfl rfl) rfl rfl (.none rfl) (insideT_call _ _) ?_
  rintro r50 E51 L52 hE53 ⟨z54, ⟨rfl, ⟨Z55, rfl⟩⟩⟩
  replace Z45 := Z45.mono hE53
  replace hs69 := hs69.mono hE53
  replace Z35 := Z35.mono hE53
  replace hs62 := hs62.mono hE53
  replace hs55 := hs55.mono hE53
  replace Z13 := Z13.mono hE53
  replace Z7 := Z7.mono hE53
  replace Z5 := Z5.mono hE53
  replace hg0 := hg0.mono hE53
  dsimp only [Go.Proofs.Ytimiokmgnclggaa.cfV]
  refine G_call (k := 16) (.mk rfl rfl rfl rfl) rfl rfl (.none rfl) (insideT_call _ _) ?_
  rintro r56 E57 L58 hE59 ⟨z60, ⟨rfl, ⟨Z61, rfl⟩⟩⟩
  replace Z55 := Z55.mono hE59
  replace Z45 := Z45.mono hE59
  replace hs69 := hs69.mono hE59
  replace Z35 := Z35.mono hE59
  replace hs62 := hs62.mono hE59
  replace hs55 := hs55.mono hE59
  replace Z13 := Z13.mono hE59
  replace Z7 := Z7.mono hE59
  replace Z5 := Z5.mono hE59
  replace hg0 := hg0.mono hE59
  dsimp only [Go.Proofs.Ytimiokmgnclggaa.cfV]
  refine G_call (k := 16) (.mk rfl rfl rfl rfl) rfl rfl (.none rfl) (insideT_call _ _) ?_
  rintro r62 E63 L64 hE65 ⟨z66, ⟨rfl, ⟨Z67, rfl⟩⟩⟩
  replace Z61 := Z61.mono hE65
  replace Z55 := Z55.mono hE65
  replace Z45 := Z45.mono hE65
  replace hs69 := hs69.mono hE65
  replace Z35 := Z35.mono hE65
  replace hs62 := hs62.mono hE65
  replace hs55 := hs55.mono hE65
  replace Z13 := Z13.mono hE65
  replace Z7 := Z7.mono hE65
  replace Z5 := Z5.mono hE65
  replace hg0 := hg0.mono hE65
  dsimp only [Go.Proofs.Ytimiokmgnclggaa.cfV]
  refine G_call (k := 16) (.mk rfl rfl rfl rfl) rfl rfl (.none rfl) (insideT_call _ _) ?_
  rintro r68 E70 L71 hE72 ⟨z73, ⟨rfl, ⟨Z74, rfl⟩⟩⟩
  replace Z67 := Z67.mono hE72
  replace Z61 := Z61.mono hE72
  replace Z55 := Z55.mono hE72
  replace Z45 := Z45.mono hE72
  replace hs69 := hs69.mono hE72
  replace Z35 := Z35.mono hE72
  replace hs62 := hs62.mono hE72
  replace hs55 := hs55.mono hE72
  replace Z13 := Z13.mono hE72
  replace Z7 := Z7.mono hE72
  replace Z5 := Z5.mono hE72
  replace hg0 := hg0.mono hE72
  dsimp only [Go.Proofs.Ytimiokmgnclggaa.cfV]
  refine G_call (k := 16) (.mk rfl rfl rfl rfl) rfl rfl (.none rfl) (insideT_call _ _) ?_
  rintro r75 E76 L77 hE78 ⟨z79, ⟨rfl, ⟨Z80, rfl⟩⟩⟩
  replace Z74 := Z74.mono hE78
  replace Z67 := Z67.mono hE78
  replace Z61 := Z61.mono hE78
  replace Z55 := Z55.mono hE78
  replace Z45 := Z45.mono hE78
  replace hs69 := hs69.mono hE78
  replace Z35 := Z35.mono hE78
  replace hs62 := hs62.mono hE78
  replace hs55 := hs55.mono hE78
  replace Z13 := Z13.mono hE78
  replace Z7 := Z7.mono hE78
  replace Z5 := Z5.mono hE78
  replace hg0 := hg0.mono hE78
  dsimp only [Go.Proofs.Ytimiokmgnclggaa.cfV]
  refine G_call (k := 16) (.mk rfl rfl rfl rfl) rfl rfl (.none rfl) (insideN_call _ _) ?_
  rintro r81 E82 L83 hE84 ⟨rfl, ⟨rfl, rfl⟩⟩
  replace Z80 := Z80.mono hE84
  replace Z74 := Z74.mono hE84
  replace Z67 := Z67.mono hE84
  replace Z61 := Z61.mono hE84
  replace Z55 := Z55.mono hE84
  replace Z45 := Z45.mono hE84
  replace hs69 := hs69.mono hE84
  replace Z35 := Z35.mono hE84
  replace hs62 := hs62.mono hE84
  replace hs55 := hs55.mono hE84
  replace Z13 := Z13.mono hE84
  replace Z7 := Z7.mono hE84
  replace Z5 := Z5.mono hE84
  replace hg0 := hg0.mono hE84
  dsimp only [Go.Proofs.Ytimiokmgnclggaa.cfV]
  (refine G_alloc rfl rfl rfl (.none rfl) ?_; intro b6)
  (refine G_alloc rfl rfl rfl (.none rfl) ?_; intro b7)
  (refine G_alloc rfl rfl rfl (.none rfl) ?_; intro b8)
  (refine G_alloc rfl rfl rfl (.none rfl) ?_; intro b9)
  (refine G_alloc rfl rfl rfl (.none rfl) ?_; intro b10)
  (refine G_alloc rfl rfl rfl (.none rfl) ?_; intro b11)
  refine G_storeA rfl rfl rfl rfl (by simp [Value.oneCell']) rfl (.none rfl) (.tail _ (.tail _ (.tail _ (.tail _ (.tail _ (.head _ _ _)))))) rfl ?_
  refine G_storeA rfl rfl rfl rfl (by simp [Value.oneCell']) rfl (.none rfl) (.tail _ (.tail _ (.tail _ (.tail _ (.head _ _ _))))) rfl ?_
  refine G_storeA rfl rfl rfl rfl (by simp [Value.oneCell']) rfl (.none rfl) (.tail _ (.tail _ (.tail _ (.head _ _ _)))) rfl ?_
  refine G_storeA rfl rfl rfl rfl (by simp [Value.oneCell']) rfl (.none rfl) (.tail _ (.tail _ (.head _ _ _))) rfl ?_
  refine G_storeA rfl rfl rfl rfl (by simp [Value.oneCell']) rfl (.none rfl) (.tail _ (.head _ _ _)) rfl ?_
  refine G_storeA rfl rfl rfl rfl (by simp [Value.oneCell']) rfl (.none rfl) (.head _ _ _) rfl ?_
  refine G_end (X_then (G_seq (G_region ?_)))
  refine G_val (V_fieldAddr rfl rfl (by decide)) rfl rfl (.none rfl) ?_
  refine G_storeAt rfl rfl rfl rfl rfl rfl (.none rfl) (.tail _ (.tail _ (.tail _ (.tail _ (.tail _ (.head _ _ _)))))) (Nat.le_of_ble_eq_true rfl) (by simp only [putAll, Nat.zero_add, Nat.reduceAdd, List.setIfInBounds_toArray, List.set_cons_succ, List.set_cons_zero]; rfl) ?_
  refine G_val (V_fieldAddr rfl rfl (by decide)) rfl rfl (.none rfl) ?_
  refine G_storeAt rfl rfl rfl rfl rfl rfl (.none rfl) (.tail _ (.tail _ (.tail _ (.tail _ (.head _ _ _))))) (Nat.le_of_ble_eq_true rfl) (by simp only [putAll, Nat.zero_add, Nat.reduceAdd, List.setIfInBounds_toArray, List.set_cons_succ, List.set_cons_zero]; rfl) ?_
  refine G_val (V_fieldAddr rfl rfl (by decide)) rfl rfl (.none rfl) ?_
  refine G_storeAt rfl rfl rfl rfl rfl rfl (.none rfl) (.tail _ (.tail _ (.head _ _ _))) (Nat.le_of_ble_eq_true rfl) (by simp only [putAll, Nat.zero_add, Nat.reduceAdd, List.setIfInBounds_toArray, List.set_cons_succ, List.set_cons_zero]; rfl) ?_
  refine G_val (V_fieldAddr rfl rfl (by decide)) rfl rfl (.none rfl) ?_
  refine G_storeAt rfl rfl rfl rfl rfl rfl (.none rfl) (.tail _ (.head _ _ _)) (Nat.le_of_ble_eq_true rfl) (by simp only [putAll, Nat.zero_add, Nat.reduceAdd, List.setIfInBounds_toArray, List.set_cons_succ, List.set_cons_zero]; rfl) ?_
  refine G_end (X_then (G_seq (G_region ?_)))
  refine G_val (V_build rfl rfl (by simp [fillV, setLs, setL, Value.cells]; rfl)) rfl rfl (.none rfl) ?_
  refine G_val (V_build rfl rfl (by simp [fillV, setLs, setL, Value.cells]; rfl)) rfl rfl (.none rfl) ?_
  refine G_val (V_build rfl rfl (by simp [fillV, setLs, setL, Value.cells]; rfl)) rfl rfl (.none rfl) ?_
  (refine G_lit rfl rfl (by decide) (by simp [fillS, zeros, setLs, setL, Value.cells, List.range, List.range.loop]; rfl) rfl rfl (.none rfl) ?_; intro b87)
  refine G_val (V_fieldAddr rfl rfl (by decide)) rfl rfl (.none rfl) ?_
  refine G_val (V_fieldAddr rfl rfl (by decide)) rfl rfl (.none rfl) ?_
  refine G_storeAt rfl rfl rfl rfl rfl rfl (.none rfl) (.tail _ (.tail _ (.tail _ (.tail _ (.head _ _ _))))) (Nat.le_of_ble_eq_true rfl) (by simp only [putAll, Nat.zero_add, Nat.reduceAdd, List.setIfInBounds_toArray, List.set_cons_succ, List.set_cons_zero]; rfl) ?_
  refine G_val (V_fieldAddr rfl rfl (by decide)) rfl rfl (.none rfl) ?_
  refine G_storeAt rfl rfl rfl rfl rfl rfl (.none rfl) (.tail _ (.tail _ (.tail _ (.tail _ (.head _ _ _))))) (Nat.le_of_ble_eq_true rfl) (by simp only [putAll, Nat.zero_add, Nat.reduceAdd, List.setIfInBounds_toArray, List.set_cons_succ, List.set_cons_zero]; rfl) ?_
  refine G_end (X_then (G_seq (G_region ?_)))
  refine G_val (V_build rfl rfl (by simp [fillV, setLs, setL, Value.cells]; rfl)) rfl rfl (.none rfl) ?_
  (refine G_lit rfl rfl (by decide) (by simp [fillS, zeros, setLs, setL, Value.cells, List.range, List.range.loop]; rfl) rfl rfl (.none rfl) ?_; intro b92)
  refine G_val (V_fieldAddr rfl rfl (by decide)) rfl rfl (.none rfl) ?_
  refine G_storeAt rfl rfl rfl rfl rfl rfl (.none rfl) (.tail _ (.tail _ (.head _ _ _))) (Nat.le_of_ble_eq_true rfl) (by simp only [putAll, Nat.zero_add, Nat.reduceAdd, List.setIfInBounds_toArray, List.set_cons_succ, List.set_cons_zero]; rfl) ?_
  refine G_val (V_fieldAddr rfl rfl (by decide)) rfl rfl (.none rfl) ?_
  refine G_storeAt rfl rfl rfl rfl rfl rfl (.none rfl) (.tail _ (.tail _ (.head _ _ _))) (Nat.le_of_ble_eq_true rfl) (by simp only [putAll, Nat.zero_add, Nat.reduceAdd, List.setIfInBounds_toArray, List.set_cons_succ, List.set_cons_zero]; rfl) ?_
  refine G_end (X_then (G_seq (G_seq (G_region ?_))))
  refine G_val (V_loadA rfl rfl (Cells.own (.tail _ (.tail _ (.tail _ (.tail _ (.tail _ (.tail _ (.tail _ (.tail _ (.tail _ (.tail _ (.tail _ (.tail _ (.head _)))))))))))))) rfl) rfl rfl (.none rfl) ?_
  refine G_val (V_loadA rfl rfl (Cells.own (.tail _ (.tail _ (.tail _ (.tail _ (.tail _ (.tail _ (.tail _ (.head _))))))))) rfl) rfl rfl (.none rfl) ?_
  refine G_callv (k := 18) (.mk rfl rfl rfl rfl) rfl rfl (.none rfl) (CCheckState_call' _ _ _ _ (by assumption)) ?_
  refine G_val (V_neq rfl rfl rfl) rfl rfl (.none rfl) ?_
  refine G_val (V_move rfl rfl) rfl rfl (.none rfl) ?_
  refine G.bool_f 99 rfl (by kernel_rfl) ?_
  refine G_val (V_loadA rfl rfl (Cells.own (.tail _ (.tail _ (.tail _ (.tail _ (.tail _ (.tail _ (.tail _ (.tail _ (.tail _ (.tail _ (.tail _ (.tail _ (.head _)))))))))))))) rfl) rfl rfl (.yes rfl rfl rfl rfl) ?_
  refine G_val (V_loadA rfl rfl (Cells.own (.tail _ (.tail _ (.tail _ (.tail _ (.tail _ (.tail _ (.head _)))))))) rfl) rfl rfl (.yes rfl rfl rfl rfl) ?_
  refine G_callv (k := 18) (.mk rfl rfl rfl rfl) rfl rfl (.yes rfl rfl rfl rfl) (CCheckRange_call' _ _ _ _ (by assumption)) ?_
  refine G_val (V_neq rfl rfl rfl) rfl rfl (.yes rfl rfl rfl rfl) ?_
  refine G_val (V_pick_f rfl rfl rfl) rfl rfl (.none rfl) ?_
  refine G_val (V_move rfl rfl) rfl rfl (.none rfl) ?_
  refine G.bool_f 105 rfl (by kernel_rfl) ?_
  refine G_val (V_loadA rfl rfl (Cells.own (.tail _ (.tail _ (.tail _ (.tail _ (.tail _ (.tail _ (.tail _ (.tail _ (.tail _ (.tail _ (.tail _ (.tail _ (.head _)))))))))))))) rfl) rfl rfl (.yes rfl rfl rfl rfl) ?_
  refine G_val (V_loadA rfl rfl (Cells.own (.tail _ (.tail _ (.tail _ (.tail _ (.tail _ (.head _))))))) rfl) rfl rfl (.yes rfl rfl rfl rfl) ?_
  refine G_callv (k := 18) (.mk rfl rfl rfl rfl) rfl rfl (.yes rfl rfl rfl rfl) (CCheckFull_call' _ _ _ _ (by assumption)) ?_
  refine G_val (V_neq rfl rfl rfl) rfl rfl (.yes rfl rfl rfl rfl) ?_
  refine G_val (V_pick_f rfl rfl rfl) rfl rfl (.none rfl) ?_
  refine G_val (V_move rfl rfl) rfl rfl (.none rfl) ?_
  refine G.bool_f 111 rfl (by kernel_rfl) ?_
  refine G_val (V_loadA rfl rfl (Cells.own (.tail _ (.tail _ (.tail _ (.tail _ (.tail _ (.tail _ (.tail _ (.tail _ (.tail _ (.tail _ (.tail _ (.tail _ (.head _)))))))))))))) rfl) rfl rfl (.yes rfl rfl rfl rfl) ?_
  refine G_val (V_loadA rfl rfl (Cells.own (.tail _ (.tail _ (.tail _ (.tail _ (.head _)))))) rfl) rfl rfl (.yes rfl rfl rfl rfl) ?_
  refine G_callv (k := 18) (.mk rfl rfl rfl rfl) rfl rfl (.yes rfl rfl rfl rfl) (CCheckBad_call' _ _ _ _ (by assumption) (by assumption)) ?_
  refine G_val (V_neq rfl rfl rfl) rfl rfl (.yes rfl rfl rfl rfl) ?_
  refine G_val (V_pick_f rfl rfl rfl) rfl rfl (.none rfl) ?_
  refine G_val (V_move rfl rfl) rfl rfl (.none rfl) ?_
  refine G.bool_f 117 rfl (by kernel_rfl) ?_
  refine G_val (V_loadA rfl rfl (Cells.own (.tail _ (.tail _ (.tail _ (.tail _ (.tail _ (.tail _ (.tail _ (.tail _ (.tail _ (.tail _ (.tail _ (.tail _ (.head _)))))))))))))) rfl) rfl rfl (.yes rfl rfl rfl rfl) ?_
  refine G_val (V_loadA rfl rfl (Cells.own (.tail _ (.tail _ (.tail _ (.head _))))) rfl) rfl rfl (.yes rfl rfl rfl rfl) ?_
  refine G_callv (k := 18) (.mk rfl rfl rfl rfl) rfl rfl (.yes rfl rfl rfl rfl) (CCheck_k5 _ _ _ _ (by assumption) (by assumption)) ?_
  refine G_val (V_neq rfl rfl rfl) rfl rfl (.yes rfl rfl rfl rfl) ?_
  refine G_val (V_pick_f rfl rfl rfl) rfl rfl (.none rfl) ?_
  refine G_val (V_move rfl rfl) rfl rfl (.none rfl) ?_
  refine G.bool_f 123 rfl (by kernel_rfl) ?_
  refine G_val (V_loadA rfl rfl (Cells.own (.tail _ (.tail _ (.tail _ (.tail _ (.tail _ (.tail _ (.tail _ (.tail _ (.tail _ (.tail _ (.tail _ (.tail _ (.head _)))))))))))))) rfl) rfl rfl (.yes rfl rfl rfl rfl) ?_
  refine G_val (V_loadA rfl rfl (Cells.own (.tail _ (.tail _ (.head _)))) rfl) rfl rfl (.yes rfl rfl rfl rfl) ?_
  skip
  refine G.freezeB (k := 1) (sz := 2) (.head _ _) rfl ?_
  intro E9 hE9 hs9
  replace hg0 := hg0.mono hE9
  refine G_callv (k := 18) (.mk rfl rfl rfl rfl) rfl rfl (.yes rfl rfl rfl rfl) (CCheck_call' _ _ _ (by assumption) _ _ (by assumption)) ?_
  refine G_val (V_neq rfl rfl rfl) rfl rfl (.yes rfl rfl rfl rfl) ?_
  refine G_val (V_pick_f rfl rfl rfl) rfl rfl (.none rfl) ?_
  refine G_end (X_then ?_)
  refine G_cond_f rfl (by kernel_rfl) ?_
  refine G_skip (X_then (G_seq ?_))
  refine G_drawX 8 [(0, 1), (1, 3), (2, 3), (3, 0), (4, 0), (5, 0), (6, 0), (7, 0)] mixed (by kernel_rfl) ?_
  refine F_load rfl (.tail _ (.tail _ (.tail _ (.tail _ (.tail _ (.tail _ (.tail _ (.tail _ (.tail _ (.tail _ (.tail _ (.head _)))))))))))) (V_loadA rfl rfl (Cells.own (.head _)) rfl) rfl rfl (.none rfl) ?_
  apply F_call (k := 16) rfl (.mk rfl rfl rfl rfl) rfl rfl (.none rfl)
  · (intro L0; refine CallS.mono (insideT_call _ _) ?_; exact fun _ _ _ _ h => h)
  · (rintro L0 r E' L' ⟨z1, ⟨rfl, ⟨Z2, rfl⟩⟩⟩; exact ⟨rfl, ⟨_, ⟨rfl, ⟨(by assumption), rfl⟩⟩⟩⟩)
  rintro r3 E4 hE6 ⟨z7, ⟨rfl, ⟨Z8, _⟩⟩⟩
  replace hs9 := hs9.mono hE6
  replace hg0 := hg0.mono hE6
  dsimp only [Go.Proofs.Ytimiokmgnclggaa.cfV]
  refine F_callv (k := 19) rfl (.mk rfl rfl rfl rfl) rfl rfl (.none rfl) (fun _ => CPlace_k1 _ _ _ _ (by assumption) (by assumption)) ?_
  refine F_pure rfl (fun _ _ => V_move rfl rfl) rfl rfl (.none rfl) ?_
  refine F_pure rfl (fun _ _ => V_extract rfl rfl rfl) rfl rfl (.none rfl) ?_
  refine F_pure rfl (fun _ _ => V_extract rfl rfl rfl) rfl rfl (.none rfl) ?_
  refine F_pure rfl (fun _ _ => V_assign rfl rfl) rfl rfl (.none rfl) ?_
  refine F_pure rfl (fun _ _ => V_assign rfl rfl) rfl rfl (.none rfl) ?_
  (refine F_end (.nil _) ?_; dsimp only [List.drop])
  refine G_end (X_then (G_seq (G_region ?_)))
  refine G_val (V_build rfl rfl (by simp [fillV, setLs, setL, Value.cells]; rfl)) rfl rfl (.none rfl) ?_
  (refine G_alloc rfl rfl rfl (.none rfl) ?_; intro b14)
  refine G_storeA rfl rfl rfl rfl (by simp [Value.oneCell']) rfl (.none rfl) (.head _ _ _) rfl ?_
  refine G_end (X_then (G_seq (G_region ?_)))
  refine G_val (V_loadA rfl rfl (Cells.own (.tail _ (.tail _ (.tail _ (.tail _ (.tail _ (.tail _ (.tail _ (.tail _ (.tail _ (.tail _ (.tail _ (.tail _ (.head _)))))))))))))) rfl) rfl rfl (.none rfl) ?_
  refine G_val (V_loadA rfl rfl (Cells.own (.head _)) rfl) rfl rfl (.none rfl) ?_
  refine G_callv (k := 19) (.mk rfl rfl rfl rfl) rfl rfl (.none rfl) (CPlace_call' _ _ _ (by assumption)) ?_
  refine G_val (V_move rfl rfl) rfl rfl (.none rfl) ?_
  refine G_val (V_extract rfl rfl rfl) rfl rfl (.none rfl) ?_
  refine G_val (V_extract rfl rfl rfl) rfl rfl (.none rfl) ?_
  refine G_val (V_assign rfl rfl) rfl rfl (.none rfl) ?_
  refine G_val (V_assign rfl rfl) rfl rfl (.none rfl) ?_
  refine G_end (X_then (G_seq (G_region ?_)))
  refine G_val (V_move rfl rfl) rfl rfl (.none rfl) ?_
  refine G_val (V_eql rfl rfl rfl) rfl rfl (.none rfl) ?_
  refine G_val (V_move rfl rfl) rfl rfl (.none rfl) ?_
  refine G.bool_t 144 rfl (by kernel_rfl) ?_
  refine G_val (V_move rfl rfl) rfl rfl (.yes rfl rfl rfl rfl) ?_
  refine G_val (V_eql rfl rfl rfl) rfl rfl (.yes rfl rfl rfl rfl) ?_
  refine G_val (V_pick_t rfl rfl rfl) rfl rfl (.none rfl) ?_
  refine G_val (V_move rfl rfl) rfl rfl (.none rfl) ?_
  refine G.bool_t 148 rfl (by kernel_rfl) ?_
  refine G_val (V_move rfl rfl) rfl rfl (.yes rfl rfl rfl rfl) ?_
  refine G_val (V_eql rfl rfl rfl) rfl rfl (.yes rfl rfl rfl rfl) ?_
  refine G_val (V_pick_t rfl rfl rfl) rfl rfl (.none rfl) ?_
  refine G_val (V_move rfl rfl) rfl rfl (.none rfl) ?_
  refine G.bool_t 152 rfl (by kernel_rfl) ?_
  refine G_val (V_move rfl rfl) rfl rfl (.yes rfl rfl rfl rfl) ?_
  refine G_val (V_eql rfl rfl rfl) rfl rfl (.yes rfl rfl rfl rfl) ?_
  refine G_val (V_pick_t rfl rfl rfl) rfl rfl (.none rfl) ?_
  refine G_val (V_move rfl rfl) rfl rfl (.none rfl) ?_
  refine G.bool_t 156 rfl (by kernel_rfl) ?_
  refine G_call (k := 6) (.mk rfl rfl rfl rfl) rfl rfl (.yes rfl rfl rfl rfl) (awake_call' _ _) ?_
  rintro r9 E10 L11 hE12 ⟨rfl, rfl⟩
  replace Z8 := Z8.mono hE12
  replace hs9 := hs9.mono hE12
  replace hg0 := hg0.mono hE12
  refine G_val (V_pick_t rfl rfl rfl) rfl rfl (.none rfl) ?_
  refine G_val (V_assign rfl rfl) rfl rfl (.none rfl) ?_
  refine G_end (X_then (G_ret ?_))
  refine G_leaveS (.drop _ (.drop _ (.drop _ (.drop _ (.drop _ (.drop _ (.drop _ (.drop _ (.drop _ (.drop _ (.drop _ (.drop _ (.drop _ (.nil _)))))))))))))) (by exact (.cons (.tmp rfl) (.nil))) rfl ?_ ?_
  · exact ((((((((((((((((((((hE4.trans hE5).trans hE11).trans hE17).trans hE21).trans hE55).trans hE29).trans hE62).trans hE33).trans hE39).trans hE69).trans hE43).trans hE49).trans hE53).trans hE59).trans hE65).trans hE72).trans hE78).trans hE9).trans hE6).trans hE12)
  exact ⟨(by kernel_rfl), rfl⟩
end
end Go.Proofs.Ytimiokmgnclggaa
