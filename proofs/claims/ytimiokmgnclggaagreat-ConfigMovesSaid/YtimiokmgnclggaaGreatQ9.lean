/-
  Rules and contracts, packed: G10, B20, B19, B21, G11, B22.
-/
import Derived.Test.YtimiokmgnclggaaGreatQ8
set_option maxHeartbeats 1000000
set_option linter.unusedSimpArgs false
set_option linter.unusedVariables false
set_option maxHeartbeats 2000000
set_option maxRecDepth 20000
namespace Go.Proofs.YtimiokmgnclggaaGreat
open Go.RowKit
/-! What configurations need, whether they wait, their place. -/
theorem awC_kind (g : Gr) (st : Int) (b : Bool) (us : List Spt) : 0 ≤ (awC g st b us).1 ∧ (awC g st b us).1 ≤ 3 := by
  unfold awC
  split
  · simp
  · split
    · simp
    · exact awS_kind _ _
section
variable (E : Env) (L : List Res) (st rc at' : Int) (part : List UInt8) (tp : Option Addr) (tn tc : Nat) (e ea : Int) (b : Bool) (sp : Option Addr) (sn sc : Nat)
  (gv : Value) (g : Gr) (hg : GrE E gv g) (hl : Light g) (h0 : gcheck g = 0)
  (h3 : st = 1 ∨ st = 2) (hr : rngB rc at' = true) (hp : part.length ≤ 1) (l : List Tok) (hs : SlE E 3 tp tn (toks l)) (hgr : gringB g.k g.toks.length l e ea = true) (us : List Spt) (hu : SlE E 2 sp sn (spC us)) (hn : sn ≤ 9223372036854775807)
include hg hl h0 h3 hr hp hs hgr hu hn
theorem CNeeds_call : CallV Tryz.prog 9 #[gv, cfV st rc at' part tp tn tc e ea b sp sn sc] E L
    (.tuple #[.int .i64 (if ckM g st at' part l e ea b us = 0 then needC g st l.length e b us else 0), .int .i64 (ckM g st at' part l e ea b us)]) := by
  have hc := fun L0 => CAwaits_call E L0 st rc at' part tp tn tc e ea b sp sn sc gv g hg hl h0 h3 hr hp l hs hgr us hu hn
  have hkind := awC_kind g st b us
  have hq := gring_iff.1 hgr
  obtain ⟨q1, q2, q3, q4, q5, _⟩ := hq
  have en := hs.nT
  by_cases hk : ckM g st at' part l e ea b us = 0
  · simp only [if_pos hk] at hc ⊢
    rw [hk] at hc ⊢
    unfold needC
    generalize awC g st b us = r at *
    obtain ⟨gp, gc, np, nc, pp, pc, rfl, _⟩ := hg
    rw [← en]
    rw [← en] at q5
    by_cases he : e = 0
    · subst he
      by_cases h3k : r.1 = 3
      · rw [if_pos (.inr h3k)]
        refine CallS.toV (CallS.intro (l := [_, _]) _ Tryz.func9 rfl Tryz.ntmps9 rfl ?_)
        refine G_seq (G_region ?_)
        (refine G_boxA rfl rfl rfl rfl (.none rfl) ?_; intro b2)
        (refine G_boxA rfl rfl rfl rfl (.none rfl) ?_; intro b3)
        refine Ga ?_
        refine Ga ?_
        refine G_end (X_then (G_seq (G_region ?_)))
        refine Gv (V_loadA rfl rfl (Cells.own (.tail _ (.head _))) rfl) ?_
        refine Gv (V_loadA rfl rfl (Cells.own (.head _)) rfl) ?_
        refine G_callv (k := 10) (.mk rfl rfl rfl rfl) rfl rfl (.none rfl) (hc _) ?_
        refine Gm ?_
        refine Gv (V_extract rfl rfl rfl) ?_
        refine Gv (V_extract rfl rfl rfl) ?_
        refine Gv (V_extract rfl rfl rfl) ?_
        refine Ga ?_
        refine Ga ?_
        refine Ga ?_
        refine G_end (X_then (G_seq (G_seq (G_region ?_))))
        refine Gm ?_
        refine Gv (V_neq rfl rfl rfl) ?_
        refine G_end (X_then ?_)
        refine G_cond_f rfl (by kernel_rfl) ?_
        refine G_skip (X_then (G_seq (G_region ?_)))
        refine Gv (V_fieldAddr rfl rfl (by decide)) ?_
        refine Gv (V_fieldAddr rfl rfl (by decide)) ?_
        refine Gv (V_load rfl rfl (Cell.own (.head _) rfl)) ?_
        refine Gv (V_lenS rfl rfl) ?_
        refine Ga ?_
        refine G_end (X_then (G_seq (G_block (G_seq (G_region ?_)))))
        refine Gv (V_loadA rfl rfl (Cells.own (.head _)) rfl) ?_
        refine G_callv (k := 17) (.mk rfl rfl rfl rfl) rfl rfl (.none rfl) (Stopped_call _ _ _ _ _ _ _ _ _ _ _ _ _ _ _) ?_
        refine Gm ?_
        apply G_joinOr 5 27 32 rfl
        · intro H1
          dsimp only [List.take]
          simp only [Bool.and_eq_true, Bool.or_eq_true, Bool.not_eq_true', Bool.not_eq_false', Bool.and_eq_false_iff, Bool.or_eq_false_iff, Bool.not_not, decide_eq_true_eq, decide_eq_false_iff_not, ne_eq, Decidable.not_not, Bool.decide_eq_true] at H1
          (exfalso; omega)
        · intro H2
          dsimp only [List.take]
          simp only [Bool.and_eq_true, Bool.or_eq_true, Bool.not_eq_true', Bool.not_eq_false', Bool.and_eq_false_iff, Bool.or_eq_false_iff, Bool.not_not, decide_eq_true_eq, decide_eq_false_iff_not, ne_eq, Decidable.not_not, Bool.decide_eq_true] at H2
          refine Gy (V_fieldAddr rfl rfl (by decide)) ?_
          refine Gy (V_fieldAddr rfl rfl (by decide)) ?_
          refine Gy (V_load rfl rfl (Cell.own (.head _) rfl)) ?_
          refine Gy (V_neq rfl rfl rfl) ?_
          refine Gv (V_pick_f rfl rfl rfl) ?_
          refine G_end ?_
          exact JQ_end 5 rfl rfl (by kernel_rfl)
        dsimp only [List.drop]
        refine Gm ?_
        apply G_joinOr 3 33 36 rfl
        · intro H3
          dsimp only [List.take]
          simp only [Bool.and_eq_true, Bool.or_eq_true, Bool.not_eq_true', Bool.not_eq_false', Bool.and_eq_false_iff, Bool.or_eq_false_iff, Bool.not_not, decide_eq_true_eq, decide_eq_false_iff_not, ne_eq, Decidable.not_not, Bool.decide_eq_true] at H3
          refine Gn ?_
          refine Gn ?_
          refine Gv (V_pick_t rfl rfl rfl) ?_
          refine G_end ?_
          exact JQ_end 3 rfl rfl (by kernel_rfl)
        · intro H4
          dsimp only [List.take]
          simp only [Bool.and_eq_true, Bool.or_eq_true, Bool.not_eq_true', Bool.not_eq_false', Bool.and_eq_false_iff, Bool.or_eq_false_iff, Bool.not_not, decide_eq_true_eq, decide_eq_false_iff_not, ne_eq, Decidable.not_not, Bool.decide_eq_true] at H4
          refine Gy (V_move rfl rfl) ?_
          refine Gy (V_eql rfl rfl rfl) ?_
          refine Gv (V_pick_f rfl rfl rfl) ?_
          refine G_end ?_
          exact JQ_end 3 rfl rfl (by kernel_rfl)
        dsimp only [List.drop]
        refine Ga ?_
        refine G_end (X_then ?_)
        refine G_cond_t rfl (by simp [*]; done) ?_
        refine G_seq (G_region ?_)
        refine Ga ?_
        refine Ga ?_
        refine G_end (X_then (G_ret (X_block_ret (X_then_ret ?_))))
        refine G_leaveS (.drop _ (.drop _ (.nil _))) (by exact (.cons (.tmp rfl) (.cons (.tmp rfl) (.nil)))) rfl ?_ ?_
        · exact (.refl _)
        exact ⟨(by kernel_rfl), rfl⟩
      · rw [if_neg (by omega)]
        by_cases h2k : r.1 = 2
        · rw [if_pos h2k]
          refine CallS.toV (CallS.intro (l := [_, _]) _ Tryz.func9 rfl Tryz.ntmps9 rfl ?_)
          refine G_seq (G_region ?_)
          (refine G_boxA rfl rfl rfl rfl (.none rfl) ?_; intro b2)
          (refine G_boxA rfl rfl rfl rfl (.none rfl) ?_; intro b3)
          refine Ga ?_
          refine Ga ?_
          refine G_end (X_then (G_seq (G_region ?_)))
          refine Gv (V_loadA rfl rfl (Cells.own (.tail _ (.head _))) rfl) ?_
          refine Gv (V_loadA rfl rfl (Cells.own (.head _)) rfl) ?_
          refine G_callv (k := 10) (.mk rfl rfl rfl rfl) rfl rfl (.none rfl) (hc _) ?_
          refine Gm ?_
          refine Gv (V_extract rfl rfl rfl) ?_
          refine Gv (V_extract rfl rfl rfl) ?_
          refine Gv (V_extract rfl rfl rfl) ?_
          refine Ga ?_
          refine Ga ?_
          refine Ga ?_
          refine G_end (X_then (G_seq (G_seq (G_region ?_))))
          refine Gm ?_
          refine Gv (V_neq rfl rfl rfl) ?_
          refine G_end (X_then ?_)
          refine G_cond_f rfl (by kernel_rfl) ?_
          refine G_skip (X_then (G_seq (G_region ?_)))
          refine Gv (V_fieldAddr rfl rfl (by decide)) ?_
          refine Gv (V_fieldAddr rfl rfl (by decide)) ?_
          refine Gv (V_load rfl rfl (Cell.own (.head _) rfl)) ?_
          refine Gv (V_lenS rfl rfl) ?_
          refine Ga ?_
          refine G_end (X_then (G_seq (G_block (G_seq (G_region ?_)))))
          refine Gv (V_loadA rfl rfl (Cells.own (.head _)) rfl) ?_
          refine G_callv (k := 17) (.mk rfl rfl rfl rfl) rfl rfl (.none rfl) (Stopped_call _ _ _ _ _ _ _ _ _ _ _ _ _ _ _) ?_
          refine Gm ?_
          apply G_joinOr 5 27 32 rfl
          · intro H1
            dsimp only [List.take]
            simp only [Bool.and_eq_true, Bool.or_eq_true, Bool.not_eq_true', Bool.not_eq_false', Bool.and_eq_false_iff, Bool.or_eq_false_iff, Bool.not_not, decide_eq_true_eq, decide_eq_false_iff_not, ne_eq, Decidable.not_not, Bool.decide_eq_true] at H1
            (exfalso; omega)
          · intro H2
            dsimp only [List.take]
            simp only [Bool.and_eq_true, Bool.or_eq_true, Bool.not_eq_true', Bool.not_eq_false', Bool.and_eq_false_iff, Bool.or_eq_false_iff, Bool.not_not, decide_eq_true_eq, decide_eq_false_iff_not, ne_eq, Decidable.not_not, Bool.decide_eq_true] at H2
            refine Gy (V_fieldAddr rfl rfl (by decide)) ?_
            refine Gy (V_fieldAddr rfl rfl (by decide)) ?_
            refine Gy (V_load rfl rfl (Cell.own (.head _) rfl)) ?_
            refine Gy (V_neq rfl rfl rfl) ?_
            refine Gv (V_pick_f rfl rfl rfl) ?_
            refine G_end ?_
            exact JQ_end 5 rfl rfl (by kernel_rfl)
          dsimp only [List.drop]
          refine Gm ?_
          apply G_joinOr 3 33 36 rfl
          · intro H3
            dsimp only [List.take]
            simp only [Bool.and_eq_true, Bool.or_eq_true, Bool.not_eq_true', Bool.not_eq_false', Bool.and_eq_false_iff, Bool.or_eq_false_iff, Bool.not_not, decide_eq_true_eq, decide_eq_false_iff_not, ne_eq, Decidable.not_not, Bool.decide_eq_true] at H3
            refine Gn ?_
            refine Gn ?_
            refine Gv (V_pick_t rfl rfl rfl) ?_
            refine G_end ?_
            exact JQ_end 3 rfl rfl (by kernel_rfl)
          · intro H4
            dsimp only [List.take]
            simp only [Bool.and_eq_true, Bool.or_eq_true, Bool.not_eq_true', Bool.not_eq_false', Bool.and_eq_false_iff, Bool.or_eq_false_iff, Bool.not_not, decide_eq_true_eq, decide_eq_false_iff_not, ne_eq, Decidable.not_not, Bool.decide_eq_true] at H4
            refine Gy (V_move rfl rfl) ?_
            refine Gy (V_eql rfl rfl rfl) ?_
            refine Gv (V_pick_f rfl rfl rfl) ?_
            refine G_end ?_
            exact JQ_end 3 rfl rfl (by kernel_rfl)
          dsimp only [List.drop]
          refine Ga ?_
          refine G_end (X_then ?_)
          refine G_cond rfl (fun H5 => ?_) (fun H5 => ?_)
          · simp only [Bool.and_eq_true, Bool.or_eq_true, Bool.not_eq_true', Bool.not_eq_false', Bool.and_eq_false_iff, Bool.or_eq_false_iff, Bool.not_not, decide_eq_true_eq, decide_eq_false_iff_not, ne_eq, Decidable.not_not, Bool.decide_eq_true] at H5
            refine G_seq (G_region ?_)
            refine Ga ?_
            refine Ga ?_
            refine G_end (X_then (G_ret (X_block_ret (X_then_ret ?_))))
            refine G_leaveS (.drop _ (.drop _ (.nil _))) (by exact (.cons (.tmp rfl) (.cons (.tmp rfl) (.nil)))) rfl ?_ ?_
            · exact (.refl _)
            exact ⟨(by ((try simp only [resVal]); (repeat' split) <;> first | rfl | (exfalso; omega) | (simp_all; done) | (simp_all; omega))), (by rfl)⟩
          simp only [Bool.and_eq_true, Bool.or_eq_true, Bool.not_eq_true', Bool.not_eq_false', Bool.and_eq_false_iff, Bool.or_eq_false_iff, Bool.not_not, decide_eq_true_eq, decide_eq_false_iff_not, ne_eq, Decidable.not_not, Bool.decide_eq_true] at H5
          refine G_seq (G_region ?_)
          refine Gm ?_
          refine Gv (V_eql rfl rfl rfl) ?_
          refine Ga ?_
          refine G_end (X_then ?_)
          refine G_cond_t rfl (decide_eq_true (by omega)) ?_
          refine G_seq (G_region ?_)
          refine Gv (V_fieldAddr rfl rfl (by decide)) ?_
          refine Gv (V_load rfl rfl (Cell.own (.tail _ (.head _)) rfl)) ?_
          refine Gm ?_
          refine Gv (V_sub_i64 rfl rfl rfl (by omega) (by omega)) ?_
          refine Gv (V_max rfl rfl rfl) ?_
          refine Ga ?_
          refine Ga ?_
          refine G_end (X_then (G_ret (X_block_ret (X_then_ret ?_))))
          refine G_leaveS (.drop _ (.drop _ (.nil _))) (by exact (.cons (.tmp rfl) (.cons (.tmp rfl) (.nil)))) rfl ?_ ?_
          · exact (.refl _)
          exact ⟨rfl, rfl⟩
        · rw [if_neg h2k]
          refine CallS.toV (CallS.intro (l := [_, _]) _ Tryz.func9 rfl Tryz.ntmps9 rfl ?_)
          refine G_seq (G_region ?_)
          (refine G_boxA rfl rfl rfl rfl (.none rfl) ?_; intro b2)
          (refine G_boxA rfl rfl rfl rfl (.none rfl) ?_; intro b3)
          refine Ga ?_
          refine Ga ?_
          refine G_end (X_then (G_seq (G_region ?_)))
          refine Gv (V_loadA rfl rfl (Cells.own (.tail _ (.head _))) rfl) ?_
          refine Gv (V_loadA rfl rfl (Cells.own (.head _)) rfl) ?_
          refine G_callv (k := 10) (.mk rfl rfl rfl rfl) rfl rfl (.none rfl) (hc _) ?_
          refine Gm ?_
          refine Gv (V_extract rfl rfl rfl) ?_
          refine Gv (V_extract rfl rfl rfl) ?_
          refine Gv (V_extract rfl rfl rfl) ?_
          refine Ga ?_
          refine Ga ?_
          refine Ga ?_
          refine G_end (X_then (G_seq (G_seq (G_region ?_))))
          refine Gm ?_
          refine Gv (V_neq rfl rfl rfl) ?_
          refine G_end (X_then ?_)
          refine G_cond_f rfl (by kernel_rfl) ?_
          refine G_skip (X_then (G_seq (G_region ?_)))
          refine Gv (V_fieldAddr rfl rfl (by decide)) ?_
          refine Gv (V_fieldAddr rfl rfl (by decide)) ?_
          refine Gv (V_load rfl rfl (Cell.own (.head _) rfl)) ?_
          refine Gv (V_lenS rfl rfl) ?_
          refine Ga ?_
          refine G_end (X_then (G_seq (G_block (G_seq (G_region ?_)))))
          refine Gv (V_loadA rfl rfl (Cells.own (.head _)) rfl) ?_
          refine G_callv (k := 17) (.mk rfl rfl rfl rfl) rfl rfl (.none rfl) (Stopped_call _ _ _ _ _ _ _ _ _ _ _ _ _ _ _) ?_
          refine Gm ?_
          apply G_joinOr 5 27 32 rfl
          · intro H1
            dsimp only [List.take]
            simp only [Bool.and_eq_true, Bool.or_eq_true, Bool.not_eq_true', Bool.not_eq_false', Bool.and_eq_false_iff, Bool.or_eq_false_iff, Bool.not_not, decide_eq_true_eq, decide_eq_false_iff_not, ne_eq, Decidable.not_not, Bool.decide_eq_true] at H1
            (exfalso; omega)
          · intro H2
            dsimp only [List.take]
            simp only [Bool.and_eq_true, Bool.or_eq_true, Bool.not_eq_true', Bool.not_eq_false', Bool.and_eq_false_iff, Bool.or_eq_false_iff, Bool.not_not, decide_eq_true_eq, decide_eq_false_iff_not, ne_eq, Decidable.not_not, Bool.decide_eq_true] at H2
            refine Gy (V_fieldAddr rfl rfl (by decide)) ?_
            refine Gy (V_fieldAddr rfl rfl (by decide)) ?_
            refine Gy (V_load rfl rfl (Cell.own (.head _) rfl)) ?_
            refine Gy (V_neq rfl rfl rfl) ?_
            refine Gv (V_pick_f rfl rfl rfl) ?_
            refine G_end ?_
            exact JQ_end 5 rfl rfl (by kernel_rfl)
          dsimp only [List.drop]
          refine Gm ?_
          apply G_joinOr 3 33 36 rfl
          · intro H3
            dsimp only [List.take]
            simp only [Bool.and_eq_true, Bool.or_eq_true, Bool.not_eq_true', Bool.not_eq_false', Bool.and_eq_false_iff, Bool.or_eq_false_iff, Bool.not_not, decide_eq_true_eq, decide_eq_false_iff_not, ne_eq, Decidable.not_not, Bool.decide_eq_true] at H3
            refine Gn ?_
            refine Gn ?_
            refine Gv (V_pick_t rfl rfl rfl) ?_
            refine G_end ?_
            exact JQ_end 3 rfl rfl (by kernel_rfl)
          · intro H4
            dsimp only [List.take]
            simp only [Bool.and_eq_true, Bool.or_eq_true, Bool.not_eq_true', Bool.not_eq_false', Bool.and_eq_false_iff, Bool.or_eq_false_iff, Bool.not_not, decide_eq_true_eq, decide_eq_false_iff_not, ne_eq, Decidable.not_not, Bool.decide_eq_true] at H4
            refine Gy (V_move rfl rfl) ?_
            refine Gy (V_eql rfl rfl rfl) ?_
            refine Gv (V_pick_f rfl rfl rfl) ?_
            refine G_end ?_
            exact JQ_end 3 rfl rfl (by kernel_rfl)
          dsimp only [List.drop]
          refine Ga ?_
          refine G_end (X_then ?_)
          refine G_cond rfl (fun H5 => ?_) (fun H5 => ?_)
          · simp only [Bool.and_eq_true, Bool.or_eq_true, Bool.not_eq_true', Bool.not_eq_false', Bool.and_eq_false_iff, Bool.or_eq_false_iff, Bool.not_not, decide_eq_true_eq, decide_eq_false_iff_not, ne_eq, Decidable.not_not, Bool.decide_eq_true] at H5
            refine G_seq (G_region ?_)
            refine Ga ?_
            refine Ga ?_
            refine G_end (X_then (G_ret (X_block_ret (X_then_ret ?_))))
            refine G_leaveS (.drop _ (.drop _ (.nil _))) (by exact (.cons (.tmp rfl) (.cons (.tmp rfl) (.nil)))) rfl ?_ ?_
            · exact (.refl _)
            exact ⟨(by ((try simp only [resVal]); (repeat' split) <;> first | rfl | (exfalso; omega) | (simp_all; done) | (simp_all; omega))), (by rfl)⟩
          simp only [Bool.and_eq_true, Bool.or_eq_true, Bool.not_eq_true', Bool.not_eq_false', Bool.and_eq_false_iff, Bool.or_eq_false_iff, Bool.not_not, decide_eq_true_eq, decide_eq_false_iff_not, ne_eq, Decidable.not_not, Bool.decide_eq_true] at H5
          refine G_seq (G_region ?_)
          refine Gm ?_
          refine Gv (V_eql rfl rfl rfl) ?_
          refine Ga ?_
          refine G_end (X_then ?_)
          refine G_cond_f rfl (decide_eq_false (by omega)) ?_
          refine G_skip (X_block (X_then (G_seq (G_region ?_))))
          refine Gm ?_
          refine Gv (V_sub_i64 rfl rfl rfl (by omega) (by omega)) ?_
          refine Gv (V_max rfl rfl rfl) ?_
          refine Ga ?_
          refine Ga ?_
          refine G_end (X_then (G_ret ?_))
          refine G_leaveS (.drop _ (.drop _ (.nil _))) (by exact (.cons (.tmp rfl) (.cons (.tmp rfl) (.nil)))) rfl ?_ ?_
          · exact (.refl _)
          exact ⟨rfl, rfl⟩
    · rw [if_pos (.inl he)]
      refine CallS.toV (CallS.intro (l := [_, _]) _ Tryz.func9 rfl Tryz.ntmps9 rfl ?_)
      refine G_seq (G_region ?_)
      (refine G_boxA rfl rfl rfl rfl (.none rfl) ?_; intro b2)
      (refine G_boxA rfl rfl rfl rfl (.none rfl) ?_; intro b3)
      refine Ga ?_
      refine Ga ?_
      refine G_end (X_then (G_seq (G_region ?_)))
      refine Gv (V_loadA rfl rfl (Cells.own (.tail _ (.head _))) rfl) ?_
      refine Gv (V_loadA rfl rfl (Cells.own (.head _)) rfl) ?_
      refine G_callv (k := 10) (.mk rfl rfl rfl rfl) rfl rfl (.none rfl) (hc _) ?_
      refine Gm ?_
      refine Gv (V_extract rfl rfl rfl) ?_
      refine Gv (V_extract rfl rfl rfl) ?_
      refine Gv (V_extract rfl rfl rfl) ?_
      refine Ga ?_
      refine Ga ?_
      refine Ga ?_
      refine G_end (X_then (G_seq (G_seq (G_region ?_))))
      refine Gm ?_
      refine Gv (V_neq rfl rfl rfl) ?_
      refine G_end (X_then ?_)
      refine G_cond_f rfl (by kernel_rfl) ?_
      refine G_skip (X_then (G_seq (G_region ?_)))
      refine Gv (V_fieldAddr rfl rfl (by decide)) ?_
      refine Gv (V_fieldAddr rfl rfl (by decide)) ?_
      refine Gv (V_load rfl rfl (Cell.own (.head _) rfl)) ?_
      refine Gv (V_lenS rfl rfl) ?_
      refine Ga ?_
      refine G_end (X_then (G_seq (G_block (G_seq (G_region ?_)))))
      refine Gv (V_loadA rfl rfl (Cells.own (.head _)) rfl) ?_
      refine G_callv (k := 17) (.mk rfl rfl rfl rfl) rfl rfl (.none rfl) (Stopped_call _ _ _ _ _ _ _ _ _ _ _ _ _ _ _) ?_
      refine Gm ?_
      apply G_joinOr 5 27 32 rfl
      · intro H1
        dsimp only [List.take]
        simp only [Bool.and_eq_true, Bool.or_eq_true, Bool.not_eq_true', Bool.not_eq_false', Bool.and_eq_false_iff, Bool.or_eq_false_iff, Bool.not_not, decide_eq_true_eq, decide_eq_false_iff_not, ne_eq, Decidable.not_not, Bool.decide_eq_true] at H1
        (exfalso; omega)
      · intro H2
        dsimp only [List.take]
        simp only [Bool.and_eq_true, Bool.or_eq_true, Bool.not_eq_true', Bool.not_eq_false', Bool.and_eq_false_iff, Bool.or_eq_false_iff, Bool.not_not, decide_eq_true_eq, decide_eq_false_iff_not, ne_eq, Decidable.not_not, Bool.decide_eq_true] at H2
        refine Gy (V_fieldAddr rfl rfl (by decide)) ?_
        refine Gy (V_fieldAddr rfl rfl (by decide)) ?_
        refine Gy (V_load rfl rfl (Cell.own (.head _) rfl)) ?_
        refine Gy (V_neq rfl rfl rfl) ?_
        refine Gv (V_pick_f rfl rfl rfl) ?_
        refine G_end ?_
        exact JQ_end 5 rfl rfl (by kernel_rfl)
      dsimp only [List.drop]
      refine Gm ?_
      refine G.bool_t 33 rfl (by simp [*]; done) ?_
      refine Gn ?_
      refine Gn ?_
      refine Gv (V_pick_t rfl rfl rfl) ?_
      refine Ga ?_
      refine G_end (X_then ?_)
      refine G_cond_t rfl rfl ?_
      refine G_seq (G_region ?_)
      refine Ga ?_
      refine Ga ?_
      refine G_end (X_then (G_ret (X_block_ret (X_then_ret ?_))))
      refine G_leaveS (.drop _ (.drop _ (.nil _))) (by exact (.cons (.tmp rfl) (.cons (.tmp rfl) (.nil)))) rfl ?_ ?_
      · exact (.refl _)
      exact ⟨(by kernel_rfl), rfl⟩
  · simp only [if_neg hk] at hc ⊢
    generalize ckM g st at' part l e ea b us = x at *
    obtain ⟨gp, gc, np, nc, pp, pc, rfl, _⟩ := hg
    refine CallS.toV (CallS.intro (l := [_, _]) _ Tryz.func9 rfl Tryz.ntmps9 rfl ?_)
    refine G_seq (G_region ?_)
    (refine G_boxA rfl rfl rfl rfl (.none rfl) ?_; intro b2)
    (refine G_boxA rfl rfl rfl rfl (.none rfl) ?_; intro b3)
    refine Ga ?_
    refine Ga ?_
    refine G_end (X_then (G_seq (G_region ?_)))
    refine Gv (V_loadA rfl rfl (Cells.own (.tail _ (.head _))) rfl) ?_
    refine Gv (V_loadA rfl rfl (Cells.own (.head _)) rfl) ?_
    refine G_callv (k := 10) (.mk rfl rfl rfl rfl) rfl rfl (.none rfl) (hc _) ?_
    refine Gm ?_
    refine Gv (V_extract rfl rfl rfl) ?_
    refine Gv (V_extract rfl rfl rfl) ?_
    refine Gv (V_extract rfl rfl rfl) ?_
    refine Ga ?_
    refine Ga ?_
    refine Ga ?_
    refine G_end (X_then (G_seq (G_seq (G_region ?_))))
    refine Gm ?_
    refine Gv (V_neq rfl rfl rfl) ?_
    refine G_end (X_then ?_)
    refine G_cond_t rfl (decide_eq_true (by omega)) ?_
    refine G_seq (G_region ?_)
    refine Gm ?_
    refine Ga ?_
    refine Ga ?_
    refine G_end (X_then (G_ret (X_then_ret ?_)))
    refine G_leaveS (.drop _ (.drop _ (.nil _))) (by exact (.cons (.tmp rfl) (.cons (.tmp rfl) (.nil)))) rfl ?_ ?_
    · exact (.refl _)
    exact ⟨rfl, rfl⟩
theorem CWaits_call : CallV Tryz.prog 12 #[gv, cfV st rc at' part tp tn tc e ea b sp sn sc] E L
    (.tuple #[.bool (decide (0 < (if ckM g st at' part l e ea b us = 0 then needC g st l.length e b us else 0))), .int .i64 (ckM g st at' part l e ea b us)]) := by
  have hc := fun L0 => CNeeds_call E L0 st rc at' part tp tn tc e ea b sp sn sc gv g hg hl h0 h3 hr hp l hs hgr us hu hn
  generalize (if ckM g st at' part l e ea b us = 0 then needC g st l.length e b us else 0) = y at *
  generalize ckM g st at' part l e ea b us = x at *
  obtain ⟨gp, gc, np, nc, pp, pc, rfl, _⟩ := hg
  refine CallS.toV (CallS.intro (l := [_, _]) _ Tryz.func12 rfl Tryz.ntmps12 rfl ?_)
  refine G_seq (G_region ?_)
  (refine G_boxA rfl rfl rfl rfl (.none rfl) ?_; intro b2)
  (refine G_boxA rfl rfl rfl rfl (.none rfl) ?_; intro b3)
  refine Ga ?_
  refine Ga ?_
  refine G_end (X_then (G_seq (G_region ?_)))
  refine Gv (V_loadA rfl rfl (Cells.own (.tail _ (.head _))) rfl) ?_
  refine Gv (V_loadA rfl rfl (Cells.own (.head _)) rfl) ?_
  refine G_callv (k := 9) (.mk rfl rfl rfl rfl) rfl rfl (.none rfl) (hc _) ?_
  refine Gm ?_
  refine Gv (V_extract rfl rfl rfl) ?_
  refine Gv (V_extract rfl rfl rfl) ?_
  refine Ga ?_
  refine Ga ?_
  refine G_end (X_then (G_seq (G_region ?_)))
  refine Gm ?_
  refine Gv (V_gtr rfl rfl rfl) ?_
  refine Gm ?_
  refine Ga ?_
  refine Ga ?_
  refine G_end (X_then (G_ret ?_))
  refine G_leaveS (.drop _ (.drop _ (.nil _))) (by exact (.cons (.tmp rfl) (.cons (.tmp rfl) (.nil)))) rfl ?_ ?_
  · exact (.refl _)
  exact ⟨rfl, rfl⟩
/-- The place: the first token's, or where the part begins. -/
def plcC (at' : Int) (pn : Nat) (l : List Tok) : Int := match l with
  | [] => at' - pn
  | t :: _ => t.at'
theorem CPlace_call (he : e = 0) : CallV Tryz.prog 13 #[gv, cfV st rc at' part tp tn tc e ea b sp sn sc] E L
    (.tuple #[.int .i64 (if ckM g st at' part l e ea b us = 0 then plcC at' part.length l else 0), .int .i64 (ckM g st at' part l e ea b us)]) := by
  have hc := fun L0 => CCheck_call E L0 st rc at' part tp tn tc e ea b sp sn sc gv g hg hl h0 h3 hr hp l hs hgr us hu hn
  have hrr := hr
  simp only [rngB, Bool.and_eq_true, decide_eq_true_eq] at hrr
  obtain ⟨_, w1, w2⟩ := hrr
  have en := hs.nT
  by_cases hk : ckM g st at' part l e ea b us = 0
  · simp only [if_pos hk]
    rw [hk] at hc ⊢
    match l, hs, hgr with
    | [], hs, hgr =>
      obtain rfl : tn = 0 := en
      have hpl := fun L0 => PlaceEmpty_call E L0 g.k g.toks.length tp 0 tc e ea [] hs hgr rfl he
      obtain ⟨gp, gc, np, nc, pp, pc, rfl, _⟩ := hg
      unfold plcC
      refine CallS.toV (CallS.intro (l := [_, _]) _ Tryz.func13 rfl Tryz.ntmps13 rfl ?_)
      refine G_seq (G_region ?_)
      (refine G_boxA rfl rfl rfl rfl (.none rfl) ?_; intro b2)
      (refine G_boxA rfl rfl rfl rfl (.none rfl) ?_; intro b3)
      refine Ga ?_
      refine Ga ?_
      refine G_end (X_then (G_seq (G_seq (G_region ?_))))
      refine Gv (V_loadA rfl rfl (Cells.own (.tail _ (.head _))) rfl) ?_
      refine Gv (V_loadA rfl rfl (Cells.own (.head _)) rfl) ?_
      refine G_callv (k := 15) (.mk rfl rfl rfl rfl) rfl rfl (.none rfl) (hc _) ?_
      refine Ga ?_
      refine G_end (X_then (G_seq (G_region ?_)))
      refine Gm ?_
      refine Gv (V_neq rfl rfl rfl) ?_
      refine G_end (X_then ?_)
      refine G_cond_f rfl (by kernel_rfl) ?_
      refine G_skip (X_then (G_seq (G_region ?_)))
      refine Gv (V_fieldAddr rfl rfl (by decide)) ?_
      refine Gv (V_load rfl rfl (Cell.own (.tail _ (.head _)) rfl)) ?_
      refine Gv (V_fieldAddr rfl rfl (by decide)) ?_
      refine Gv (V_load rfl rfl (Cell.own (.tail _ (.head _)) rfl)) ?_
      refine Gv (V_lenS rfl rfl) ?_
      refine Gv (V_fieldAddr rfl rfl (by decide)) ?_
      refine Gv (V_loadF rfl rfl (.head _) (by simp only [Nat.zero_add, List.drop_succ_cons, List.drop_zero, List.take_succ_cons, List.take_zero]; rfl) (by rfl)) ?_
      refine G_callv (k := 27) (.mk rfl rfl rfl rfl) rfl rfl (.none rfl) (hpl _) ?_
      refine Gm ?_
      refine Gv (V_extract rfl rfl rfl) ?_
      refine Gv (V_extract rfl rfl rfl) ?_
      refine Ga ?_
      refine Ga ?_
      refine G_end (X_then (G_seq (G_seq (G_region ?_))))
      refine Gm ?_
      refine Gv (V_neq rfl rfl rfl) ?_
      refine G_end (X_then ?_)
      refine G_cond_t rfl (by kernel_rfl) ?_
      refine G_seq (G_region ?_)
      refine Gv (V_fieldAddr rfl rfl (by decide)) ?_
      refine Gv (V_load rfl rfl (Cell.own (.head _) rfl)) ?_
      refine Gv (V_fieldAddr rfl rfl (by decide)) ?_
      refine Gv (V_load rfl rfl (Cell.own (.head _) rfl)) ?_
      refine Gv (V_len rfl rfl) ?_
      refine Gv (V_sub_i64 rfl rfl rfl (by omega) (by omega)) ?_
      refine Ga ?_
      refine Ga ?_
      refine G_end (X_then (G_ret (X_then_ret ?_)))
      refine G_leaveS (.drop _ (.drop _ (.nil _))) (by exact (.cons (.tmp rfl) (.cons (.tmp rfl) (.nil)))) rfl ?_ ?_
      · exact (.refl _)
      exact ⟨rfl, rfl⟩
    | ⟨ta, ts, td⟩ :: l, hs, hgr =>
      have hpl := fun L0 => Place_call E L0 g.k g.toks.length tp tn tc e ea _ hs hgr (by rw [en]; simp) ta ts td rfl
      obtain ⟨gp, gc, np, nc, pp, pc, rfl, _⟩ := hg
      unfold plcC
      refine CallS.toV (CallS.intro (l := [_, _]) _ Tryz.func13 rfl Tryz.ntmps13 rfl ?_)
      refine G_seq (G_region ?_)
      (refine G_boxA rfl rfl rfl rfl (.none rfl) ?_; intro b2)
      (refine G_boxA rfl rfl rfl rfl (.none rfl) ?_; intro b3)
      refine Ga ?_
      refine Ga ?_
      refine G_end (X_then (G_seq (G_seq (G_region ?_))))
      refine Gv (V_loadA rfl rfl (Cells.own (.tail _ (.head _))) rfl) ?_
      refine Gv (V_loadA rfl rfl (Cells.own (.head _)) rfl) ?_
      refine G_callv (k := 15) (.mk rfl rfl rfl rfl) rfl rfl (.none rfl) (hc _) ?_
      refine Ga ?_
      refine G_end (X_then (G_seq (G_region ?_)))
      refine Gm ?_
      refine Gv (V_neq rfl rfl rfl) ?_
      refine G_end (X_then ?_)
      refine G_cond_f rfl (by kernel_rfl) ?_
      refine G_skip (X_then (G_seq (G_region ?_)))
      refine Gv (V_fieldAddr rfl rfl (by decide)) ?_
      refine Gv (V_load rfl rfl (Cell.own (.tail _ (.head _)) rfl)) ?_
      refine Gv (V_fieldAddr rfl rfl (by decide)) ?_
      refine Gv (V_load rfl rfl (Cell.own (.tail _ (.head _)) rfl)) ?_
      refine Gv (V_lenS rfl rfl) ?_
      refine Gv (V_fieldAddr rfl rfl (by decide)) ?_
      refine Gv (V_loadF rfl rfl (.head _) (by simp only [Nat.zero_add, List.drop_succ_cons, List.drop_zero, List.take_succ_cons, List.take_zero]; rfl) (by rfl)) ?_
      refine G_callv (k := 27) (.mk rfl rfl rfl rfl) rfl rfl (.none rfl) (hpl _) ?_
      refine Gm ?_
      refine Gv (V_extract rfl rfl rfl) ?_
      refine Gv (V_extract rfl rfl rfl) ?_
      refine Ga ?_
      refine Ga ?_
      refine G_end (X_then (G_seq (G_seq (G_region ?_))))
      refine Gm ?_
      refine Gv (V_neq rfl rfl rfl) ?_
      refine G_end (X_then ?_)
      refine G_cond_f rfl (by kernel_rfl) ?_
      refine G_skip (X_then (G_seq (G_region ?_)))
      refine Gm ?_
      refine Ga ?_
      refine Ga ?_
      refine G_end (X_then (G_ret ?_))
      refine G_leaveS (.drop _ (.drop _ (.nil _))) (by exact (.cons (.tmp rfl) (.cons (.tmp rfl) (.nil)))) rfl ?_ ?_
      · exact (.refl _)
      exact ⟨rfl, rfl⟩
  · simp only [if_neg hk]
    generalize ckM g st at' part l e ea b us = x at *
    obtain ⟨gp, gc, np, nc, pp, pc, rfl, _⟩ := hg
    refine CallS.toV (CallS.intro (l := [_, _]) _ Tryz.func13 rfl Tryz.ntmps13 rfl ?_)
    refine G_seq (G_region ?_)
    (refine G_boxA rfl rfl rfl rfl (.none rfl) ?_; intro b2)
    (refine G_boxA rfl rfl rfl rfl (.none rfl) ?_; intro b3)
    refine Ga ?_
    refine Ga ?_
    refine G_end (X_then (G_seq (G_seq (G_region ?_))))
    refine Gv (V_loadA rfl rfl (Cells.own (.tail _ (.head _))) rfl) ?_
    refine Gv (V_loadA rfl rfl (Cells.own (.head _)) rfl) ?_
    refine G_callv (k := 15) (.mk rfl rfl rfl rfl) rfl rfl (.none rfl) (hc _) ?_
    refine Ga ?_
    refine G_end (X_then (G_seq (G_region ?_)))
    refine Gm ?_
    refine Gv (V_neq rfl rfl rfl) ?_
    refine G_end (X_then ?_)
    refine G_cond_t rfl (decide_eq_true (by omega)) ?_
    refine G_seq (G_region ?_)
    refine Gm ?_
    refine Ga ?_
    refine Ga ?_
    refine G_end (X_then (G_ret (X_then_ret ?_)))
    refine G_leaveS (.drop _ (.drop _ (.nil _))) (by exact (.cons (.tmp rfl) (.cons (.tmp rfl) (.nil)))) rfl ?_ ?_
    · exact (.refl _)
    exact ⟨rfl, rfl⟩
end
end Go.Proofs.YtimiokmgnclggaaGreat
set_option linter.unusedVariables false
set_option linter.unusedSimpArgs false
namespace Go.Proofs.YtimiokmgnclggaaGreat
open Go.RowKit
/-! Plain law: tokens whose frames stand one directly behind the other; configurations made of them. -/
def Chn (terms : Int) : Int → List Tok → Prop
  | _, [] => True
  | a, t :: l => t.at' = a ∧ 0 ≤ t.sym ∧ t.sym < terms ∧ t.text.length ≤ 3 ∧ Chn terms (tbeh t) l
theorem Chn.tendF {terms : Int} : ∀ {l : List Tok} {a : Int}, Chn terms a l → a ≤ tendF a l ∧ tendF a l ≤ a + 5 * l.length
  | [], a, _ => by simp [YtimiokmgnclggaaGreat.tendF]
  | t :: l, a, ⟨h1, _, _, h4, h5⟩ => by
    have ih := h5.tendF
    have e : YtimiokmgnclggaaGreat.tendF a (t :: l) = YtimiokmgnclggaaGreat.tendF (tbeh t) l := rfl
    rw [e]
    simp only [tbeh, List.length_cons] at ih ⊢
    omega
theorem Chn.tok {terms : Int} : ∀ {l : List Tok} {a : Int}, Chn terms a l → 0 ≤ a → YtimiokmgnclggaaGreat.tendF a l ≤ 1099511627776 → ∀ t, t ∈ l → tokB terms t = true
  | [], a, _, _, _, t, h => by cases h
  | x :: l, a, ⟨h1, h2, h3, h4, h5⟩, h0, hm, t, h => by
    have e : YtimiokmgnclggaaGreat.tendF a (x :: l) = YtimiokmgnclggaaGreat.tendF (tbeh x) l := rfl
    rw [e] at hm
    have ih := h5.tendF
    have e2 : tbeh x = x.at' + (2 + x.text.length) := rfl
    rcases List.mem_cons.1 h with rfl | h
    · refine tokB_iff.2 ⟨h2, h3, ?_, ?_, ?_⟩ <;> omega
    · exact h5.tok (by omega) hm t h
theorem Chn.ord {terms : Int} : ∀ {l : List Tok} {a : Int}, Chn terms a l → ordB a l = true
  | [], _, _ => rfl
  | x :: l, a, ⟨h1, _, _, _, h5⟩ => by
    simp only [ordB, Bool.and_eq_true, decide_eq_true_eq]
    exact ⟨by omega, h5.ord⟩
theorem Chn.add {terms : Int} {t : Tok} (h2 : 0 ≤ t.sym) (h3 : t.sym < terms) (h4 : t.text.length ≤ 3) : ∀ {l : List Tok} {a : Int}, Chn terms a l → t.at' = YtimiokmgnclggaaGreat.tendF a l → Chn terms a (l ++ [t])
  | [], a, _, e => ⟨e, h2, h3, h4, trivial⟩
  | x :: l, a, ⟨g1, g2, g3, g4, g5⟩, e => ⟨g1, g2, g3, g4, Chn.add h2 h3 h4 g5 e⟩
/-- A token so much further. -/
def mvT (k : Int) (t : Tok) : Tok := ⟨t.sym, t.text, t.at' + k⟩
theorem Chn.move {terms : Int} (k : Int) : ∀ {l : List Tok} {a : Int}, Chn terms a l → Chn terms (a + k) (l.map (mvT k))
  | [], _, _ => trivial
  | x :: l, a, ⟨g1, g2, g3, g4, g5⟩ => by
    have ih := Chn.move k g5
    have e : tbeh x + k = tbeh (mvT k x) := by simp only [tbeh, mvT]; omega
    rw [e] at ih
    exact ⟨by simp only [mvT]; omega, g2, g3, g4, ih⟩
theorem tendF_move (k : Int) : ∀ (l : List Tok) (a : Int), YtimiokmgnclggaaGreat.tendF (a + k) (l.map (mvT k)) = YtimiokmgnclggaaGreat.tendF a l + k
  | [], _ => rfl
  | x :: l, a => by
    have ih := tendF_move k l (tbeh x)
    have e : tbeh x + k = tbeh (mvT k x) := by simp only [tbeh, mvT]; omega
    rw [e] at ih
    exact ih
theorem tend_of (a : Int) : ∀ (l : List Tok), 0 < l.length → tend l = YtimiokmgnclggaaGreat.tendF a l
  | x :: l, _ => rfl
theorem Chn.get {terms : Int} : ∀ {l : List Tok} {a : Int}, Chn terms a l → ∀ i, (hi : i < l.length) → l[i].at' = YtimiokmgnclggaaGreat.tendF a (l.take i)
  | x :: l, a, ⟨g1, _, _, _, g5⟩, 0, _ => g1
  | x :: l, a, ⟨_, _, _, _, g5⟩, i + 1, hi => g5.get i (by simpa using hi)
theorem Chn.cont {terms : Int} {l : List Tok} {a : Int} (h : Chn terms a l) : contB l = true := by
  refine contB_of fun i h0 hi => ?_
  rw [h.get i hi]
  obtain ⟨j, rfl⟩ : ∃ j, i = j + 1 := ⟨i - 1, by omega⟩
  rw [List.take_succ_eq_append_getElem (by omega), tendF_snoc]
  rfl
theorem Chn.ring {k terms a : Int} {l : List Tok} (h : Chn terms a l) (hk : 1 ≤ k ∧ k ≤ 4) (ht : 1 ≤ terms ∧ terms ≤ 8) (ha : 0 ≤ a) (hm : YtimiokmgnclggaaGreat.tendF a l ≤ 1099511627776) (hl : (l.length : Int) ≤ k) : gringB k terms l 0 0 = true :=
  gring_iff.2 ⟨hk.1, hk.2, ht.1, ht.2, hl, h.tok ha hm, ordB_mono l a 0 ha h.ord, by omega, by omega, by omega, by omega, .inr rfl, .inl rfl⟩
theorem Chn.ringE {k terms a : Int} {l : List Tok} (h : Chn terms a l) (hk : 1 ≤ k ∧ k ≤ 4) (ht : 1 ≤ terms ∧ terms ≤ 8) (ha : 0 ≤ a) (hm : YtimiokmgnclggaaGreat.tendF a l ≤ 1099511627776) (hl : (l.length : Int) ≤ k) : gringB k terms l 1 (YtimiokmgnclggaaGreat.tendF a l) = true := by
  have h2 := h.tendF
  refine gring_iff.2 ⟨hk.1, hk.2, ht.1, ht.2, hl, h.tok ha hm, ordB_mono l a 0 ha h.ord, by omega, by omega, by omega, by omega, .inl (by omega), ?_⟩
  by_cases hl0 : l.length = 0
  · exact .inr (.inl hl0)
  · exact .inr (.inr (by rw [tend_of a l (by omega)]; omega))
/-- What a configuration that is right says of its stack alone. -/
theorem ckM_chn {g : Gr} {a : Int} {l : List Tok} {us : List Spt} (ha : 0 ≤ a) (h : Chn g.toks.length a l) : ckM g 2 (YtimiokmgnclggaaGreat.tendF a l) [] l 0 0 true us = chkS g us := by
  have h2 := h.tendF
  have h3 : placM (YtimiokmgnclggaaGreat.tendF a l) ([] : List UInt8).length l 0 0 = 0 := by
    unfold placM
    rw [if_neg (by rw [h.cont]; decide), if_pos rfl, if_neg ?_]
    rintro (q | ⟨q1, q2⟩)
    · simp at q; omega
    · rw [tend_of a l q1] at q2; simp at q2
  have h4 : partM [] g.toks.length 0 = 0 := by simp [partM, begE]
  simp only [ckM, h3, h4, formM, fz, if_true, if_false]
  by_cases hc : chkS g us = 0
  · simp [hc]
  · simp [hc]
theorem ckM_chnE {g : Gr} {a : Int} {l : List Tok} {us : List Spt} (ha : 0 ≤ a) (h : Chn g.toks.length a l) (hc : chkS g us = 0) : ckM g 2 (YtimiokmgnclggaaGreat.tendF a l + 2) [] l 1 (YtimiokmgnclggaaGreat.tendF a l) true us = 0 := by
  have h2 := h.tendF
  refine ckM_of (by simp [partM, begE]) ?_ hc (by simp [formM])
  unfold placM
  rw [if_neg (by rw [h.cont]; decide), if_neg (by decide), if_pos rfl, if_neg ?_]
  rintro (q | q | q | ⟨q1, q2⟩)
  · omega
  · omega
  · omega
  · rw [tend_of a l q1] at q2; simp at q2
theorem plcC_chn {terms a : Int} : ∀ {l : List Tok}, Chn terms a l → plcC (YtimiokmgnclggaaGreat.tendF a l) ([] : List UInt8).length l = a
  | [], _ => by simp [plcC, YtimiokmgnclggaaGreat.tendF]
  | _ :: _, h => h.1
theorem tok_at (A B : List Tok) (t : Tok) (tl : List Value) (o : Nat) (ho : o = A.length * 3 + 2) : (toks (A ++ t :: B) ++ tl)[o]? = some (.int .i64 t.at') := by
  rw [ho, toks_append, List.append_assoc, List.getElem?_append_right (by rw [toks_len]; omega), toks_len, show A.length * 3 + 2 - A.length * 3 = 2 by omega]
  rfl
theorem tok_set (A B : List Tok) (t : Tok) (tl : List Value) (v : Int) (o : Nat) (ho : o = A.length * 3 + 2) : (toks (A ++ t :: B) ++ tl).set o (.int .i64 v) = toks (A ++ ⟨t.sym, t.text, v⟩ :: B) ++ tl := by
  rw [ho, toks_append, toks_append, List.append_assoc, List.append_assoc, List.set_append_right _ _ (by rw [toks_len]; omega), toks_len, show A.length * 3 + 2 - A.length * 3 = 2 by omega]
  rfl
/-- The first i tokens moved. -/
def mvs (k : Int) (i : Nat) (l : List Tok) : List Tok := (l.take i).map (mvT k) ++ l.drop i
theorem mvs_len (k : Int) (i : Nat) (l : List Tok) : (mvs k i l).length = l.length := by simp [mvs]; omega
theorem mvs_zero (k : Int) (l : List Tok) : mvs k 0 l = l := by simp [mvs]
theorem mvs_all (k : Int) (l : List Tok) : mvs k l.length l = l.map (mvT k) := by simp [mvs]
theorem mvs_at (k : Int) (i : Nat) (l : List Tok) (h : i < l.length) (tl : List Value) (o : Nat) (ho : o = i * 3 + 2) : (toks (mvs k i l) ++ tl)[o]? = some (.int .i64 l[i].at') := by
  rw [mvs, List.drop_eq_getElem_cons h]
  exact tok_at _ _ _ _ _ (by rw [ho, List.length_map, List.length_take]; omega)
theorem mvs_set (k : Int) (i : Nat) (l : List Tok) (h : i < l.length) (tl : List Value) (o : Nat) (ho : o = i * 3 + 2) : (toks (mvs k i l) ++ tl).set o (.int .i64 (l[i].at' + k)) = toks (mvs k (i + 1) l) ++ tl := by
  rw [mvs, List.drop_eq_getElem_cons h, tok_set _ _ _ _ _ _ (by rw [ho, List.length_map, List.length_take]; omega), mvs, List.take_succ_eq_append_getElem h, List.map_append, List.append_assoc]
  rfl
/-- The needs, by the kind of what is awaited. -/
def nd (kd k n : Int) : Int := if kd = 3 then 0 else if kd = 2 then max 0 (k - n) else max 0 (1 - n)
theorem needC_nd (g : Gr) (n : Nat) (us : List Spt) : needC g 2 n 0 true us = nd (awS g.prods us).1 g.k n := by
  simp [needC, awC, nd]
theorem needC_end (g : Gr) (n : Nat) (us : List Spt) : needC g 2 n 1 true us = 0 := by
  simp [needC]
theorem nd_le {kd k n : Int} (hk : 1 ≤ k) (hn : 0 ≤ n) : 0 ≤ nd kd k n ∧ nd kd k n ≤ k ∧ (0 < nd kd k n → n < k ∧ (kd ≠ 2 → n = 0)) := by
  unfold nd
  split
  · omega
  · split <;> omega
theorem nd_step {kd k n : Int} (h : 0 < nd kd k n) : nd kd k (n + 1) = nd kd k n - 1 := by
  unfold nd at h ⊢
  split
  · simp_all
  · split <;> simp_all <;> omega
end Go.Proofs.YtimiokmgnclggaaGreat
set_option linter.unusedSimpArgs false
set_option linter.unusedVariables false
set_option maxHeartbeats 2000000
set_option maxRecDepth 20000
namespace Go.Proofs.YtimiokmgnclggaaGreat
open Go.RowKit
/-! The law's configurations made of numbers. -/
abbrev cfB (b : Nat) (st rc at' : Int) (part : List UInt8) (tp : Option Addr) (tn tc : Nat) (e ea : Int) (bg : Bool) (sp : Option Addr) (sn sc : Nat) : Res :=
  .blk b (.cells #[.int .i64 st, .int .i64 rc, .int .i64 at', .string (S part), .slice tp tn tc, .int .i64 e, .int .i64 ea, .bool bg, .slice sp sn sc] 33 (0, 0))
def Spots (ps : List Pr) (i : Nat) (us : List Spt) : Prop := us.length ≤ i ∧ ∀ u, u ∈ us → (0 ≤ u.1 ∧ u.1 < ps.length) ∧ (0 ≤ u.2 ∧ u.2 ≤ i)
theorem Spots.up {ps : List Pr} {i j : Nat} {us : List Spt} (h : Spots ps i us) (hij : i ≤ j) : Spots ps j us := ⟨by have := h.1; omega, fun u hu => ⟨(h.2 u hu).1, by have := (h.2 u hu).2; omega⟩⟩
@[simp] theorem i64s_lenS (l : List Int) : (i64s l).length = l.length := by simp [i64s]
theorem bump_off (us0 : List Spt) (q d : Int) : (((us0 ++ [(q, d)]).length : Int) - 1).toNat * 2 + 1 = (spC us0).length + 1 := by
  have hlen : (us0 ++ [(q, d)]).length = us0.length + 1 := by simp
  rw [spC_len]; omega
theorem bump_get (us0 : List Spt) (q d : Int) (tl : List Value) : (spC (us0 ++ [(q, d)]) ++ tl)[(((us0 ++ [(q, d)]).length : Int) - 1).toNat * 2 + 1]? = some (.int .i64 d) := by
  rw [bump_off, spC_append, List.append_assoc, List.getElem?_append_right (by omega)]; simp [spC]
theorem bump_set (us0 : List Spt) (q d : Int) (tl : List Value) : (spC (us0 ++ [(q, d)]) ++ tl).set ((((us0 ++ [(q, d)]).length : Int) - 1).toNat * 2 + 1) (.int .i64 (d + 1)) = spC (us0 ++ [(q, d + 1)]) ++ tl := by
  rw [bump_off, spC_append, spC_append, List.append_assoc, List.append_assoc, List.set_append_right _ _ (by omega)]; simp [spC]
theorem Spots.push {ps : List Pr} {i : Nat} {us : List Spt} {k : Int} (h : Spots ps i us) (hk : 0 ≤ k ∧ k < ps.length) : Spots ps (i + 1) (us ++ [(k, 0)]) := by
  refine ⟨by have := h.1; simp; omega, fun u hu => ?_⟩
  rcases List.mem_append.1 hu with hu | hu
  · have := h.2 u hu; exact ⟨this.1, by omega⟩
  · rw [List.mem_singleton.1 hu]; exact ⟨hk, by simp only; omega⟩
theorem Spots.bump {ps : List Pr} {i : Nat} {us : List Spt} {q d : Int} (h : Spots ps i (us ++ [(q, d)])) : Spots ps (i + 1) (us ++ [(q, d + 1)]) := by
  refine ⟨by have := h.1; simp at this ⊢; omega, fun u hu => ?_⟩
  rcases List.mem_append.1 hu with hu | hu
  · have := h.2 u (List.mem_append_left _ hu); exact ⟨this.1, by omega⟩
  · have := h.2 (q, d) (by simp)
    simp only at this
    rw [List.mem_singleton.1 hu]; exact ⟨this.1, by simp only; omega⟩
theorem Spots.bumpPush {ps : List Pr} {i : Nat} {us : List Spt} {q d k : Int} (h : Spots ps i (us ++ [(q, d)])) (hk : 0 ≤ k ∧ k < ps.length) : Spots ps (i + 1) (us ++ [(q, d + 1)] ++ [(k, 0)]) := by
  refine ⟨by have := h.1; simp at this ⊢; omega, fun u hu => ?_⟩
  rcases List.mem_append.1 hu with hu | hu
  · exact h.bump.2 u hu
  · rw [List.mem_singleton.1 hu]; exact ⟨hk, by simp only; omega⟩
theorem gcB_range {g : Gr} (h0 : gcheck g = 0) : (1 ≤ g.k ∧ g.k ≤ 4) ∧ 1 ≤ g.toks.length ∧ g.toks.length ≤ 8 := by
  simp only [gcheck, gc0, gc1] at h0
  split at h0
  · omega
  split at h0
  · omega
  split at h0
  · omega
  rename_i a b c
  simp only [fullB, shortB, Bool.or_eq_true, decide_eq_true_eq, not_or] at b c
  omega
theorem sym_start {g : Gr} (h0 : gcheck g = 0) : 16 ≤ g.start := by
  have hsy : symB g = true := by
    cases h : symB g with
    | true => rfl
    | false =>
      exfalso
      simp only [gcheck, gc0, gc1, gc2, gc3, h] at h0
      repeat' split at h0
      all_goals first | omega | contradiction
  simp only [symB, ntB, Bool.and_eq_true, decide_eq_true_eq] at hsy
  exact hsy.1.1
section
variable (E : Env) (L : List Res)
/-- What `made` makes: the tokens' frames stand one behind the other from 100 on; the stack is right. -/
def Made (g : Gr) (E : Env) (v : Value) : Prop := ∃ tp tn tc sp sn sc l us, v = cfV 2 0 (tendF 100 l) [] tp tn tc 0 0 true sp sn sc ∧ SlE E 3 tp tn (toks l) ∧ SlE E 2 sp sn (spC us) ∧ Chn g.toks.length 100 l ∧ (l.length : Int) ≤ g.k ∧ us ≠ [] ∧ us.length ≤ 10 ∧ chkS g us = 0
def CfShape (v : Value) : Prop := ∃ st rc at' part tp tn tc e ea b sp sn sc, v = cfV st rc at' part tp tn tc e ea b sp sn sc
structure MadeR (g : Gr) (E : Env) (r : Value) : Prop where
  out : ∃ v ok, r = .tuple #[v, .bool ok] ∧ (ok = true → Made g E v) ∧ CfShape v
theorem made_call (p : Option Addr) (c : Nat) (xs : List Int) (hx : SlE E 1 p xs.length (i64s xs)) (hn : xs.length ≤ 9223372036854775807) (hb : ∀ n, n ∈ xs → -9223372036854775808 ≤ n ∧ n ≤ 9223372036854775807)
    (gv : Value) (g : Gr) (hg : GrE E gv g) (h0 : gcheck g = 0) (hl : Light g) : CallS Tryz.prog 7 #[gv, .slice p xs.length c] E L (fun r E' L' => MadeR g E' r ∧ L' = L) := by
  have hg0 := hg
  obtain ⟨tp, tc, np, nc, pp, pc, rfl, v1, v2, ⟨rows, w1, w2, w3⟩, v4, v5, v6⟩ := hg
  have hp := hl.p
  have hrl : g.prods.length = rows.length := by rw [← w1, List.length_map]
  rw [hrl] at w2 v6 hp ⊢
  have hst := sym_start h0
  refine CallS.intro (l := [_, _]) _ Tryz.func7 rfl Tryz.ntmps7 rfl ?_
  refine G_seq (G_region ?_)
  (refine G_boxA rfl rfl rfl rfl (.none rfl) ?_; intro b2)
  (refine G_alloc rfl rfl rfl (.none rfl) ?_; intro b4)
  refine Ga ?_
  refine G_end (X_then (G_seq (G_region ?_)))
  refine Gv (V_build rfl rfl (by simp [fillV, setLs, setL, Value.cells]; rfl)) ?_
  (refine G_alloc rfl rfl rfl (.none rfl) ?_; intro b6)
  refine G_storeA rfl rfl rfl rfl (by simp [Value.oneCell']) rfl (.none rfl) (.head _ _ _) rfl ?_
  refine G_end (X_then (G_seq (G_region ?_)))
  refine Gv (V_fieldAddr rfl rfl (by decide)) ?_
  refine Gv (V_load rfl rfl (Cell.own (.tail _ (.tail _ (.head _))) rfl)) ?_
  refine Ga ?_
  refine G_end (X_then (G_seq (G_seq (G_region ?_))))
  refine Ga ?_
  refine G_end (X_then (G_block ?_))
  refine G.nilSl 71 2 ?_
  refine G_ways (Y := ?Y) (β := List Spt × Env × Option Addr × Nat) (J := fun y => E.Le y.2.1 ∧ Spots g.prods 10 y.1)
    (fs' := fun _ => [(1, .slice p xs.length c), (2, .pointer (some ⟨b2, 0, none⟩)), (4, .pointer (some ⟨b4, 0, none⟩)), (5, .bool false), (6, .pointer (some ⟨b6, 0, none⟩)), (15, .int .i64 0)]) (E' := fun y => y.2.1)
    (L' := fun y => .sl 71 2 y.2.2.1 y.1.length y.2.2.2 (spC y.1) :: cfB b6 2 0 100 [] none 0 0 0 0 true y.2.2.1 y.1.length y.2.2.2 :: cfB b4 0 0 0 [] none 0 0 0 0 false none 0 0 :: .blk b2 (.cells #[.int .i64 g.k, .slice tp g.toks.length tc, .string (S g.sep), .slice np g.names.length nc, .int .i64 g.start, .slice pp rows.length pc] 26 (0, 0)) :: L) ?_ ?_
  rotate_left
  · intro hk
    refine G_loop (α := Nat × Int × List Spt × Env × Option Addr × Nat) (fun x => [(1, .slice p xs.length c), (2, .pointer (some ⟨b2, 0, none⟩)), (4, .pointer (some ⟨b4, 0, none⟩)), (5, .bool false), (6, .pointer (some ⟨b6, 0, none⟩)), (7, .int .i64 x.2.1), (8, .int .i64 (x.1 : Nat))]) (fun x => x.2.2.2.1)
      (fun x => .sl 71 2 x.2.2.2.2.1 x.2.2.1.length x.2.2.2.2.2 (spC x.2.2.1) :: cfB b6 2 0 100 [] none 0 0 0 0 true x.2.2.2.2.1 x.2.2.1.length x.2.2.2.2.2 :: cfB b4 0 0 0 [] none 0 0 0 0 false none 0 0 :: .blk b2 (.cells #[.int .i64 g.k, .slice tp g.toks.length tc, .string (S g.sep), .slice np g.names.length nc, .int .i64 g.start, .slice pp rows.length pc] 26 (0, 0)) :: L)
      (fun x => E.Le x.2.2.2.1 ∧ Spots g.prods x.1 x.2.2.1 ∧ x.1 ≤ xs.length ∧ x.1 ≤ 10 ∧ (x.2.2.1 = [] → 16 ≤ x.2.1)) (fun x => xs.length - x.1) (0, g.start, [], E, none, 0)
      ⟨.refl _, ⟨Nat.le_refl _, fun u h => by cases h⟩, Nat.zero_le _, Nat.zero_le _, fun _ => hst⟩ ⟨rfl, rfl, rfl, rfl, rfl, rfl, rfl, trivial⟩ rfl rfl ?_
    rintro ⟨i, at', us, E1, sp, sc⟩ ⟨hE1, hus, hix, hi10, hat⟩
    simp only at hE1 hus hix hi10 hat ⊢
    replace hx := hx.mono hE1
    replace w2 := w2.mono hE1
    replace w3 := w3.mono hE1
    by_cases hlt : i < xs.length
    · by_cases hlt10 : i < 10
      · have y1 := i64s_get (List.getElem?_eq_getElem hlt)
        have y2 := hb _ (List.getElem_mem hlt)
        have y3 := Int.emod_nonneg xs[i] (b := 1048576) (by omega)
        have y4 := Int.emod_lt_of_pos xs[i] (b := 1048576) (by omega)
        refine G_ways (Y := ?Y2) (β := List Spt × Env × Option Addr × Nat) (J := fun y => E1.Le y.2.1 ∧ Spots g.prods (i + 1) y.1 ∧ y.1 ≠ [])
          (fs' := fun y => [(1, .slice p xs.length c), (2, .pointer (some ⟨b2, 0, none⟩)), (4, .pointer (some ⟨b4, 0, none⟩)), (5, .bool false), (6, .pointer (some ⟨b6, 0, none⟩)), (7, .int .i64 at'), (8, .int .i64 (i : Nat)), (105, .slice y.2.2.1 y.1.length y.2.2.2), (109, .int .i64 ((y.1.length : Int) - 1))]) (E' := fun y => y.2.1)
          (L' := fun y => .sl 71 2 y.2.2.1 y.1.length y.2.2.2 (spC y.1) :: cfB b6 2 0 100 [] none 0 0 0 0 true y.2.2.1 y.1.length y.2.2.2 :: cfB b4 0 0 0 [] none 0 0 0 0 false none 0 0 :: .blk b2 (.cells #[.int .i64 g.k, .slice tp g.toks.length tc, .string (S g.sep), .slice np g.names.length nc, .int .i64 g.start, .slice pp rows.length pc] 26 (0, 0)) :: L) ?_ ?_
        rotate_left
        · intro hk2
          by_cases h16 : 16 ≤ at'
          · refine G_seq ?_
            refine G_seq (G_region ?_)
            refine Gm ?_
            refine Gm ?_
            refine Gv (V_lenS rfl rfl) ?_
            refine Gv (V_lss rfl rfl rfl) ?_
            refine Gm ?_
            refine G.bool_t 25 rfl (decide_eq_true (by omega)) ?_
            refine Gy (V_move rfl rfl) ?_
            refine Gy (V_lss rfl rfl rfl) ?_
            refine Gv (V_pick_t rfl rfl rfl) ?_
            refine G_end (X_then ?_)
            refine G_cond_t rfl (decide_eq_true (by omega)) ?_
            refine G_skip (X_then (G_seq (G_block (G_seq (G_region ?_)))))
            refine Gm ?_
            refine Gm ?_
            refine Gv (V_idxAddr rfl rfl rfl (SlE.rd (by assumption)) (by omega) (by omega)) ?_
            refine Gv (V_loadS rfl rfl (SlE.rd (by assumption)) (by assumption) (by simp)) ?_
            refine G_callv (k := 14) (.mk rfl rfl rfl rfl) rfl rfl (.none rfl) (Mod_call' _ _ _ _ (by assumption) (by omega)) ?_
            refine Ga ?_
            refine G_end (X_then (G_seq (G_seq (G_region ?_))))
            refine Gm ?_
            refine Gv (V_geq rfl rfl rfl) ?_
            refine G_end (X_then ?_)
            refine G_cond_t rfl (decide_eq_true (by omega)) ?_
            refine G_seq (G_region ?_)
            refine Ga ?_
            refine G_end (X_then (G_seq (G_seq (G_region ?_))))
            refine Ga ?_
            refine G_end (X_then (G_block ?_))
            refine G.nilSl 3 1 ?_
            refine G_loop (α := Nat × List Int × Env × Option Addr × Nat) (fun x => [(1, .slice p xs.length c), (2, .pointer (some ⟨b2, 0, none⟩)), (4, .pointer (some ⟨b4, 0, none⟩)), (5, .bool false), (6, .pointer (some ⟨b6, 0, none⟩)), (7, .int .i64 at'), (8, .int .i64 (i : Nat)), (9, .int .i64 (xs[i] % 1048576)), (10, .slice x.2.2.2.1 x.2.1.length x.2.2.2.2), (11, .int .i64 (x.1 : Nat))]) (fun x => x.2.2.1)
              (fun x => .sl 3 1 x.2.2.2.1 x.2.1.length x.2.2.2.2 (i64s x.2.1) :: .sl 71 2 sp us.length sc (spC us) :: cfB b6 2 0 100 [] none 0 0 0 0 true sp us.length sc :: cfB b4 0 0 0 [] none 0 0 0 0 false none 0 0 :: .blk b2 (.cells #[.int .i64 g.k, .slice tp g.toks.length tc, .string (S g.sep), .slice np g.names.length nc, .int .i64 g.start, .slice pp rows.length pc] 26 (0, 0)) :: L)
              (fun x => E1.Le x.2.2.1 ∧ x.1 ≤ rows.length ∧ x.2.1.length ≤ x.1 ∧ ∀ m, m ∈ x.2.1 → 0 ≤ m ∧ m < rows.length) (fun x => rows.length - x.1) (0, [], E1, none, 0)
              ⟨.refl _, Nat.zero_le _, Nat.zero_le _, fun m h => by cases h⟩ ⟨rfl, rfl, rfl, rfl, rfl, rfl, rfl, rfl, rfl, rfl, trivial⟩ rfl rfl ?_
            rintro ⟨j, ms, E2, mp, mc⟩ ⟨hE2, hj, hmj, hms⟩
            simp only at hE2 hj hmj hms ⊢
            replace hx := hx.mono hE2
            replace w2 := w2.mono hE2
            replace w3 := w3.mono hE2
            by_cases hlt2 : j < rows.length
            · have z1 := prows_left (List.getElem?_eq_getElem hlt2)
              by_cases hsm : rows[j].2.2.1 = at'
              · refine G_seq ?_
                refine G_seq (G_region ?_)
                refine Gm ?_
                refine Gv (V_fieldAddr rfl rfl (by decide)) ?_
                refine Gv (V_load rfl rfl (Cell.own (.tail _ (.tail _ (.tail _ (.tail _ (.head _))))) rfl)) ?_
                refine Gv (V_lenS rfl rfl) ?_
                refine Gv (V_lss rfl rfl rfl) ?_
                refine G_end (X_then ?_)
                refine G_cond_t rfl (decide_eq_true (by omega)) ?_
                refine G_skip (X_then (G_seq (G_block (G_seq (G_region ?_)))))
                refine Gv (V_fieldAddr rfl rfl (by decide)) ?_
                refine Gv (V_load rfl rfl (Cell.own (.tail _ (.tail _ (.tail _ (.tail _ (.head _))))) rfl)) ?_
                refine Gm ?_
                refine Gv (V_idxAddr rfl rfl rfl (SlE.rd (by assumption)) (by omega) (by omega)) ?_
                refine Gv (V_fieldAddrE rfl rfl (by assumption) (by omega) (by decide)) ?_
                refine Gv (V_loadS rfl rfl (SlE.rd (by assumption)) (by assumption) (by simp)) ?_
                refine Gm ?_
                refine Gv (V_eql rfl rfl rfl) ?_
                refine G_end (X_then ?_)
                refine G_cond_t rfl (decide_eq_true (by omega)) ?_
                refine G_region ?_
                refine Gm ?_
                refine Gm ?_
                (refine G_lit1 rfl rfl rfl rfl rfl (.none rfl) ?_; intro b55)
                (refine G_append rfl rfl rfl (Rd.lit (.head _) rfl) (by simp [Value.oneCell']) (by omega) (by omega) rfl rfl (.none rfl) (fun _ _ => (.tail _ (.head _ _ _))) ?_; intro a56 c56; refine G.rm (.head _ _) ?_)
                refine Ga ?_
                refine G_end (X_block (X_then (G_region ?_)))
                refine Gm ?_
                refine Gv (V_add_i64 rfl rfl rfl (by omega) (by omega)) ?_
                refine Ga ?_
                refine G_end (X_then ?_)
                have zl : (ms ++ [(j : Int)]).length = ms.length + 1 := by simp
                have zs : i64s ms ++ [.int .i64 (j : Int)] = i64s (ms ++ [(j : Int)]) := by simp [i64s]
                rw [zs]
                refine G_again (j + 1, ms ++ [(j : Int)], E2, a56, c56) ⟨hE2, hlt2, by simp only [zl]; omega, fun m hm => ?_⟩ (by simp only; omega) ⟨rfl, rfl, rfl, rfl, rfl, rfl, rfl, rfl, (by simp only [zl]; rfl), rfl, trivial⟩ rfl (by simp only [zl])
                rcases List.mem_append.1 hm with h | h
                · exact hms m h
                · rw [List.mem_singleton.1 h]; omega
              · refine G_seq ?_
                refine G_seq (G_region ?_)
                refine Gm ?_
                refine Gv (V_fieldAddr rfl rfl (by decide)) ?_
                refine Gv (V_load rfl rfl (Cell.own (.tail _ (.tail _ (.tail _ (.tail _ (.head _))))) rfl)) ?_
                refine Gv (V_lenS rfl rfl) ?_
                refine Gv (V_lss rfl rfl rfl) ?_
                refine G_end (X_then ?_)
                refine G_cond_t rfl (decide_eq_true (by omega)) ?_
                refine G_skip (X_then (G_seq (G_block (G_seq (G_region ?_)))))
                refine Gv (V_fieldAddr rfl rfl (by decide)) ?_
                refine Gv (V_load rfl rfl (Cell.own (.tail _ (.tail _ (.tail _ (.tail _ (.head _))))) rfl)) ?_
                refine Gm ?_
                refine Gv (V_idxAddr rfl rfl rfl (SlE.rd (by assumption)) (by omega) (by omega)) ?_
                refine Gv (V_fieldAddrE rfl rfl (by assumption) (by omega) (by decide)) ?_
                refine Gv (V_loadS rfl rfl (SlE.rd (by assumption)) (by assumption) (by simp)) ?_
                refine Gm ?_
                refine Gv (V_eql rfl rfl rfl) ?_
                refine G_end (X_then ?_)
                refine G_cond_f rfl (decide_eq_false (by omega)) ?_
                refine G_skip (X_block (X_then (G_region ?_)))
                refine Gm ?_
                refine Gv (V_add_i64 rfl rfl rfl (by omega) (by omega)) ?_
                refine Ga ?_
                refine G_end (X_then ?_)
                exact G_again (j + 1, ms, E2, mp, mc) ⟨hE2, hlt2, Nat.le_succ_of_le hmj, hms⟩ (by simp only; omega) ⟨rfl, rfl, rfl, rfl, rfl, rfl, rfl, rfl, rfl, rfl, trivial⟩ rfl rfl
            · by_cases hm0 : ms = []
              · subst hm0
                refine G_seq (G_seq (G_region ?_))
                refine Gm ?_
                refine Gv (V_fieldAddr rfl rfl (by decide)) ?_
                refine Gv (V_load rfl rfl (Cell.own (.tail _ (.tail _ (.tail _ (.tail _ (.head _))))) rfl)) ?_
                refine Gv (V_lenS rfl rfl) ?_
                refine Gv (V_lss rfl rfl rfl) ?_
                refine G_end (X_then ?_)
                refine G_cond_f rfl (decide_eq_false (by omega)) ?_
                refine G_exit (X_then_exit (X_then_exit (X_block_hit (X_then (G_seq (G_seq (G_region ?_)))))))
                refine Gm ?_
                refine Gv (V_lenS rfl rfl) ?_
                refine Gv (V_eql rfl rfl rfl) ?_
                refine G_end (X_then ?_)
                refine G_cond_t rfl (by kernel_rfl) ?_
                refine G_seq (G_region ?_)
                refine Gv (V_loadA rfl rfl (Cells.own (.tail _ (.tail _ (.head _)))) rfl) ?_
                refine G_storeA rfl rfl rfl rfl (by simp [Value.oneCell']) rfl (.none rfl) (.tail _ (.tail _ (.tail _ (.head _ _ _)))) rfl ?_
                refine Ga ?_
                refine G_end (X_then (G_ret (X_then_ret (X_then_ret (X_block_ret (X_then_ret (X_then_ret (X_block_ret (X_then_ret ?_)))))))))
                refine G_leave 5 (by exact (.cons (.cellA rfl (Cells.own (.tail _ (.tail _ (.tail _ (.head _))))) rfl) (.cons (.tmp rfl) (.nil)))) rfl ?_ ?_
                · exact hE1.trans hE2
                · exact ⟨⟨⟨_, _, rfl, fun h => (by cases h), ⟨_, _, _, _, _, _, _, _, _, _, _, _, _, rfl⟩⟩⟩, rfl⟩
              · have hml : 0 < ms.length := List.length_pos_iff.2 hm0
                have hu1 := hus.1
                have r1 := Int.emod_nonneg (xs[i] % 1048576) (b := ms.length) (by omega)
                have r2 := Int.emod_lt_of_pos (xs[i] % 1048576) (b := ms.length) (by omega)
                have r3 : (i64s ms)[((xs[i] % 1048576) % (ms.length : Int)).toNat * 1]? = some (.int .i64 (ms[((xs[i] % 1048576) % (ms.length : Int)).toNat]'(by omega))) := by
                  rw [Nat.mul_one]; exact i64s_get (List.getElem?_eq_getElem _)
                have r4 := hms _ (List.getElem_mem (show ((xs[i] % 1048576) % (ms.length : Int)).toNat < ms.length by omega))
                generalize ms[((xs[i] % 1048576) % (ms.length : Int)).toNat]'(by omega) = pk at *
                refine G.freezeSl (.head _ _) ?_
                intro E3 hE3 hms3 hmc3
                replace hx := hx.mono hE3
                replace w2 := w2.mono hE3
                replace w3 := w3.mono hE3
                by_cases hu0 : us = []
                · have hu4 : us.length = 0 := by rw [hu0]; rfl
                  refine G_seq (G_seq (G_region ?_))
                  refine Gm ?_
                  refine Gv (V_fieldAddr rfl rfl (by decide)) ?_
                  refine Gv (V_load rfl rfl (Cell.own (.tail _ (.tail _ (.tail _ (.head _)))) rfl)) ?_
                  refine Gv (V_lenS rfl rfl) ?_
                  refine Gv (V_lss rfl rfl rfl) ?_
                  refine G_end (X_then ?_)
                  refine G_cond_f rfl (decide_eq_false (by omega)) ?_
                  refine G_exit (X_then_exit (X_then_exit (X_block_hit (X_then (G_seq (G_seq (G_region ?_)))))))
                  refine Gm ?_
                  refine Gv (V_lenS rfl rfl) ?_
                  refine Gv (V_eql rfl rfl rfl) ?_
                  refine G_end (X_then ?_)
                  refine G_cond_f rfl (decide_eq_false (by omega)) ?_
                  refine G_skip (X_then (G_seq (G_seq (G_region ?_))))
                  refine Gv (V_fieldAddr rfl rfl (by decide)) ?_
                  refine Gv (V_load rfl rfl (Cell.own (.tail _ (.head _)) rfl)) ?_
                  refine Gv (V_lenS rfl rfl) ?_
                  refine Ga ?_
                  refine G_end (X_then (G_seq (G_region ?_)))
                  refine Gm ?_
                  refine Gv (V_gtr rfl rfl rfl) ?_
                  refine G_end (X_then ?_)
                  refine G_cond_f rfl (decide_eq_false (by omega)) ?_
                  refine G_skip (X_then ?_)
                  refine G_drawX 14 [(0, 0), (1, 1), (2, 0), (3, 0), (4, 0), (5, 0), (6, 0), (7, 1), (8, 1), (9, 0), (10, 2), (11, 4), (12, 0), (13, 4)] mixed (by kernel_rfl) ?_
                  refine F_pure rfl (fun _ _ => V_fieldAddr rfl rfl (by decide)) rfl rfl (.none rfl) ?_
                  refine F_load rfl (.tail _ (.head _)) (V_load rfl rfl (Cell.own (.head _) rfl)) rfl rfl (.none rfl) ?_
                  refine F_pure rfl (fun _ _ => V_move rfl rfl) rfl rfl (.none rfl) ?_
                  refine F_pure rfl (fun _ _ => V_move rfl rfl) rfl rfl (.none rfl) ?_
                  refine F_pure rfl (fun _ _ => V_move rfl rfl) rfl rfl (.none rfl) ?_
                  refine F_pure rfl (fun _ _ => V_lenS rfl rfl) rfl rfl (.none rfl) ?_
                  refine F_pure rfl (fun _ _ => V_rem_n rfl rfl rfl (by omega) (by omega)) rfl rfl (.none rfl) ?_
                  refine F_loadE rfl (V_idxAddr rfl rfl rfl (SlE.rd (by assumption)) (by omega) (by omega)) rfl rfl (.none rfl) ?_
                  refine F_loadE rfl (V_loadS rfl rfl (SlE.rd (by assumption)) (by assumption) (by simp)) rfl rfl (.none rfl) ?_
                  refine F_pure rfl (fun _ _ => V_build rfl rfl (by simp [fillV, setLs, setL, Value.cells]; rfl)) rfl rfl (.none rfl) ?_
                  (refine F_litZ rfl rfl rfl (by decide) (by simp [fillS, zeros, setLs, setL, Value.cells, List.range, List.range.loop]; rfl) (by rfl) rfl rfl (.none rfl) ?_; intro b86 E86 hE86 hs86)
                  replace hms3 := hms3.mono hE86
                  replace hx := hx.mono hE86
                  replace w2 := w2.mono hE86
                  replace w3 := w3.mono hE86
                  (refine F_appendT rfl rfl rfl rfl (by assumption) (by simp [Value.oneCell', strs, i64s]) (by omega) (by omega) rfl rfl (.none rfl) (fun _ _ => (.head _ _ _)) ?_; intro a87 c87; refine ⟨_, (.drop (by kernel_rfl) (.drop (by kernel_rfl) (.drop (by kernel_rfl) (.nil)))), ?_⟩)
                  refine F_pure rfl (fun _ _ => V_fieldAddr rfl rfl (by decide)) rfl rfl (.none rfl) ?_
                  refine F_storeAt rfl rfl rfl rfl rfl rfl rfl (.none rfl) (.tail _ (.head _ _ _)) (Nat.le_of_ble_eq_true rfl) (by simp only [putAll, Nat.zero_add, Nat.reduceAdd, List.setIfInBounds_toArray, List.set_cons_succ, List.set_cons_zero]; rfl) (.nil) ?_
                  (refine F_end (.nil _) ?_; dsimp only [List.drop])
                  refine G_end (X_then (G_seq (G_region ?_)))
                  refine Gv (V_fieldAddr rfl rfl (by decide)) ?_
                  refine Gv (V_load rfl rfl (Cell.own (.tail _ (.head _)) rfl)) ?_
                  refine Gv (V_fieldAddr rfl rfl (by decide)) ?_
                  refine Gv (V_load rfl rfl (Cell.own (.tail _ (.head _)) rfl)) ?_
                  refine Gv (V_lenS rfl rfl) ?_
                  refine Gv (V_sub_i64 rfl rfl rfl (by omega) (by omega)) ?_
                  refine G.sub [(1, .slice p xs.length c), (2, .pointer (some ⟨b2, 0, none⟩)), (4, .pointer (some ⟨b4, 0, none⟩)), (5, .bool false), (6, .pointer (some ⟨b6, 0, none⟩)), (7, .int .i64 at'), (8, .int .i64 (i : Nat)), (105, .slice a87 (us.length + 1) c87), (109, .int .i64 (((us.length + 1 : Nat) : Int) - 1))] ⟨rfl, rfl, rfl, rfl, rfl, rfl, rfl, rfl, rfl, trivial⟩ ?_
                  rw [show us.length + 1 = (us ++ [(pk, 0)]).length by simp, show spC us ++ [.int .i64 pk, .int .i64 0] = spC (us ++ [(pk, 0)]) by rw [spC_append]; rfl]
                  exact hk2 (us ++ [(pk, 0)], E86, a87, c87) ⟨hE2.trans (hE3.trans hE86), hus.push (by rw [hrl]; exact r4), by simp⟩
                · obtain ⟨us0, ⟨q, d⟩, hu2⟩ : ∃ us0 u, us = us0 ++ [u] := ⟨us.dropLast, us.getLast hu0, (List.dropLast_concat_getLast hu0).symm⟩
                  rw [hu2] at hus ⊢
                  have hlen : (us0 ++ [(q, d)]).length = us0.length + 1 := by simp
                  have hud := hus.2 (q, d) (by simp)
                  have hu3 := hus.1
                  simp only at hud
                  refine G.slOpen (by omega) ?_
                  rintro b0 tl hsp hc1 hc2 hl1 hl2
                  rw [hsp]
                  have e1 := bump_get us0 q d tl
                  have e2 := bump_set us0 q d tl
                  -- the store's rule asks for the length by omega: hidden here, so that ga stops at the store
                  have hl3 : PLift ((spC (us0 ++ [(q, d)]) ++ tl).length = sc * 2) := ⟨hl2⟩
                  clear hl2
                  refine G_seq (G_seq (G_region ?_))
                  refine Gm ?_
                  refine Gv (V_fieldAddr rfl rfl (by decide)) ?_
                  refine Gv (V_load rfl rfl (Cell.own (.tail _ (.tail _ (.tail _ (.head _)))) rfl)) ?_
                  refine Gv (V_lenS rfl rfl) ?_
                  refine Gv (V_lss rfl rfl rfl) ?_
                  refine G_end (X_then ?_)
                  refine G_cond_f rfl (decide_eq_false (by omega)) ?_
                  refine G_exit (X_then_exit (X_then_exit (X_block_hit (X_then (G_seq (G_seq (G_region ?_)))))))
                  refine Gm ?_
                  refine Gv (V_lenS rfl rfl) ?_
                  refine Gv (V_eql rfl rfl rfl) ?_
                  refine G_end (X_then ?_)
                  refine G_cond_f rfl (decide_eq_false (by omega)) ?_
                  refine G_skip (X_then (G_seq (G_seq (G_region ?_))))
                  refine Gv (V_fieldAddr rfl rfl (by decide)) ?_
                  refine Gv (V_load rfl rfl (Cell.own (.tail _ (.head _)) rfl)) ?_
                  refine Gv (V_lenS rfl rfl) ?_
                  refine Ga ?_
                  refine G_end (X_then (G_seq (G_region ?_)))
                  refine Gm ?_
                  refine Gv (V_gtr rfl rfl rfl) ?_
                  refine G_end (X_then ?_)
                  refine G_cond_t rfl (decide_eq_true (by omega)) ?_
                  refine G_region ?_
                  refine Gv (V_fieldAddr rfl rfl (by decide)) ?_
                  refine Gv (V_load rfl rfl (Cell.own (.tail _ (.head _)) rfl)) ?_
                  refine Gm ?_
                  refine Gv (V_sub_i64 rfl rfl rfl (by omega) (by omega)) ?_
                  refine Gv (V_idxB rfl rfl rfl (by omega) (by omega)) ?_
                  refine Gv (V_fieldAddr rfl rfl (by decide)) ?_
                  refine Gv (V_load rfl rfl (Cell.own (.head _) (by assumption))) ?_
                  refine Gv (V_add_i64 rfl rfl rfl (by omega) (by omega)) ?_
                  refine Gv (V_idxB rfl rfl rfl (by omega) (by omega)) ?_
                  refine Gv (V_fieldAddr rfl rfl (by decide)) ?_
                  refine G_storeB rfl rfl rfl rfl rfl rfl (.none rfl) (.head _ _ _) (by have := hl3.down; omega) ?_
                  rw [e2]
                  refine G.slClose (sz := 2) (k := (us0 ++ [(q, d)]).length) (by rw [spC_len]; simp) (by have h := hl3.down; rw [List.length_append, spC_len] at h ⊢; simpa using h) hc1 hc2 ?_
                  refine G_end (X_then ?_)
                  refine G_drawX 14 [(0, 0), (1, 1), (2, 0), (3, 0), (4, 0), (5, 0), (6, 0), (7, 1), (8, 1), (9, 0), (10, 2), (11, 4), (12, 0), (13, 4)] mixed (by kernel_rfl) ?_
                  refine F_pure rfl (fun _ _ => V_fieldAddr rfl rfl (by decide)) rfl rfl (.none rfl) ?_
                  refine F_load rfl (.tail _ (.head _)) (V_load rfl rfl (Cell.own (.head _) rfl)) rfl rfl (.none rfl) ?_
                  refine F_pure rfl (fun _ _ => V_move rfl rfl) rfl rfl (.none rfl) ?_
                  refine F_pure rfl (fun _ _ => V_move rfl rfl) rfl rfl (.none rfl) ?_
                  refine F_pure rfl (fun _ _ => V_move rfl rfl) rfl rfl (.none rfl) ?_
                  refine F_pure rfl (fun _ _ => V_lenS rfl rfl) rfl rfl (.none rfl) ?_
                  refine F_pure rfl (fun _ _ => V_rem_n rfl rfl rfl (by omega) (by omega)) rfl rfl (.none rfl) ?_
                  refine F_loadE rfl (V_idxAddr rfl rfl rfl (SlE.rd (by assumption)) (by omega) (by omega)) rfl rfl (.none rfl) ?_
                  refine F_loadE rfl (V_loadS rfl rfl (SlE.rd (by assumption)) (by assumption) (by simp)) rfl rfl (.none rfl) ?_
                  refine F_pure rfl (fun _ _ => V_build rfl rfl (by simp [fillV, setLs, setL, Value.cells]; rfl)) rfl rfl (.none rfl) ?_
                  (refine F_litZ rfl rfl rfl (by decide) (by simp [fillS, zeros, setLs, setL, Value.cells, List.range, List.range.loop]; rfl) (by rfl) rfl rfl (.none rfl) ?_; intro b86 E86 hE86 hs86)
                  replace hms3 := hms3.mono hE86
                  replace hx := hx.mono hE86
                  replace w2 := w2.mono hE86
                  replace w3 := w3.mono hE86
                  (refine F_appendT rfl rfl rfl rfl (by assumption) (by simp [Value.oneCell', strs, i64s]) (by omega) (by omega) rfl rfl (.none rfl) (fun _ _ => (.head _ _ _)) ?_; intro a87 c87; refine ⟨_, (.drop (by kernel_rfl) (.drop (by kernel_rfl) (.drop (by kernel_rfl) (.nil)))), ?_⟩)
                  refine F_pure rfl (fun _ _ => V_fieldAddr rfl rfl (by decide)) rfl rfl (.none rfl) ?_
                  refine F_storeAt rfl rfl rfl rfl rfl rfl rfl (.none rfl) (.tail _ (.head _ _ _)) (Nat.le_of_ble_eq_true rfl) (by simp only [putAll, Nat.zero_add, Nat.reduceAdd, List.setIfInBounds_toArray, List.set_cons_succ, List.set_cons_zero]; rfl) (.nil) ?_
                  (refine F_end (.nil _) ?_; dsimp only [List.drop])
                  refine G_end (X_then (G_seq (G_region ?_)))
                  refine Gv (V_fieldAddr rfl rfl (by decide)) ?_
                  refine Gv (V_load rfl rfl (Cell.own (.tail _ (.head _)) rfl)) ?_
                  refine Gv (V_fieldAddr rfl rfl (by decide)) ?_
                  refine Gv (V_load rfl rfl (Cell.own (.tail _ (.head _)) rfl)) ?_
                  refine Gv (V_lenS rfl rfl) ?_
                  refine Gv (V_sub_i64 rfl rfl rfl (by omega) (by omega)) ?_
                  refine G.sub [(1, .slice p xs.length c), (2, .pointer (some ⟨b2, 0, none⟩)), (4, .pointer (some ⟨b4, 0, none⟩)), (5, .bool false), (6, .pointer (some ⟨b6, 0, none⟩)), (7, .int .i64 at'), (8, .int .i64 (i : Nat)), (105, .slice a87 ((us0 ++ [(q, d)]).length + 1) c87), (109, .int .i64 ((((us0 ++ [(q, d)]).length + 1 : Nat) : Int) - 1))] ⟨rfl, rfl, rfl, rfl, rfl, rfl, rfl, rfl, rfl, trivial⟩ ?_
                  rw [show (us0 ++ [(q, d)]).length + 1 = (us0 ++ [(q, d + 1)] ++ [(pk, 0)]).length by simp, show spC (us0 ++ [(q, d + 1)]) ++ [.int .i64 pk, .int .i64 0] = spC (us0 ++ [(q, d + 1)] ++ [(pk, 0)]) by rw [spC_append (us0 ++ [(q, d + 1)])]; rfl]
                  exact hk2 (us0 ++ [(q, d + 1)] ++ [(pk, 0)], E86, a87, c87) ⟨hE2.trans (hE3.trans hE86), hus.bumpPush (by rw [hrl]; exact r4), by simp⟩
          · have hu0 : us ≠ [] := fun h => h16 (hat h)
            obtain ⟨us0, ⟨q, d⟩, hu2⟩ : ∃ us0 u, us = us0 ++ [u] := ⟨us.dropLast, us.getLast hu0, (List.dropLast_concat_getLast hu0).symm⟩
            rw [hu2] at hus ⊢
            have hlen : (us0 ++ [(q, d)]).length = us0.length + 1 := by simp
            have hud := hus.2 (q, d) (by simp)
            have hu3 := hus.1
            simp only at hud
            refine G.slOpen (by omega) ?_
            rintro b0 tl hsp hc1 hc2 hl1 hl2
            rw [hsp]
            have e1 := bump_get us0 q d tl
            have e2 := bump_set us0 q d tl
            have hl3 : PLift ((spC (us0 ++ [(q, d)]) ++ tl).length = sc * 2) := ⟨hl2⟩
            clear hl2
            refine G_seq (G_seq (G_region ?_))
            refine Gm ?_
            refine Gm ?_
            refine Gv (V_lenS rfl rfl) ?_
            refine Gv (V_lss rfl rfl rfl) ?_
            refine Gm ?_
            refine G.bool_t 25 rfl (decide_eq_true (by omega)) ?_
            refine Gy (V_move rfl rfl) ?_
            refine Gy (V_lss rfl rfl rfl) ?_
            refine Gv (V_pick_t rfl rfl rfl) ?_
            refine G_end (X_then ?_)
            refine G_cond_t rfl (decide_eq_true (by omega)) ?_
            refine G_skip (X_then (G_seq (G_block (G_seq (G_region ?_)))))
            refine Gm ?_
            refine Gm ?_
            refine Gv (V_idxAddr rfl rfl rfl (SlE.rd (by assumption)) (by omega) (by omega)) ?_
            refine Gv (V_loadS rfl rfl (SlE.rd (by assumption)) (by assumption) (by simp)) ?_
            refine G_callv (k := 14) (.mk rfl rfl rfl rfl) rfl rfl (.none rfl) (Mod_call' _ _ _ _ (by assumption) (by omega)) ?_
            refine Ga ?_
            refine G_end (X_then (G_seq (G_seq (G_region ?_))))
            refine Gm ?_
            refine Gv (V_geq rfl rfl rfl) ?_
            refine G_end (X_then ?_)
            refine G_cond_f rfl (decide_eq_false (by omega)) ?_
            refine G_seq (G_region ?_)
            refine Gv (V_fieldAddr rfl rfl (by decide)) ?_
            refine Gv (V_load rfl rfl (Cell.own (.tail _ (.head _)) rfl)) ?_
            refine Gv (V_lenS rfl rfl) ?_
            refine Ga ?_
            refine G_end (X_then (G_seq (G_region ?_)))
            refine Gm ?_
            refine Gv (V_gtr rfl rfl rfl) ?_
            refine G_end (X_then ?_)
            refine G_cond_t rfl (decide_eq_true (by omega)) ?_
            refine G_region ?_
            refine Gv (V_fieldAddr rfl rfl (by decide)) ?_
            refine Gv (V_load rfl rfl (Cell.own (.tail _ (.head _)) rfl)) ?_
            refine Gm ?_
            refine Gv (V_sub_i64 rfl rfl rfl (by omega) (by omega)) ?_
            refine Gv (V_idxB rfl rfl rfl (by omega) (by omega)) ?_
            refine Gv (V_fieldAddr rfl rfl (by decide)) ?_
            refine Gv (V_load rfl rfl (Cell.own (.head _) (by assumption))) ?_
            refine Gv (V_add_i64 rfl rfl rfl (by omega) (by omega)) ?_
            refine Gv (V_idxB rfl rfl rfl (by omega) (by omega)) ?_
            refine Gv (V_fieldAddr rfl rfl (by decide)) ?_
            refine G_storeB rfl rfl rfl rfl rfl rfl (.none rfl) (.head _ _ _) (by have := hl3.down; omega) ?_
            rw [e2]
            refine G.slClose (sz := 2) (k := (us0 ++ [(q, d)]).length) (by rw [spC_len]; simp) (by have h := hl3.down; rw [List.length_append, spC_len] at h ⊢; simpa using h) hc1 hc2 ?_
            rw [← hsp]
            refine G_end (X_then (G_seq (G_region ?_)))
            refine Gv (V_fieldAddr rfl rfl (by decide)) ?_
            refine Gv (V_load rfl rfl (Cell.own (.tail _ (.head _)) rfl)) ?_
            refine Gv (V_fieldAddr rfl rfl (by decide)) ?_
            refine Gv (V_load rfl rfl (Cell.own (.tail _ (.head _)) rfl)) ?_
            refine Gv (V_lenS rfl rfl) ?_
            refine Gv (V_sub_i64 rfl rfl rfl (by omega) (by omega)) ?_
            refine G.sub [(1, .slice p xs.length c), (2, .pointer (some ⟨b2, 0, none⟩)), (4, .pointer (some ⟨b4, 0, none⟩)), (5, .bool false), (6, .pointer (some ⟨b6, 0, none⟩)), (7, .int .i64 at'), (8, .int .i64 (i : Nat)), (105, .slice sp (us0 ++ [(q, d)]).length sc), (109, .int .i64 (((us0 ++ [(q, d)]).length : Int) - 1))] ⟨rfl, rfl, rfl, rfl, rfl, rfl, rfl, rfl, rfl, trivial⟩ ?_
            rw [show (us0 ++ [(q, d)]).length = (us0 ++ [(q, d + 1)]).length by simp]
            exact hk2 (us0 ++ [(q, d + 1)], E1, sp, sc) ⟨.refl _, hus.bump, by simp⟩
        · rintro ⟨us2, E2, sp2, sc2⟩ ⟨hE2, hus2, hne⟩
          simp only at hE2 hus2 hne ⊢
          replace hx := hx.mono hE2
          replace w2 := w2.mono hE2
          replace w3 := w3.mono hE2
          obtain ⟨us0, ⟨q, d⟩, rfl⟩ : ∃ us0 u, us2 = us0 ++ [u] := ⟨us2.dropLast, us2.getLast hne, (List.dropLast_concat_getLast hne).symm⟩
          have hlen : (us0 ++ [(q, d)]).length = us0.length + 1 := by simp
          have hud := hus2.2 (q, d) (by simp)
          have hu3 := hus2.1
          simp only at hud
          rw [hrl] at hud
          obtain ⟨row, hrow⟩ : ∃ row, rows[q.toNat]? = some row := ⟨_, List.getElem?_eq_getElem (show q.toNat < rows.length by omega)⟩
          have z2 := prows_right hrow
          have z3 := w3.get hrow
          have ht : (us0 ++ [(q, d)])[((((us0 ++ [(q, d)]).length : Int) - 1).toNat)]? = some (q, d) := by
            rw [hlen, show (((us0.length + 1 : Nat) : Int) - 1).toNat = us0.length by omega]; simp
          refine Gv (V_idxAddr rfl rfl rfl (Rd.sl (.head _) (spC_len _)) (by omega) (by omega)) ?_
          refine Gv (V_loadAS rfl rfl (Rd.sl (.head _) (spC_len _)) (spC_get ht) rfl rfl) ?_
          by_cases hd : (row.2.2.2.length : Int) ≤ d
          · (refine G_alloc rfl rfl rfl (.none rfl) ?_; intro b14)
            refine G_storeA rfl rfl rfl rfl (by simp [Value.oneCell']) rfl (.none rfl) (.head _ _ _) rfl ?_
            refine G_end (X_then (G_seq (G_seq ?_)))
            refine G_draw mixed (by kernel_rfl) ?_
            refine Q_val (V_fieldAddr rfl rfl (by decide)) rfl rfl (.none rfl) ?_
            refine Q_val (V_load rfl rfl (Cell.own (.head _) rfl)) rfl rfl (.none rfl) ?_
            refine Q_val (V_fieldAddr rfl rfl (by decide)) rfl rfl (.none rfl) ?_
            refine Q_val (V_load rfl rfl (Cell.own (.tail _ (.tail _ (.tail _ (.tail _ (.head _))))) rfl)) rfl rfl (.none rfl) ?_
            refine Q_val (V_fieldAddr rfl rfl (by decide)) rfl rfl (.none rfl) ?_
            refine Q_val (V_load rfl rfl (Cell.own (.head _) rfl)) rfl rfl (.none rfl) ?_
            refine Q_val (V_idxAddr rfl rfl rfl (SlE.rd (by assumption)) (by omega) (by omega)) rfl rfl (.none rfl) ?_
            refine Q_val (V_fieldAddrE rfl rfl (by assumption) (by omega) (by decide)) rfl rfl (.none rfl) ?_
            refine Q_val (V_loadS rfl rfl (SlE.rd (by assumption)) (by assumption) (by simp)) rfl rfl (.none rfl) ?_
            refine Q_val (V_lenS rfl rfl) rfl rfl (.none rfl) ?_
            refine Q_val (V_geq rfl rfl rfl) rfl rfl (.none rfl) ?_
            refine Q_end ?_
            refine X_then ?_
            refine G_cond_t rfl (decide_eq_true (by omega)) ?_
            refine G_exit (X_then_exit ?_)
            refine X_block_miss rfl ?_
            refine X_then_exit (X_then_exit (X_block_hit (X_then (G_seq (G_seq (G_region ?_))))))
            refine Ga ?_
            refine G_end (X_then (G_block ?_))
            refine G.drop ?_
            refine G.sub [(1, .slice p xs.length c), (2, .pointer (some ⟨b2, 0, none⟩)), (4, .pointer (some ⟨b4, 0, none⟩)), (5, .bool false), (6, .pointer (some ⟨b6, 0, none⟩)), (15, .int .i64 0)] ⟨rfl, rfl, rfl, rfl, rfl, rfl, trivial⟩ ?_
            exact hk (us0 ++ [(q, d)], E2, sp2, sc2) ⟨hE1.trans hE2, hus2.up (by omega)⟩
          · have z4 := i64s_get (List.getElem?_eq_getElem (show d.toNat < row.2.2.2.length by omega))
            (refine G_alloc rfl rfl rfl (.none rfl) ?_; intro b14)
            refine G_storeA rfl rfl rfl rfl (by simp [Value.oneCell']) rfl (.none rfl) (.head _ _ _) rfl ?_
            refine G_end (X_then (G_seq (G_seq ?_)))
            refine G_draw mixed (by kernel_rfl) ?_
            refine Q_val (V_fieldAddr rfl rfl (by decide)) rfl rfl (.none rfl) ?_
            refine Q_val (V_load rfl rfl (Cell.own (.head _) rfl)) rfl rfl (.none rfl) ?_
            refine Q_val (V_fieldAddr rfl rfl (by decide)) rfl rfl (.none rfl) ?_
            refine Q_val (V_load rfl rfl (Cell.own (.tail _ (.tail _ (.tail _ (.tail _ (.head _))))) rfl)) rfl rfl (.none rfl) ?_
            refine Q_val (V_fieldAddr rfl rfl (by decide)) rfl rfl (.none rfl) ?_
            refine Q_val (V_load rfl rfl (Cell.own (.head _) rfl)) rfl rfl (.none rfl) ?_
            refine Q_val (V_idxAddr rfl rfl rfl (SlE.rd (by assumption)) (by omega) (by omega)) rfl rfl (.none rfl) ?_
            refine Q_val (V_fieldAddrE rfl rfl (by assumption) (by omega) (by decide)) rfl rfl (.none rfl) ?_
            refine Q_val (V_loadS rfl rfl (SlE.rd (by assumption)) (by assumption) (by simp)) rfl rfl (.none rfl) ?_
            refine Q_val (V_lenS rfl rfl) rfl rfl (.none rfl) ?_
            refine Q_val (V_geq rfl rfl rfl) rfl rfl (.none rfl) ?_
            refine Q_end ?_
            refine X_then ?_
            refine G_cond_f rfl (decide_eq_false (by omega)) ?_
            refine G_skip (X_then ?_)
            refine G_draw mixed (by kernel_rfl) ?_
            refine Q_val (V_fieldAddr rfl rfl (by decide)) rfl rfl (.none rfl) ?_
            refine Q_val (V_load rfl rfl (Cell.own (.tail _ (.tail _ (.tail _ (.tail _ (.head _))))) rfl)) rfl rfl (.none rfl) ?_
            refine Q_val (V_fieldAddr rfl rfl (by decide)) rfl rfl (.none rfl) ?_
            refine Q_val (V_load rfl rfl (Cell.own (.head _) rfl)) rfl rfl (.none rfl) ?_
            refine Q_val (V_idxAddr rfl rfl rfl (SlE.rd (by assumption)) (by omega) (by omega)) rfl rfl (.none rfl) ?_
            refine Q_val (V_fieldAddrE rfl rfl (by assumption) (by omega) (by decide)) rfl rfl (.none rfl) ?_
            refine Q_val (V_loadS rfl rfl (SlE.rd (by assumption)) (by assumption) (by simp)) rfl rfl (.none rfl) ?_
            refine Q_val (V_fieldAddr rfl rfl (by decide)) rfl rfl (.none rfl) ?_
            refine Q_val (V_load rfl rfl (Cell.own (.head _) rfl)) rfl rfl (.none rfl) ?_
            refine Q_val (V_idxAddr rfl rfl rfl (SlE.rd (by assumption)) (by omega) (by omega)) rfl rfl (.none rfl) ?_
            refine Q_val (V_loadS rfl rfl (SlE.rd (by assumption)) (by assumption) (by simp)) rfl rfl (.none rfl) ?_
            refine Q_val (V_assign rfl rfl) rfl rfl (.none rfl) ?_
            refine Q_end ?_
            refine X_block (X_then (G_region ?_))
            refine Gm ?_
            refine Gv (V_add_i64 rfl rfl rfl (by omega) (by omega)) ?_
            refine Ga ?_
            refine G_end (X_then ?_)
            refine G.drop ?_
            exact G_again (i + 1, row.2.2.2[d.toNat]'(by omega), us0 ++ [(q, d)], E2, sp2, sc2) ⟨hE1.trans hE2, hus2, hlt, hlt10, fun h => by simp at h⟩ (by simp only; omega) ⟨rfl, rfl, rfl, rfl, rfl, rfl, rfl, trivial⟩ rfl rfl
      · refine G_seq ?_
        refine G_seq (G_region ?_)
        refine Gm ?_
        refine Gm ?_
        refine Gv (V_lenS rfl rfl) ?_
        refine Gv (V_lss rfl rfl rfl) ?_
        refine Gm ?_
        refine G.bool_t 25 rfl (decide_eq_true (by omega)) ?_
        refine Gy (V_move rfl rfl) ?_
        refine Gy (V_lss rfl rfl rfl) ?_
        refine Gv (V_pick_t rfl rfl rfl) ?_
        refine G_end (X_then ?_)
        refine G_cond_f rfl (decide_eq_false (by omega)) ?_
        refine G_exit (X_then_exit (X_then_exit (X_block_hit (X_then (G_seq (G_seq (G_region ?_)))))))
        refine Ga ?_
        refine G_end (X_then (G_block ?_))
        refine G.sub [(1, .slice p xs.length c), (2, .pointer (some ⟨b2, 0, none⟩)), (4, .pointer (some ⟨b4, 0, none⟩)), (5, .bool false), (6, .pointer (some ⟨b6, 0, none⟩)), (15, .int .i64 0)] ⟨rfl, rfl, rfl, rfl, rfl, rfl, trivial⟩ ?_
        exact hk (us, E1, sp, sc) ⟨hE1, hus.up hi10⟩
    · refine G_seq ?_
      refine G_seq (G_region ?_)
      refine Gm ?_
      refine Gm ?_
      refine Gv (V_lenS rfl rfl) ?_
      refine Gv (V_lss rfl rfl rfl) ?_
      refine Gm ?_
      refine G.bool_f 25 rfl (decide_eq_false (by omega)) ?_
      refine Gn ?_
      refine Gn ?_
      refine Gv (V_pick_f rfl rfl rfl) ?_
      refine G_end (X_then ?_)
      refine G_cond_f rfl rfl ?_
      refine G_exit (X_then_exit (X_then_exit (X_block_hit (X_then (G_seq (G_seq (G_region ?_)))))))
      refine Ga ?_
      refine G_end (X_then (G_block ?_))
      refine G.sub [(1, .slice p xs.length c), (2, .pointer (some ⟨b2, 0, none⟩)), (4, .pointer (some ⟨b4, 0, none⟩)), (5, .bool false), (6, .pointer (some ⟨b6, 0, none⟩)), (15, .int .i64 0)] ⟨rfl, rfl, rfl, rfl, rfl, rfl, trivial⟩ ?_
      exact hk (us, E1, sp, sc) ⟨hE1, hus.up hi10⟩
  · rintro ⟨us, E1, sp, sc⟩ ⟨hE1, hus⟩
    simp only at hE1 hus ⊢
    replace hx := hx.mono hE1
    have hg' := hg0.mono hE1
    obtain ⟨⟨k1, k4⟩, m1, m8⟩ := gcB_range h0
    refine G.nilSl 46 3 ?_
    refine G_ways (Y := ?Y3) (β := List Tok × Env × Option Addr × Nat) (J := fun y => E1.Le y.2.1 ∧ Chn g.toks.length 100 y.1 ∧ (y.1.length : Int) ≤ g.k)
      (fs' := fun _ => [(1, .slice p xs.length c), (2, .pointer (some ⟨b2, 0, none⟩)), (4, .pointer (some ⟨b4, 0, none⟩)), (5, .bool false), (6, .pointer (some ⟨b6, 0, none⟩))]) (E' := fun y => y.2.1)
      (L' := fun y => .sl 46 3 y.2.2.1 y.1.length y.2.2.2 (toks y.1) :: .sl 71 2 sp us.length sc (spC us) :: cfB b6 2 0 (tendF 100 y.1) [] y.2.2.1 y.1.length y.2.2.2 0 0 true sp us.length sc :: cfB b4 0 0 0 [] none 0 0 0 0 false none 0 0 :: .blk b2 (.cells #[.int .i64 g.k, .slice tp g.toks.length tc, .string (S g.sep), .slice np g.names.length nc, .int .i64 g.start, .slice pp rows.length pc] 26 (0, 0)) :: L) ?_ ?_
    rotate_left
    · intro hk3
      refine G_loop (α := Nat × List Tok × Env × Option Addr × Nat × Int) (fun x => [(1, .slice p xs.length c), (2, .pointer (some ⟨b2, 0, none⟩)), (4, .pointer (some ⟨b4, 0, none⟩)), (5, .bool false), (6, .pointer (some ⟨b6, 0, none⟩)), (15, .int .i64 (x.1 : Nat))]) (fun x => x.2.2.1)
        (fun x => .sl 46 3 x.2.2.2.1 x.2.1.length x.2.2.2.2.1 (toks x.2.1) :: .sl 71 2 sp us.length sc (spC us) :: cfB b6 2 0 x.2.2.2.2.2 [] x.2.2.2.1 x.2.1.length x.2.2.2.2.1 0 0 true sp us.length sc :: cfB b4 0 0 0 [] none 0 0 0 0 false none 0 0 :: .blk b2 (.cells #[.int .i64 g.k, .slice tp g.toks.length tc, .string (S g.sep), .slice np g.names.length nc, .int .i64 g.start, .slice pp rows.length pc] 26 (0, 0)) :: L)
        (fun x => E1.Le x.2.2.1 ∧ Chn g.toks.length 100 x.2.1 ∧ x.2.1.length = x.1 ∧ x.1 ≤ xs.length ∧ (x.1 : Int) ≤ g.k ∧ tendF 100 x.2.1 = x.2.2.2.2.2) (fun x => xs.length - x.1) (0, [], E1, none, 0, 100)
        ⟨.refl _, trivial, rfl, Nat.zero_le _, by omega, rfl⟩ ⟨rfl, rfl, rfl, rfl, rfl, rfl, trivial⟩ rfl rfl ?_
      rintro ⟨i, l, E2, lp, lc, at'⟩ ⟨hE2, hch, hil, hix, hik, hat⟩
      simp only at hE2 hch hil hix hik hat ⊢
      replace hx := hx.mono hE2
      by_cases hlt : i < xs.length
      · by_cases hltk : (i : Int) < g.k
        · have y1 := i64s_get (List.getElem?_eq_getElem hlt)
          have y2 := hb _ (List.getElem_mem hlt)
          have y3 := Int.emod_nonneg xs[i] (b := 1048576) (by omega)
          have y4 := Int.emod_lt_of_pos xs[i] (b := 1048576) (by omega)
          have y5 := fun E0 L0 => Mod_call' E0 L0 xs[i] 1048576 y2 (by omega)
          generalize xs[i] % 1048576 = k at *
          have hte := hch.tendF
          rw [hat, hil] at hte
          by_cases hk0 : k % 3 = 0
          · refine G_seq ?_
            refine G_seq (G_region ?_)
            refine Gm ?_
            refine Gm ?_
            refine Gv (V_lenS rfl rfl) ?_
            refine Gv (V_lss rfl rfl rfl) ?_
            refine Gm ?_
            refine G.bool_t 138 rfl (decide_eq_true (by omega)) ?_
            refine Gy (V_move rfl rfl) ?_
            refine Gy (V_fieldAddr rfl rfl (by decide)) ?_
            refine Gy (V_load rfl rfl (Cell.own (.tail _ (.tail _ (.tail _ (.tail _ (.head _))))) rfl)) ?_
            refine Gy (V_lss rfl rfl rfl) ?_
            refine Gv (V_pick_t rfl rfl rfl) ?_
            refine G_end (X_then ?_)
            refine G_cond_t rfl (decide_eq_true (by omega)) ?_
            refine G_skip (X_then (G_seq (G_block (G_seq (G_region ?_)))))
            refine Gm ?_
            refine Gm ?_
            refine Gv (V_idxAddr rfl rfl rfl (SlE.rd (by assumption)) (by omega) (by omega)) ?_
            refine Gv (V_loadS rfl rfl (SlE.rd (by assumption)) (by assumption) (by simp)) ?_
            refine G_callv (k := 14) (.mk rfl rfl rfl rfl) rfl rfl (.none rfl) (y5 _ _) ?_
            refine Ga ?_
            refine G_end (X_then (G_seq (G_seq (G_region ?_))))
            refine Gm ?_
            refine Gv (V_rem_n rfl rfl rfl (by omega) (by omega)) ?_
            refine Gv (V_eql rfl rfl rfl) ?_
            refine G_end (X_then ?_)
            refine G_cond_t rfl (decide_eq_true (by omega)) ?_
            refine G_exit (X_then_exit ?_)
            refine X_block_miss rfl ?_
            refine X_then_exit (X_then_exit (X_block_hit (X_then (G_seq ?_))))
            refine G.sub [(1, .slice p xs.length c), (2, .pointer (some ⟨b2, 0, none⟩)), (4, .pointer (some ⟨b4, 0, none⟩)), (5, .bool false), (6, .pointer (some ⟨b6, 0, none⟩))] ⟨rfl, rfl, rfl, rfl, rfl, trivial⟩ ?_
            rw [← hat]
            exact hk3 (l, E2, lp, lc) ⟨hE2, hch, by simp only; omega⟩
          · obtain ⟨u1, u2⟩ := mkTok_ok k g.toks.length at' (by omega) (by omega) (by omega)
            have u3 := mkTok_at k g.toks.length at'
            have u4 := fun E0 L0 => Token_call E0 L0 k g.toks.length at' (by omega) (by omega) (by omega)
            generalize mkTok k g.toks.length at' = t at *
            obtain ⟨ts, tx, ta⟩ := t
            simp only at u2 u3
            subst u3
            refine G_seq (G_seq (G_region ?_))
            refine Gm ?_
            refine Gm ?_
            refine Gv (V_lenS rfl rfl) ?_
            refine Gv (V_lss rfl rfl rfl) ?_
            refine Gm ?_
            refine G.bool_t 138 rfl (decide_eq_true (by omega)) ?_
            refine Gy (V_move rfl rfl) ?_
            refine Gy (V_fieldAddr rfl rfl (by decide)) ?_
            refine Gy (V_load rfl rfl (Cell.own (.tail _ (.tail _ (.tail _ (.tail _ (.head _))))) rfl)) ?_
            refine Gy (V_lss rfl rfl rfl) ?_
            refine Gv (V_pick_t rfl rfl rfl) ?_
            refine G_end (X_then ?_)
            refine G_cond_t rfl (decide_eq_true (by omega)) ?_
            refine G_skip (X_then (G_seq (G_block (G_seq (G_region ?_)))))
            refine Gm ?_
            refine Gm ?_
            refine Gv (V_idxAddr rfl rfl rfl (SlE.rd (by assumption)) (by omega) (by omega)) ?_
            refine Gv (V_loadS rfl rfl (SlE.rd (by assumption)) (by assumption) (by simp)) ?_
            refine G_callv (k := 14) (.mk rfl rfl rfl rfl) rfl rfl (.none rfl) (y5 _ _) ?_
            refine Ga ?_
            refine G_end (X_then (G_seq (G_seq (G_region ?_))))
            refine Gm ?_
            refine Gv (V_rem_n rfl rfl rfl (by omega) (by omega)) ?_
            refine Gv (V_eql rfl rfl rfl) ?_
            refine G_end (X_then ?_)
            refine G_cond_f rfl (decide_eq_false (by omega)) ?_
            refine G_skip (X_then (G_seq (G_region ?_)))
            refine Gm ?_
            refine Gv (V_fieldAddr rfl rfl (by decide)) ?_
            refine Gv (V_load rfl rfl (Cell.own (.tail _ (.tail _ (.tail _ (.tail _ (.head _))))) rfl)) ?_
            refine Gv (V_lenS rfl rfl) ?_
            refine Gv (V_fieldAddr rfl rfl (by decide)) ?_
            refine Gv (V_load rfl rfl (Cell.own (.tail _ (.tail _ (.head _))) rfl)) ?_
            refine G_callv (k := 22) (.mk rfl rfl rfl rfl) rfl rfl (.none rfl) (u4 _ _) ?_
            (refine G_alloc rfl rfl rfl (.none rfl) ?_; intro b17)
            refine G_storeA rfl rfl rfl rfl (by simp [Value.oneCell']) rfl (.none rfl) (.head _ _ _) rfl ?_
            refine G_end (X_then ?_)
            refine G_drawX 18 [(0, 0), (1, 0), (2, 1), (3, 1), (6, 0), (7, 1), (8, 0), (9, 0), (10, 1), (4, 2), (5, 4), (11, 0), (12, 0), (13, 0), (14, 0), (15, 4), (16, 0), (17, 4)] mixed (by kernel_rfl) ?_
            refine F_pure rfl (fun _ _ => V_fieldAddr rfl rfl (by decide)) rfl rfl (.none rfl) ?_
            refine F_pure rfl (fun _ _ => V_fieldAddr rfl rfl (by decide)) rfl rfl (.none rfl) ?_
            refine F_load rfl (.tail _ (.tail _ (.tail _ (.head _)))) (V_load rfl rfl (Cell.own (.head _) rfl)) rfl rfl (.none rfl) ?_
            refine F_load rfl (.head _) (V_loadA rfl rfl (Cells.own (.head _)) rfl) rfl rfl (.none rfl) ?_
            refine F_pure rfl (fun _ _ => V_fieldAddr rfl rfl (by decide)) rfl rfl (.none rfl) ?_
            refine F_load rfl (.tail _ (.tail _ (.tail _ (.head _)))) (V_load rfl rfl (Cell.own (.head _) rfl)) rfl rfl (.none rfl) ?_
            refine F_pure rfl (fun _ _ => V_add_i64 rfl rfl rfl (by omega) (by omega)) rfl rfl (.none rfl) ?_
            refine F_pure rfl (fun _ _ => V_fieldAddr rfl rfl (by decide)) rfl rfl (.none rfl) ?_
            refine F_load rfl (.head _) (V_load rfl rfl (Cell.own (.head _) rfl)) rfl rfl (.none rfl) ?_
            (refine F_litZ rfl rfl rfl (by decide) (by simp [fillS, zeros, setLs, setL, Value.cells, List.range, List.range.loop]; rfl) (by rfl) rfl rfl (.none rfl) ?_; intro b165 E165 hE165 hs165)
            replace hx := hx.mono hE165
            (refine F_appendT rfl rfl rfl rfl (by assumption) (by simp [Value.oneCell', strs, i64s]) (by omega) (by omega) rfl rfl (.none rfl) (fun _ _ => (.tail _ (.head _ _ _))) ?_; intro a166 c166; refine ⟨_, (.cons (by assumption) (by simp) (.cons (by assumption) (by simp) (.drop (by kernel_rfl) (.drop (by kernel_rfl) (.nil))))), ?_⟩)
            refine F_pure rfl (fun _ _ => V_len rfl rfl) rfl rfl (.none rfl) ?_
            refine F_pure rfl (fun _ _ => V_add rfl rfl rfl) rfl rfl (.none rfl) ?_
            refine F_pure rfl (fun _ _ => V_fieldAddr rfl rfl (by decide)) rfl rfl (.none rfl) ?_
            refine F_pure rfl (fun _ _ => V_fieldAddr rfl rfl (by decide)) rfl rfl (.none rfl) ?_
            refine F_storeAt rfl rfl rfl rfl rfl rfl rfl (.none rfl) (.tail _ (.tail _ (.tail _ (.head _ _ _)))) (Nat.le_of_ble_eq_true rfl) (by simp only [putAll, Nat.zero_add, Nat.reduceAdd, List.setIfInBounds_toArray, List.set_cons_succ, List.set_cons_zero]; rfl) (.cons (by assumption) (by simp) (.drop (by kernel_rfl) (.nil))) ?_
            refine F_pure rfl (fun _ _ => V_fieldAddr rfl rfl (by decide)) rfl rfl (.none rfl) ?_
            refine F_storeAt rfl rfl rfl rfl rfl rfl rfl (.none rfl) (.tail _ (.tail _ (.tail _ (.head _ _ _)))) (Nat.le_of_ble_eq_true rfl) (by simp only [putAll, Nat.zero_add, Nat.reduceAdd, List.setIfInBounds_toArray, List.set_cons_succ, List.set_cons_zero]; rfl) (.drop (by kernel_rfl) (.nil)) ?_
            (refine F_end (.nil _) ?_; dsimp only [List.drop])
            refine G_end (X_block (X_then (G_region ?_)))
            refine Gm ?_
            refine Gv (V_add_i64 rfl rfl rfl (by omega) (by omega)) ?_
            refine Ga ?_
            refine G_end (X_then ?_)
            refine G.drop ?_
            have zl : (l ++ [(⟨ts, tx, ta⟩ : Tok)]).length = l.length + 1 := by simp
            have zt : toks (l ++ [(⟨ts, tx, ta⟩ : Tok)]) = toks l ++ [.int .i64 ts, .string (S tx), .int .i64 ta] := toks_append l [⟨ts, tx, ta⟩]
            have u5 := tokB_iff.1 u1
            simp only at u5
            rw [wrap_i64 (by omega) (by omega), ← zl, ← zt]
            exact G_again (i + 1, l ++ [(⟨ts, tx, ta⟩ : Tok)], E165, a166, c166, ta + 2 + tx.length) ⟨hE2.trans hE165, Chn.add u5.1 u5.2.1 u2 hch hat.symm, by simp only [zl]; omega, hlt, by simp only; omega, by simp only [tendF_snoc, tbeh]; omega⟩ (by simp only; omega) ⟨rfl, rfl, rfl, rfl, rfl, rfl, trivial⟩ rfl rfl
        · refine G_seq ?_
          refine G_seq (G_region ?_)
          refine Gm ?_
          refine Gm ?_
          refine Gv (V_lenS rfl rfl) ?_
          refine Gv (V_lss rfl rfl rfl) ?_
          refine Gm ?_
          refine G.bool_t 138 rfl (decide_eq_true (by omega)) ?_
          refine Gy (V_move rfl rfl) ?_
          refine Gy (V_fieldAddr rfl rfl (by decide)) ?_
          refine Gy (V_load rfl rfl (Cell.own (.tail _ (.tail _ (.tail _ (.tail _ (.head _))))) rfl)) ?_
          refine Gy (V_lss rfl rfl rfl) ?_
          refine Gv (V_pick_t rfl rfl rfl) ?_
          refine G_end (X_then ?_)
          refine G_cond_f rfl (decide_eq_false (by omega)) ?_
          refine G_exit (X_then_exit (X_then_exit (X_block_hit (X_then (G_seq ?_)))))
          refine G.sub [(1, .slice p xs.length c), (2, .pointer (some ⟨b2, 0, none⟩)), (4, .pointer (some ⟨b4, 0, none⟩)), (5, .bool false), (6, .pointer (some ⟨b6, 0, none⟩))] ⟨rfl, rfl, rfl, rfl, rfl, trivial⟩ ?_
          rw [← hat]
          exact hk3 (l, E2, lp, lc) ⟨hE2, hch, by simp only; omega⟩
      · refine G_seq ?_
        refine G_seq (G_region ?_)
        refine Gm ?_
        refine Gm ?_
        refine Gv (V_lenS rfl rfl) ?_
        refine Gv (V_lss rfl rfl rfl) ?_
        refine Gm ?_
        refine G.bool_f 138 rfl (decide_eq_false (by omega)) ?_
        refine Gn ?_
        refine Gn ?_
        refine Gn ?_
        refine Gn ?_
        refine Gv (V_pick_f rfl rfl rfl) ?_
        refine G_end (X_then ?_)
        refine G_cond_f rfl rfl ?_
        refine G_exit (X_then_exit (X_then_exit (X_block_hit (X_then (G_seq ?_)))))
        refine G.sub [(1, .slice p xs.length c), (2, .pointer (some ⟨b2, 0, none⟩)), (4, .pointer (some ⟨b4, 0, none⟩)), (5, .bool false), (6, .pointer (some ⟨b6, 0, none⟩))] ⟨rfl, rfl, rfl, rfl, rfl, trivial⟩ ?_
        rw [← hat]
        exact hk3 (l, E2, lp, lc) ⟨hE2, hch, by simp only; omega⟩
    · rintro ⟨l, E2, lp, lc⟩ ⟨hE2, hch, hlk⟩
      simp only at hE2 hch hlk ⊢
      replace hg' := hg'.mono hE2
      have hte := hch.tendF
      have hgr := hch.ring ⟨k1, k4⟩ ⟨(by omega : (1 : Int) ≤ g.toks.length), (by omega : (g.toks.length : Int) ≤ 8)⟩ (by omega) (by omega) hlk
      have hrn : rngB 0 (tendF 100 l) = true := by simp [rngB]; omega
      have hcm := ckM_chn (us := us) (by omega) hch
      obtain ⟨at', hat⟩ : ∃ a, tendF 100 l = a := ⟨_, rfl⟩
      rw [hat] at hrn hcm ⊢
      have hul := hus.1
      refine G.freezeSl (.head _ _) ?_
      intro E3 hE3 hl3 hlc3
      refine G.freezeSl (.head _ _) ?_
      intro E4 hE4 hu4 hsc4
      replace hg' := (hg'.mono hE3).mono hE4
      rw [hrl] at hg'
      replace hl3 := hl3.mono hE4
      by_cases hu0 : us = []
      · have hu1 : us.length = 0 := by rw [hu0]; rfl
        have hfin : MadeR g E4 (.tuple #[cfV 2 0 at' [] lp l.length lc 0 0 true sp us.length sc, .bool false]) := ⟨⟨_, _, rfl, fun h => (by cases h), ⟨_, _, _, _, _, _, _, _, _, _, _, _, _, rfl⟩⟩⟩
        refine G_drawX 13 [(0, 1), (1, 0), (2, 1), (3, 0), (4, 0), (5, 0), (6, 1), (7, 1), (8, 3), (9, 0), (10, 0), (11, 4), (12, 0)] mixed (by kernel_rfl) ?_
        refine F_load rfl (.head _) (V_loadA rfl rfl (Cells.own (.head _)) rfl) rfl rfl (.none rfl) ?_
        refine F_pure rfl (fun _ _ => V_fieldAddr rfl rfl (by decide)) rfl rfl (.none rfl) ?_
        refine F_load rfl (.head _) (V_load rfl rfl (Cell.own (.head _) rfl)) rfl rfl (.none rfl) ?_
        refine F_pure rfl (fun _ _ => V_lenS rfl rfl) rfl rfl (.none rfl) ?_
        refine F_pure rfl (fun _ _ => V_gtr rfl rfl rfl) rfl rfl (.none rfl) ?_
        refine F_pure rfl (fun _ _ => V_move rfl rfl) rfl rfl (.none rfl) ?_
        refine GF.bool_f 182 rfl (decide_eq_false (by omega)) ?_
        refine F_stay rfl (.no rfl rfl rfl rfl) rfl rfl ?_
        refine F_stay rfl (.no rfl rfl rfl rfl) rfl rfl ?_
        refine F_stay rfl (.no rfl rfl rfl rfl) rfl rfl ?_
        refine F_stay rfl (.no rfl rfl rfl rfl) rfl rfl ?_
        refine F_pure rfl (fun _ _ => V_pick_f rfl rfl rfl) rfl rfl (.none rfl) ?_
        refine F_storeF rfl rfl rfl rfl rfl (by simp [Value.oneCell']) rfl (.none rfl) (.tail _ (.head _ _ _)) (Nat.le_of_ble_eq_true rfl) (by simp only [putAll, Nat.zero_add, Nat.reduceAdd, List.setIfInBounds_toArray, List.set_cons_succ, List.set_cons_zero]; rfl) (.drop (by kernel_rfl) (.drop (by kernel_rfl) (.nil))) ?_
        refine F_pure rfl (fun _ _ => V_assign rfl rfl) rfl rfl (.none rfl) ?_
        (refine F_end (.nil _) ?_; dsimp only [List.drop])
        refine G_end (X_then (G_ret ?_))
        refine G_leaveS (.drop _ (.drop _ (.drop _ (.nil _)))) (by exact (.cons (.cellA rfl (Cells.own (.tail _ (.head _))) rfl) (.cons (.tmp rfl) (.nil)))) rfl ?_ ?_
        · exact (((hE1.trans hE2).trans hE3).trans hE4)
        exact ⟨(by assumption), rfl⟩
      · have hu1 : 0 < us.length := List.length_pos_iff.2 hu0
        have hfin : MadeR g E4 (.tuple #[cfV 2 0 at' [] lp l.length lc 0 0 true sp us.length sc, .bool (decide (ckM g 2 at' [] l 0 0 true us = 0))]) := by
          refine ⟨⟨_, _, rfl, fun h => ?_, ⟨_, _, _, _, _, _, _, _, _, _, _, _, _, rfl⟩⟩⟩
          rw [hcm, decide_eq_true_eq] at h
          exact ⟨lp, l.length, lc, sp, us.length, sc, l, us, by rw [hat], hl3, hu4, hch, hlk, hu0, hul, h⟩
        refine G_drawX 13 [(0, 1), (1, 0), (2, 1), (3, 0), (4, 0), (5, 0), (6, 1), (7, 1), (8, 3), (9, 0), (10, 0), (11, 4), (12, 0)] mixed (by kernel_rfl) ?_
        refine F_load rfl (.head _) (V_loadA rfl rfl (Cells.own (.head _)) rfl) rfl rfl (.none rfl) ?_
        refine F_pure rfl (fun _ _ => V_fieldAddr rfl rfl (by decide)) rfl rfl (.none rfl) ?_
        refine F_load rfl (.head _) (V_load rfl rfl (Cell.own (.head _) rfl)) rfl rfl (.none rfl) ?_
        refine F_pure rfl (fun _ _ => V_lenS rfl rfl) rfl rfl (.none rfl) ?_
        refine F_pure rfl (fun _ _ => V_gtr rfl rfl rfl) rfl rfl (.none rfl) ?_
        refine F_pure rfl (fun _ _ => V_move rfl rfl) rfl rfl (.none rfl) ?_
        refine GF.bool_t 182 rfl (decide_eq_true (by omega)) ?_
        refine F_load rfl (.tail _ (.tail _ (.head _))) (V_loadA rfl rfl (Cells.own (.head _)) rfl) rfl rfl (.yes rfl rfl rfl rfl) ?_
        refine F_load rfl (.head _) (V_loadA rfl rfl (Cells.own (.head _)) rfl) rfl rfl (.yes rfl rfl rfl rfl) ?_
        refine F_callv (k := 15) rfl (.mk rfl rfl rfl rfl) rfl rfl (.yes rfl rfl rfl rfl) (fun _ => CCheck_call _ _ _ _ _ _ _ _ _ _ _ _ _ _ _ _ _ (by assumption) (by assumption) (by assumption) (by omega) (by assumption) (by (simp; done)) _ (by assumption) (by assumption) _ (by assumption) (by omega)) ?_
        refine F_pure rfl (fun _ _ => V_eql rfl rfl rfl) rfl rfl (.yes rfl rfl rfl rfl) ?_
        refine F_pure rfl (fun _ _ => V_pick_t rfl rfl rfl) rfl rfl (.none rfl) ?_
        refine F_storeF rfl rfl rfl rfl rfl (by simp [Value.oneCell']) rfl (.none rfl) (.tail _ (.head _ _ _)) (Nat.le_of_ble_eq_true rfl) (by simp only [putAll, Nat.zero_add, Nat.reduceAdd, List.setIfInBounds_toArray, List.set_cons_succ, List.set_cons_zero]; rfl) (.drop (by kernel_rfl) (.drop (by kernel_rfl) (.drop (by kernel_rfl) (.drop (by kernel_rfl) (.nil))))) ?_
        refine F_pure rfl (fun _ _ => V_assign rfl rfl) rfl rfl (.none rfl) ?_
        (refine F_end (.nil _) ?_; dsimp only [List.drop])
        refine G_end (X_then (G_ret ?_))
        refine G_leaveS (.drop _ (.drop _ (.drop _ (.nil _)))) (by exact (.cons (.cellA rfl (Cells.own (.tail _ (.head _))) rfl) (.cons (.tmp rfl) (.nil)))) rfl ?_ ?_
        · exact (((hE1.trans hE2).trans hE3).trans hE4)
        exact ⟨(by assumption), rfl⟩
end
end Go.Proofs.YtimiokmgnclggaaGreat
set_option linter.unusedSimpArgs false
set_option linter.unusedVariables false
set_option maxHeartbeats 2000000
set_option maxRecDepth 20000
namespace Go.Proofs.YtimiokmgnclggaaGreat
open Go.RowKit
/-! A configuration in new memory. -/
section
variable (E : Env) (L : List Res)
theorem OwnConf_call (st rc at' : Int) (part : List UInt8) (tp : Option Addr) (tn tc : Nat) (e ea : Int) (b : Bool) (sp : Option Addr) (sn sc : Nat)
    (l : List Tok) (hs : SlE E 3 tp tn (toks l)) (us : List Spt) (hu : SlE E 2 sp sn (spC us)) (hn : tn ≤ 1000) (hm : sn ≤ 1000) :
    CallS Tryz.prog 11 #[cfV st rc at' part tp tn tc e ea b sp sn sc] E L (fun r E' L' => ∃ a c a2 c2, r = cfV st rc at' part a tn c e ea b a2 sn c2 ∧ E = E' ∧
      L' = .sl 71 2 a2 sn c2 (spC us) :: .sl 46 3 a tn c (toks l) :: L) := by
  have h1 := toks_one l
  have h2 := spC_one us
  refine CallS.intro (l := [_]) _ Tryz.func11 rfl Tryz.ntmps11 rfl ?_
  refine G_seq (G_region ?_)
  (refine G_boxA rfl rfl rfl rfl (.none rfl) ?_; intro b1)
  (refine G_alloc rfl rfl rfl (.none rfl) ?_; intro b2)
  refine G_end (X_then (G_seq (G_region ?_)))
  (refine G_lit0z rfl rfl rfl (.none rfl) ?_; intro b3)
  refine Gv (V_fieldAddr rfl rfl (by decide)) ?_
  refine Gv (V_fieldAddr rfl rfl (by decide)) ?_
  refine Gv (V_load rfl rfl (Cell.own (.tail _ (.tail _ (.head _))) rfl)) ?_
  refine G_append rfl rfl rfl (SlE.rd hs) (toks_one l) (by omega) (by omega) rfl rfl (.none rfl) (fun _ _ => .head _ _ _) ?_
  intro a c
  simp only [Nat.zero_add, List.nil_append]
  refine Gv (V_fieldAddr rfl rfl (by decide)) ?_
  refine Gv (V_fieldAddr rfl rfl (by decide)) ?_
  refine G_storeAt rfl rfl rfl rfl rfl rfl (.none rfl) (.tail _ (.tail _ (.head _ _ _))) (Nat.le_of_ble_eq_true rfl) (by simp only [putAll, Nat.zero_add, Nat.reduceAdd, List.setIfInBounds_toArray, List.set_cons_succ, List.set_cons_zero]; rfl) ?_
  refine G_end (X_then (G_seq (G_region ?_)))
  (refine G_lit0z rfl rfl rfl (.none rfl) ?_; intro b10)
  refine Gv (V_fieldAddr rfl rfl (by decide)) ?_
  refine Gv (V_load rfl rfl (Cell.own (.tail _ (.tail _ (.tail _ (.head _)))) rfl)) ?_
  refine G_append rfl rfl rfl (SlE.rd hu) (spC_one us) (by omega) (by omega) rfl rfl (.none rfl) (fun _ _ => .head _ _ _) ?_
  intro a2 c2
  simp only [Nat.zero_add, List.nil_append]
  refine Gv (V_fieldAddr rfl rfl (by decide)) ?_
  refine G_storeAt rfl rfl rfl rfl rfl rfl (.none rfl) (.tail _ (.tail _ (.tail _ (.head _ _ _)))) (Nat.le_of_ble_eq_true rfl) (by simp only [putAll, Nat.zero_add, Nat.reduceAdd, List.setIfInBounds_toArray, List.set_cons_succ, List.set_cons_zero]; rfl) ?_
  refine G_end (X_then (G_seq (G_region ?_)))
  refine Gv (V_loadA rfl rfl (Cells.own (.tail _ (.tail _ (.tail _ (.head _))))) rfl) ?_
  refine G_storeA rfl rfl rfl rfl (by simp [Value.oneCell']) rfl (.none rfl) (.tail _ (.tail _ (.head _ _ _))) rfl ?_
  refine G_end (X_then (G_ret ?_))
  refine G_leaveS (.keep _ (.keep _ (.drop _ (.drop _ (.nil _))))) (by exact (.cons (.cellA rfl (Cells.own (.tail _ (.tail _ (.head _)))) rfl) (.nil))) rfl ?_ ?_
  · exact (.refl _)
  exact ⟨_, ⟨_, ⟨_, ⟨_, ⟨rfl, ⟨rfl, rfl⟩⟩⟩⟩⟩⟩
end
end Go.Proofs.YtimiokmgnclggaaGreat
set_option linter.unusedSimpArgs false
set_option linter.unusedVariables false
set_option maxHeartbeats 2000000
set_option maxRecDepth 20000
namespace Go.Proofs.YtimiokmgnclggaaGreat
open Go.RowKit
/-! The law's helpers: example, limits, inside, awaits, awake. -/
abbrev exG : Gr := ⟨2, [[97], [98]], [110, 108], [[83]], 16, [(16, [0, 16]), (16, [])]⟩
theorem exG_ok : gcheck exG = 0 := by decide +kernel
theorem exG_light : Light exG := lightB_iff.1 (by decide +kernel)
section
variable (E : Env) (L : List Res)
theorem example_call : CallS Tryz.prog 24 #[] E L (fun r E' L' => ∃ b0 b1 b2 b3 b6, r = .agg #[.int .i64 2, .slice (some ⟨b1, 0, none⟩) 2 2, .string (S [110, 108]), .slice (some ⟨b2, 0, none⟩) 1 1, .int .i64 16, .slice (some ⟨b6, 0, none⟩) 2 2] ∧ E = E' ∧
    L' = .blk b6 (.cells #[.int .i64 16, .slice (some ⟨b3, 0, none⟩) 2 2, .int .i64 16, .slice none 0 0] 69 (0, 0)) :: .blk b3 (.cells #[.int .i64 0, .int .i64 16] 3 (0, 0)) :: .blk b2 (.cells #[.string (S [83])] 9 (0, 0)) :: .blk b1 (.cells #[.string (S [97]), .string (S [98])] 9 (0, 0)) :: .blk b0 (.cells #[.int .i64 2, .slice (some ⟨b1, 0, none⟩) 2 2, .string (S [110, 108]), .slice (some ⟨b2, 0, none⟩) 1 1, .int .i64 16, .slice (some ⟨b6, 0, none⟩) 2 2] 26 (0, 0)) :: L) := by
  refine CallS.intro (l := []) _ Tryz.func24 rfl Tryz.ntmps24 rfl ?_
  refine G_seq (G_region ?_)
  (refine G_alloc rfl rfl rfl (.none rfl) ?_; intro b0)
  refine G_end (X_then (G_seq (G_region ?_)))
  (refine G_lit2 rfl rfl rfl rfl rfl rfl rfl (.none rfl) ?_; intro b1)
  (refine G_lit1 rfl rfl rfl rfl rfl (.none rfl) ?_; intro b2)
  (refine G_lit2 rfl rfl rfl rfl rfl rfl rfl (.none rfl) ?_; intro b3)
  refine Gv (V_build rfl rfl (by simp [fillV, setLs, setL, Value.cells]; rfl)) ?_
  refine Gv (V_build rfl rfl (by simp [fillV, setLs, setL, Value.cells]; rfl)) ?_
  (refine G_lit rfl rfl (by decide) (by simp [fillS, zeros, setLs, setL, Value.cells, List.range, List.range.loop]; rfl) rfl rfl (.none rfl) ?_; intro b6)
  refine Gv (V_build rfl rfl (by simp [fillV, setLs, setL, Value.cells]; rfl)) ?_
  refine G_storeA rfl rfl rfl rfl (by simp [Value.oneCell']) rfl (.none rfl) (.tail _ (.tail _ (.tail _ (.tail _ (.head _ _ _))))) rfl ?_
  refine G_end (X_then (G_ret ?_))
  refine G_leaveS (.keep _ (.keep _ (.keep _ (.keep _ (.keep _ (.nil _)))))) (by exact (.cons (.cellA rfl (Cells.own (.tail _ (.tail _ (.tail _ (.tail _ (.head _)))))) rfl) (.nil))) rfl ?_ ?_
  · exact (.refl _)
  exact ⟨_, ⟨_, ⟨_, ⟨_, ⟨_, ⟨rfl, ⟨rfl, rfl⟩⟩⟩⟩⟩⟩⟩
theorem example_call' : CallS Tryz.prog 24 #[] E L (fun r E' L' => GrE E' r exG ∧ L' = L) :=
  fun w hw => (example_call E L w hw).mono fun _ _ ⟨r, E', L', he, hE, hs, b0, b1, b2, b3, b6, hr, _, hL⟩ => by
    subst hL hr
    obtain ⟨E2, hE2, hs2, hok2⟩ := hs.freeze
    obtain ⟨E3, hE3, hs3, hok3⟩ := hs2.freeze
    obtain ⟨E4, hE4, hs4, hok4⟩ := hs3.freeze
    obtain ⟨E5, hE5, hs5, hok5⟩ := hs4.freeze
    refine ⟨_, E5, L, he, (((hE.trans hE2).trans hE3).trans hE4).trans hE5, hs5.drop, ?_, rfl⟩
    refine GrE.mk (g := exG) (SlE.lit (l := strs [[97], [98]]) hok5 rfl) ((SlE.lit (l := strs [[83]]) hok4 rfl).mono hE5) ⟨[(some ⟨b3, 0, none⟩, 2, (16, [0, 16])), (none, 0, (16, []))], rfl, ?_, fun r hr => ?_⟩ (Nat.le_refl _) (Nat.le_refl _) (Nat.le_refl _)
    · exact ((SlE.lit (l := prows [(some ⟨b3, 0, none⟩, 2, (16, [0, 16])), (none, 0, (16, []))]) hok2 rfl).mono (hE3.trans hE4)).mono hE5
    · simp only [List.mem_cons, List.not_mem_nil, or_false] at hr
      rcases hr with rfl | rfl
      · exact ((SlE.lit (l := i64s [0, 16]) hok3 rfl).mono hE4).mono hE5
      · exact SlE.nil
theorem limits_call : CallV Tryz.prog 23 #[] E L (.agg #[.int .i64 9, .int .i64 9, .int .i64 5, .int .i64 1]) := by
  refine CallS.toV (CallS.intro (l := []) _ Tryz.func23 rfl Tryz.ntmps23 rfl ?_)
  refine G_seq (G_region ?_)
  (refine G_alloc rfl rfl rfl (.none rfl) ?_; intro b0)
  refine G_end (X_then (G_seq (G_region ?_)))
  refine Gv (V_build rfl rfl (by simp [fillV, setLs, setL, Value.cells]; rfl)) ?_
  refine G_storeA rfl rfl rfl rfl (by simp [Value.oneCell']) rfl (.none rfl) (.head _ _ _) rfl ?_
  refine G_end (X_then (G_ret ?_))
  refine G_leaveS (.drop _ (.nil _)) (by exact (.cons (.cellA rfl (Cells.own (.head _)) rfl) (.nil))) rfl ?_ ?_
  · exact (.refl _)
  exact ⟨(by kernel_rfl), rfl⟩
theorem New_ex : CallV Tryz.prog 16 #[.agg #[.int .i64 9, .int .i64 9, .int .i64 5, .int .i64 1]] E L (.tuple #[cfV 1 1 5 [] none 0 0 0 0 false none 0 0, .int .i64 0]) := CallV.castV (New_call E L 9 9 5 1) (by kernel_rfl)
theorem Needs_ex (gv : Value) (hg : GrE E gv exG) : CallV Tryz.prog 9 #[gv, cfV 1 1 5 [] none 0 0 0 0 false none 0 0] E L (.tuple #[.int .i64 1, .int .i64 0]) :=
  CallV.castV (CNeeds_call E L 1 1 5 [] none 0 0 0 0 false none 0 0 gv exG hg exG_light exG_ok (.inl rfl) (by rfl) (by simp) [] SlE.nilT (by decide +kernel) [] SlE.nil (by omega)) (by kernel_rfl)
theorem Same_ex : CallV Tryz.prog 25 #[cfV 1 1 5 [] none 0 0 0 0 false none 0 0, cfV 1 1 5 [] none 0 0 0 0 false none 0 0] E L (.bool true) :=
  CallV.castV (SameConf_call E L 1 1 5 1 1 5 [] [] none none 0 0 0 0 0 0 0 0 false false none none 0 0 0 0 [] [] [] [] SlE.nilT SlE.nilT SlE.nil SlE.nil (by omega) (by omega) (by omega) (by omega)) (by rfl)
theorem awake_call' : CallS Tryz.prog 8 #[] E L (fun r E' L' => r = .bool true ∧ L' = L) := by
  refine CallS.intro (l := []) _ Tryz.func8 rfl Tryz.ntmps8 rfl ?_
  refine G_seq (G_region ?_)
  refine Ga ?_
  refine G_end (X_then (G_seq (G_region ?_)))
  refine G_callv (k := 23) (.mk rfl rfl rfl rfl) rfl rfl (.none rfl) (limits_call _ _) ?_
  refine G_callv (k := 16) (.mk rfl rfl rfl rfl) rfl rfl (.none rfl) (New_ex _ _) ?_
  refine Gm ?_
  refine Gv (V_extract rfl rfl rfl) ?_
  refine Gv (V_extract rfl rfl rfl) ?_
  (refine G_alloc rfl rfl rfl (.none rfl) ?_; intro b1)
  refine G_storeA rfl rfl rfl rfl (by simp [Value.oneCell']) rfl (.none rfl) (.head _ _ _) rfl ?_
  refine Ga ?_
  refine G_end (X_then (G_seq ?_))
  refine G_drawX 8 [(1, 1), (0, 3), (2, 3), (3, 0), (4, 0), (5, 0), (6, 0), (7, 0)] mixed (by kernel_rfl) ?_
  refine F_load rfl (.head _) (V_loadA rfl rfl (Cells.own (.head _)) rfl) rfl rfl (.none rfl) ?_
  apply F_call (k := 24) rfl (.mk rfl rfl rfl rfl) rfl rfl (.none rfl)
  · (intro L0; refine CallS.mono (example_call' _ _) ?_; exact fun _ _ _ _ h => h)
  · (rintro L0 r E' L' ⟨Z1, rfl⟩; exact ⟨rfl, ⟨(by assumption), rfl⟩⟩)
  rintro r2 E3 hE4 ⟨Z5, _⟩
  refine F_callv (k := 9) rfl (.mk rfl rfl rfl rfl) rfl rfl (.none rfl) (fun _ => Needs_ex _ _ _ (by assumption)) ?_
  refine F_pure rfl (fun _ _ => V_move rfl rfl) rfl rfl (.none rfl) ?_
  refine F_pure rfl (fun _ _ => V_extract rfl rfl rfl) rfl rfl (.none rfl) ?_
  refine F_pure rfl (fun _ _ => V_extract rfl rfl rfl) rfl rfl (.none rfl) ?_
  refine F_pure rfl (fun _ _ => V_assign rfl rfl) rfl rfl (.none rfl) ?_
  refine F_pure rfl (fun _ _ => V_assign rfl rfl) rfl rfl (.none rfl) ?_
  (refine F_end (.nil _) ?_; dsimp only [List.drop])
  refine G_end (X_then (G_seq (G_region ?_)))
  refine Gm ?_
  refine Gv (V_eql rfl rfl rfl) ?_
  refine Gm ?_
  refine G.bool_t 18 rfl (by kernel_rfl) ?_
  refine Gy (V_loadA rfl rfl (Cells.own (.head _)) rfl) ?_
  refine Gy (V_build rfl rfl (by simp [fillV, setLs, setL, Value.cells]; rfl)) ?_
  refine G_callv (k := 25) (.mk rfl rfl rfl rfl) rfl rfl (.yes rfl rfl rfl rfl) (Same_ex _ _) ?_
  refine Gv (V_pick_t rfl rfl rfl) ?_
  refine Gm ?_
  refine Gy (V_move rfl rfl) ?_
  refine Gy (V_eql rfl rfl rfl) ?_
  refine Gv (V_pick_t rfl rfl rfl) ?_
  refine Gm ?_
  refine G.bool_t 27 rfl (by kernel_rfl) ?_
  refine Gy (V_move rfl rfl) ?_
  refine Gy (V_eql rfl rfl rfl) ?_
  refine Gv (V_pick_t rfl rfl rfl) ?_
  refine Ga ?_
  refine G_end (X_then (G_ret ?_))
  refine G_leaveS (.drop _ (.nil _)) (by exact (.cons (.tmp rfl) (.nil))) rfl ?_ ?_
  · exact hE4
  exact ⟨(by kernel_rfl), rfl⟩
end
end Go.Proofs.YtimiokmgnclggaaGreat
set_option linter.unusedVariables false
set_option linter.unusedSimpArgs false
namespace Go.Proofs.YtimiokmgnclggaaGreat
open Go.RowKit
/-! Contracts for configurations whose tokens stand one behind the other. -/
section
variable (E : Env) (L : List Res) (rc at' : Int) (tp : Option Addr) (tn tc : Nat) (sp : Option Addr) (sn sc : Nat) (gv : Value) (g : Gr) (hg : GrE E gv g) (h0 : gcheck g = 0) (hl : Light g)
  (l : List Tok) (us : List Spt) (hs : SlE E 3 tp tn (toks l)) (hu : SlE E 2 sp sn (spC us)) (a : Int) (ha : 0 ≤ a) (hch : Chn g.toks.length a l) (hm : tendF a l ≤ 1099511627000) (hk : (l.length : Int) ≤ g.k) (hc : chkS g us = 0) (hn : us.length ≤ 10)
  (hr : 0 ≤ rc ∧ rc ≤ 1099511627776)
include ha hch hm hr in
theorem rng_made (ht : at' = tendF a l) : rngB rc at' = true := by
  have := hch.tendF
  simp [rngB]; omega
theorem gcM_range {g : Gr} (h0 : gcheck g = 0) : (1 ≤ g.k ∧ g.k ≤ 4) ∧ (1 ≤ (g.toks.length : Int) ∧ (g.toks.length : Int) ≤ 8) := by
  simp only [gcheck, gc0, gc1] at h0
  split at h0
  · omega
  split at h0
  · omega
  split at h0
  · omega
  rename_i a b c
  simp only [fullB, shortB, Bool.or_eq_true, decide_eq_true_eq, not_or] at b c
  omega
include hg h0 hl hs hu ha hch hm hk hc hn hr
theorem Place_made (ht : at' = tendF a l) : CallV Tryz.prog 13 #[gv, cfV 2 rc at' [] tp tn tc 0 0 true sp sn sc] E L (.tuple #[.int .i64 a, .int .i64 0]) := by
  have hb := gcM_range h0
  have hsn := hu.nSp
  have := CPlace_call E L 2 rc at' [] tp tn tc 0 0 true sp sn sc gv g hg hl h0 (.inr rfl) (rng_made rc at' g l a ha hch hm hr ht) (by simp) l hs (hch.ring hb.1 hb.2 ha (by omega) hk) us hu (by omega) rfl
  subst ht
  rwa [ckM_chn ha hch, hc, if_pos rfl, plcC_chn hch] at this
theorem Check_made (ht : at' = tendF a l) : CallV Tryz.prog 15 #[gv, cfV 2 rc at' [] tp tn tc 0 0 true sp sn sc] E L (.int .i64 0) := by
  have hb := gcM_range h0
  have hsn := hu.nSp
  have := CCheck_call E L 2 rc at' [] tp tn tc 0 0 true sp sn sc gv g hg hl h0 (.inr rfl) (rng_made rc at' g l a ha hch hm hr ht) (by simp) l hs (hch.ring hb.1 hb.2 ha (by omega) hk) us hu (by omega)
  subst ht
  rwa [ckM_chn ha hch, hc] at this
theorem Needs_made (ht : at' = tendF a l) : CallV Tryz.prog 9 #[gv, cfV 2 rc at' [] tp tn tc 0 0 true sp sn sc] E L (.tuple #[.int .i64 (nd (awS g.prods us).1 g.k l.length), .int .i64 0]) := by
  have hb := gcM_range h0
  have hsn := hu.nSp
  have := CNeeds_call E L 2 rc at' [] tp tn tc 0 0 true sp sn sc gv g hg hl h0 (.inr rfl) (rng_made rc at' g l a ha hch hm hr ht) (by simp) l hs (hch.ring hb.1 hb.2 ha (by omega) hk) us hu (by omega)
  subst ht
  rwa [ckM_chn ha hch, hc, if_pos rfl, needC_nd] at this
theorem Awaits_made (ht : at' = tendF a l) : CallV Tryz.prog 10 #[gv, cfV 2 rc at' [] tp tn tc 0 0 true sp sn sc] E L (.tuple #[.int .i64 (awS g.prods us).1, .int .i64 (awS g.prods us).2, .int .i64 0]) := by
  have hb := gcM_range h0
  have hsn := hu.nSp
  have := CAwaits_call E L 2 rc at' [] tp tn tc 0 0 true sp sn sc gv g hg hl h0 (.inr rfl) (rng_made rc at' g l a ha hch hm hr ht) (by simp) l hs (hch.ring hb.1 hb.2 ha (by omega) hk) us hu (by omega)
  subst ht
  rw [ckM_chn ha hch, hc, if_pos rfl, if_pos rfl] at this
  exact this
theorem Waits_made (ht : at' = tendF a l) : CallV Tryz.prog 12 #[gv, cfV 2 rc at' [] tp tn tc 0 0 true sp sn sc] E L (.tuple #[.bool (decide (0 < nd (awS g.prods us).1 g.k l.length)), .int .i64 0]) := by
  have hb := gcM_range h0
  have hsn := hu.nSp
  have := CWaits_call E L 2 rc at' [] tp tn tc 0 0 true sp sn sc gv g hg hl h0 (.inr rfl) (rng_made rc at' g l a ha hch hm hr ht) (by simp) l hs (hch.ring hb.1 hb.2 ha (by omega) hk) us hu (by omega)
  subst ht
  rwa [ckM_chn ha hch, hc, if_pos rfl, needC_nd] at this
theorem WaitsE_made (ht : at' = tendF a l) : CallV Tryz.prog 12 #[gv, cfV 2 rc (at' + 2) [] tp tn tc 1 at' true sp sn sc] E L (.tuple #[.bool false, .int .i64 0]) := by
  have hb := gcM_range h0
  have hsn := hu.nSp
  subst ht
  have h2 := hch.tendF
  have := CWaits_call E L 2 rc (tendF a l + 2) [] tp tn tc 1 (tendF a l) true sp sn sc gv g hg hl h0 (.inr rfl) (by simp [rngB]; omega) (by simp) l hs (hch.ringE hb.1 hb.2 ha (by omega) hk) us hu (by omega)
  rwa [ckM_chnE ha hch hc, if_pos rfl, needC_end] at this
end
end Go.Proofs.YtimiokmgnclggaaGreat
