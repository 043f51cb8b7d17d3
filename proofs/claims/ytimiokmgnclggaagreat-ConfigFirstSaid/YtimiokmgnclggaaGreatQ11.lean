/-
  Rules and contracts, packed: G7, Sep34, G8, G9, G10, G11.
-/
import Derived.Test.YtimiokmgnclggaaGreatQ10
set_option maxHeartbeats 1000000
set_option linter.unusedSimpArgs false
set_option linter.unusedVariables false
set_option maxHeartbeats 2000000
set_option maxRecDepth 20000
namespace Go.Proofs.YtimiokmgnclggaaGreat
open Go.RowKit
/-! The check of the offsets. -/
section
variable (E : Env) (L : List Res) (st rc at' : Int) (part : List UInt8) (tp : Option Addr) (tn tc : Nat) (e ea : Int) (b : Bool) (sp : Option Addr) (sn sc : Nat) (gk : Int) (gp : Option Addr) (gn gc : Nat) (sep : List UInt8) (np : Option Addr) (nn nc : Nat) (start : Int) (pp : Option Addr) (pn pc : Nat)
theorem cplaces_call (l : List Tok) (hl : SlE E 3 tp tn (toks l)) (hg : gringB gk gn l e ea = true) (hs : part.length ≤ 1) (ha : 0 ≤ at' ∧ at' ≤ 1099511627776) (h3 : st = 1 ∨ st = 2) :
    CallV Tryz.prog 34 #[ckV st rc at' part tp tn tc e ea b sp sn sc gk gp gn gc sep np nn nc start pp pn pc] E L (.int .i64 (placM at' part.length l e ea)) := by
  have en := hl.nT
  have hgr := gring_iff.1 hg
  obtain ⟨g1, g2, g3, g4, g5, g6, g7, g8, g9, g10, g11, g12, g13⟩ := hgr
  have hst5 : ¬ st = 5 := by omega
  refine CallS.toV (CallS.intro (l := [_]) _ Tryz.func34 rfl Tryz.ntmps34 rfl ?_)
  refine G_seq (G_region ?_)
  (refine G_boxA rfl rfl rfl rfl (.none rfl) ?_; intro b1)
  refine Ga ?_
  refine G_end (X_then (G_seq (G_region ?_)))
  refine Gv (V_fieldAddr rfl rfl (by decide)) ?_
  refine Gv (V_fieldAddr rfl rfl (by decide)) ?_
  refine Gv (V_fieldAddr rfl rfl (by decide)) ?_
  refine Gv (V_load rfl rfl (Cell.own (.head _) rfl)) ?_
  refine Ga ?_
  refine G_end (X_then (G_seq (G_seq (G_region ?_))))
  refine Ga ?_
  refine G_end (X_then (G_block ?_))
  refine G_loop (α := Nat) (fun i => [(1, .pointer (some ⟨b1, 0, none⟩)), (3, .slice tp tn tc), (4, .int .i64 i)]) (fun _ => E)
    (fun _ => CKB b1 st rc at' part tp tn tc e ea b sp sn sc gk gp gn gc sep np nn nc start pp pn pc :: L)
    (fun i => 1 ≤ i ∧ (i = 1 ∨ i ≤ l.length) ∧ ∀ j, 0 < j → j < i → (hj : j < l.length) → l[j].at' = tbeh l[j - 1]) (fun i => l.length + 1 - i) 1 ⟨Nat.le_refl _, .inl rfl, fun j h1 h2 => by omega⟩ ⟨rfl, rfl, rfl, trivial⟩ rfl rfl ?_
  rintro i ⟨hi, hi2, hall⟩
  by_cases hlt : i < l.length
  · obtain ⟨k, rfl⟩ : ∃ k, i = k + 1 := ⟨i - 1, by omega⟩
    have hk : k < l.length := by omega
    have q1 := tokB_iff.1 (g6 _ (List.getElem_mem hlt))
    have q2 := tokB_iff.1 (g6 _ (List.getElem_mem hk))
    obtain ⟨q11, q12, q13, q14, q15⟩ := q1
    obtain ⟨q21, q22, q23, q24, q25⟩ := q2
    have x1 := toks_at (List.getElem?_eq_getElem hlt)
    have x2 : (toks l)[(((k + 1 : Nat) : Int) - 1).toNat * 3 + 2]? = some (.int .i64 l[k].at') := by
      rw [show (((k + 1 : Nat) : Int) - 1).toNat = k by omega]
      exact toks_at (List.getElem?_eq_getElem hk)
    have x3 : ((toks l).drop ((((k + 1 : Nat) : Int) - 1).toNat * 3)).take 3 = l[k].cells := by
      rw [show (((k + 1 : Nat) : Int) - 1).toNat = k by omega]
      exact toks_get (List.getElem?_eq_getElem hk)
    by_cases he : l[k + 1].at' = tbeh l[k]
    · have he2 : l[k + 1].at' = l[k].at' + (2 + l[k].text.length) := he
      refine G_seq (G_seq (G_region ?_))
      refine Gm ?_
      refine Gm ?_
      refine Gv (V_lenS rfl rfl) ?_
      refine Gv (V_lss rfl rfl rfl) ?_
      refine G_end (X_then ?_)
      refine G_cond_t rfl (decide_eq_true (by omega)) ?_
      refine G_skip (X_then (G_seq (G_block (G_seq ?_))))
      refine G_draw mixed (by kernel_rfl) ?_
      refine Q_val (V_move rfl rfl) rfl rfl (.none rfl) ?_
      refine Q_val (V_move rfl rfl) rfl rfl (.none rfl) ?_
      refine Q_val (V_idxAddr rfl rfl rfl (SlE.rd (by assumption)) (by omega) (by omega)) rfl rfl (.none rfl) ?_
      refine Q_val (V_fieldAddrE rfl rfl (by assumption) (by omega) (by decide)) rfl rfl (.none rfl) ?_
      refine Q_val (V_loadS rfl rfl (SlE.rd (by assumption)) x1 (by simp)) rfl rfl (.none rfl) ?_
      refine Q_val (V_move rfl rfl) rfl rfl (.none rfl) ?_
      refine Q_val (V_move rfl rfl) rfl rfl (.none rfl) ?_
      refine Q_val (V_sub_i64 rfl rfl rfl (by omega) (by omega)) rfl rfl (.none rfl) ?_
      refine Q_val (V_idxAddr rfl rfl rfl (SlE.rd (by assumption)) (by omega) (by omega)) rfl rfl (.none rfl) ?_
      refine Q_val (V_fieldAddrE rfl rfl (by assumption) (by omega) (by decide)) rfl rfl (.none rfl) ?_
      refine Q_val (V_loadS rfl rfl (SlE.rd (by assumption)) (by assumption) (by simp)) rfl rfl (.none rfl) ?_
      refine Q_val (V_move rfl rfl) rfl rfl (.none rfl) ?_
      refine Q_val (V_move rfl rfl) rfl rfl (.none rfl) ?_
      refine Q_val (V_sub_i64 rfl rfl rfl (by omega) (by omega)) rfl rfl (.none rfl) ?_
      refine Q_val (V_idxAddr rfl rfl rfl (SlE.rd (by assumption)) (by omega) (by omega)) rfl rfl (.none rfl) ?_
      refine Q_val (V_loadAS rfl rfl (SlE.rd (by assumption)) (by assumption) (by simp) (by rfl)) rfl rfl (.none rfl) ?_
      refine Q_callv (k := 65) (.mk rfl rfl rfl rfl) rfl rfl (.none rfl) (TokSize_call _ _ _ _ _ (by omega)) ?_
      refine Q_val (V_add_i64 rfl rfl rfl (by omega) (by omega)) rfl rfl (.none rfl) ?_
      refine Q_val (V_neq rfl rfl rfl) rfl rfl (.none rfl) ?_
      refine Q_end ?_
      refine X_then ?_
      refine G_cond_f rfl (decide_eq_false (by omega)) ?_
      refine G_skip (X_block (X_then (G_region ?_)))
      refine Gm ?_
      refine Gv (V_add_i64 rfl rfl rfl (by omega) (by omega)) ?_
      refine Ga ?_
      refine G_end (X_then ?_)
      refine G_again (k + 1 + 1) ⟨by omega, .inr (by omega), fun j h1 h2 hj => ?_⟩ (by omega) ⟨rfl, rfl, rfl, trivial⟩ rfl rfl
      by_cases hjk : j = k + 1
      · subst hjk; exact he
      · exact hall j h1 (by omega) hj
    · have he2 : ¬ l[k + 1].at' = l[k].at' + (2 + l[k].text.length) := he
      have h9 : placM at' part.length l e ea = 9 := by
        unfold placM
        rw [if_pos (contB_no (i := k + 1) (by omega) hlt he)]
      rw [h9]
      refine G_seq (G_seq (G_region ?_))
      refine Gm ?_
      refine Gm ?_
      refine Gv (V_lenS rfl rfl) ?_
      refine Gv (V_lss rfl rfl rfl) ?_
      refine G_end (X_then ?_)
      refine G_cond_t rfl (decide_eq_true (by omega)) ?_
      refine G_skip (X_then (G_seq (G_block (G_seq ?_))))
      refine G_draw mixed (by kernel_rfl) ?_
      refine Q_val (V_move rfl rfl) rfl rfl (.none rfl) ?_
      refine Q_val (V_move rfl rfl) rfl rfl (.none rfl) ?_
      refine Q_val (V_idxAddr rfl rfl rfl (SlE.rd (by assumption)) (by omega) (by omega)) rfl rfl (.none rfl) ?_
      refine Q_val (V_fieldAddrE rfl rfl (by assumption) (by omega) (by decide)) rfl rfl (.none rfl) ?_
      refine Q_val (V_loadS rfl rfl (SlE.rd (by assumption)) x1 (by simp)) rfl rfl (.none rfl) ?_
      refine Q_val (V_move rfl rfl) rfl rfl (.none rfl) ?_
      refine Q_val (V_move rfl rfl) rfl rfl (.none rfl) ?_
      refine Q_val (V_sub_i64 rfl rfl rfl (by omega) (by omega)) rfl rfl (.none rfl) ?_
      refine Q_val (V_idxAddr rfl rfl rfl (SlE.rd (by assumption)) (by omega) (by omega)) rfl rfl (.none rfl) ?_
      refine Q_val (V_fieldAddrE rfl rfl (by assumption) (by omega) (by decide)) rfl rfl (.none rfl) ?_
      refine Q_val (V_loadS rfl rfl (SlE.rd (by assumption)) (by assumption) (by simp)) rfl rfl (.none rfl) ?_
      refine Q_val (V_move rfl rfl) rfl rfl (.none rfl) ?_
      refine Q_val (V_move rfl rfl) rfl rfl (.none rfl) ?_
      refine Q_val (V_sub_i64 rfl rfl rfl (by omega) (by omega)) rfl rfl (.none rfl) ?_
      refine Q_val (V_idxAddr rfl rfl rfl (SlE.rd (by assumption)) (by omega) (by omega)) rfl rfl (.none rfl) ?_
      refine Q_val (V_loadAS rfl rfl (SlE.rd (by assumption)) (by assumption) (by simp) (by rfl)) rfl rfl (.none rfl) ?_
      refine Q_callv (k := 65) (.mk rfl rfl rfl rfl) rfl rfl (.none rfl) (TokSize_call _ _ _ _ _ (by omega)) ?_
      refine Q_val (V_add_i64 rfl rfl rfl (by omega) (by omega)) rfl rfl (.none rfl) ?_
      refine Q_val (V_neq rfl rfl rfl) rfl rfl (.none rfl) ?_
      refine Q_end ?_
      refine X_then ?_
      refine G_cond_t rfl (decide_eq_true (by omega)) ?_
      refine G_seq (G_region ?_)
      refine Ga ?_
      refine G_end (X_then (G_ret (X_block_ret (X_then_ret (X_then_ret (X_block_ret (X_then_ret ?_)))))))
      refine G_leaveS (.drop _ (.nil _)) (by exact (.cons (.tmp rfl) (.nil))) rfl ?_ ?_
      · exact (.refl _)
      exact ⟨(by kernel_rfl), rfl⟩
  · have hc : contB l = true := contB_of fun j h1 hj => hall j h1 (by omega) hj
    unfold placM
    rw [if_neg (by rw [hc]; simp)]
    clear hall hi2
    rcases List.eq_nil_or_concat l with rfl | ⟨r, t, rfl⟩
    · obtain rfl : tn = 0 := en
      have he3 : e = 0 ∨ e = 1 ∨ e = 2 := by omega
      simp only [List.length_nil, Nat.lt_irrefl, false_and, or_false]
      rcases he3 with rfl | rfl | rfl
      · rw [if_pos rfl]
        refine G_seq (G_seq (G_region ?_))
        refine Gm ?_
        refine Gm ?_
        refine Gv (V_lenS rfl rfl) ?_
        refine Gv (V_lss rfl rfl rfl) ?_
        refine G_end (X_then ?_)
        refine G_cond_f rfl (decide_eq_false (by omega)) ?_
        refine G_exit (X_then_exit (X_then_exit (X_block_hit (X_then (G_seq (G_region ?_))))))
        refine Gv (V_fieldAddr rfl rfl (by decide)) ?_
        refine Gv (V_fieldAddr rfl rfl (by decide)) ?_
        refine Gv (V_load rfl rfl (Cell.own (.head _) rfl)) ?_
        refine Gv (V_fieldAddr rfl rfl (by decide)) ?_
        refine Gv (V_fieldAddr rfl rfl (by decide)) ?_
        refine Gv (V_load rfl rfl (Cell.own (.head _) rfl)) ?_
        refine Gv (V_len rfl rfl) ?_
        refine Gv (V_sub_i64 rfl rfl rfl (by omega) (by omega)) ?_
        refine Ga ?_
        refine Ga ?_
        refine G_end (X_then (G_seq (G_seq (G_region ?_))))
        refine Gv (V_fieldAddr rfl rfl (by decide)) ?_
        refine Gv (V_fieldAddr rfl rfl (by decide)) ?_
        refine Gv (V_fieldAddr rfl rfl (by decide)) ?_
        refine Gv (V_load rfl rfl (Cell.own (.head _) rfl)) ?_
        refine G_end (X_then (G_block (G_seq (G_region ?_))))
        refine Gv (V_eql rfl rfl rfl) ?_
        refine Ga ?_
        refine G_end (X_then ?_)
        refine G_cond_f rfl (by kernel_rfl) ?_
        refine G_seq (G_region ?_)
        refine Gv (V_eql rfl rfl rfl) ?_
        refine Ga ?_
        refine G_end (X_then ?_)
        refine G_cond_f rfl (by kernel_rfl) ?_
        refine G_skip (X_block (X_then (G_seq (G_region ?_))))
        refine Gm ?_
        refine Ga ?_
        refine G_end (X_then (G_seq (G_seq (G_region ?_))))
        refine Gm ?_
        refine Gv (V_lenS rfl rfl) ?_
        refine Ga ?_
        refine G_end (X_then (G_seq (G_region ?_)))
        refine Gm ?_
        refine Gv (V_gtr rfl rfl rfl) ?_
        refine G_end (X_then ?_)
        refine G_cond_f rfl (by kernel_rfl) ?_
        refine G_skip (X_then (G_seq (G_seq (G_region ?_))))
        refine Gv (V_fieldAddr rfl rfl (by decide)) ?_
        refine Gv (V_fieldAddr rfl rfl (by decide)) ?_
        refine Gv (V_load rfl rfl (Cell.own (.head _) rfl)) ?_
        refine Gv (V_eql rfl rfl rfl) ?_
        refine Gm ?_
        refine G.bool_f 104 rfl (decide_eq_false (by omega)) ?_
        refine Gn ?_
        refine Gn ?_
        refine Gn ?_
        refine Gn ?_
        refine Gn ?_
        refine Gv (V_pick_f rfl rfl rfl) ?_
        refine G_end (X_then ?_)
        refine G_cond_f rfl rfl ?_
        refine G_skip (X_then (G_seq (G_seq (G_region ?_))))
        refine Gm ?_
        refine Gv (V_not rfl rfl) ?_
        refine Gm ?_
        refine G.bool_f 138 rfl (by kernel_rfl) ?_
        refine Gy (V_move rfl rfl) ?_
        refine Gy (V_lss rfl rfl rfl) ?_
        refine Gv (V_pick_f rfl rfl rfl) ?_
        refine Gm ?_
        apply G_joinOr 4 142 146 rfl
        · intro H1
          dsimp only [List.take]
          simp only [Bool.and_eq_true, Bool.or_eq_true, Bool.not_eq_true', Bool.not_eq_false', Bool.and_eq_false_iff, Bool.or_eq_false_iff, Bool.not_not, decide_eq_true_eq, decide_eq_false_iff_not, ne_eq, Decidable.not_not, Bool.decide_eq_true] at H1
          refine Gn ?_
          refine Gn ?_
          refine Gn ?_
          refine Gv (V_pick_t rfl rfl rfl) ?_
          refine G_end ?_
          exact JQ_end 4 rfl rfl (by kernel_rfl)
        · intro H2
          dsimp only [List.take]
          simp only [Bool.and_eq_true, Bool.or_eq_true, Bool.not_eq_true', Bool.not_eq_false', Bool.and_eq_false_iff, Bool.or_eq_false_iff, Bool.not_not, decide_eq_true_eq, decide_eq_false_iff_not, ne_eq, Decidable.not_not, Bool.decide_eq_true] at H2
          refine Gy (V_move rfl rfl) ?_
          refine Gy (V_move rfl rfl) ?_
          refine Gy (V_neq rfl rfl rfl) ?_
          refine Gv (V_pick_f rfl rfl rfl) ?_
          refine G_end ?_
          exact JQ_end 4 rfl rfl (by kernel_rfl)
        dsimp only [List.drop]
        refine G_end (X_then ?_)
        refine G_cond rfl (fun H3 => ?_) (fun H3 => ?_)
        · simp only [Bool.and_eq_true, Bool.or_eq_true, Bool.not_eq_true', Bool.not_eq_false', Bool.and_eq_false_iff, Bool.or_eq_false_iff, Bool.not_not, decide_eq_true_eq, decide_eq_false_iff_not, ne_eq, Decidable.not_not, Bool.decide_eq_true] at H3
          refine G_seq (G_region ?_)
          refine Ga ?_
          refine G_end (X_then (G_ret (X_then_ret ?_)))
          refine G_leaveS (.drop _ (.nil _)) (by exact (.cons (.tmp rfl) (.nil))) rfl ?_ ?_
          · exact (.refl _)
          exact ⟨(by ((try simp only [resVal]); (repeat' split) <;> first | rfl | (exfalso; omega) | (simp_all; done) | (simp_all; omega))), (by rfl)⟩
        simp only [Bool.and_eq_true, Bool.or_eq_true, Bool.not_eq_true', Bool.not_eq_false', Bool.and_eq_false_iff, Bool.or_eq_false_iff, Bool.not_not, decide_eq_true_eq, decide_eq_false_iff_not, ne_eq, Decidable.not_not, Bool.decide_eq_true] at H3
        refine G_skip (X_then (G_seq (G_region ?_)))
        refine Ga ?_
        refine G_end (X_then (G_ret ?_))
        refine G_leaveS (.drop _ (.nil _)) (by exact (.cons (.tmp rfl) (.nil))) rfl ?_ ?_
        · exact (.refl _)
        exact ⟨(by (simp (discharger := omega) only [resVal, if_pos, if_neg]; first | done | rfl)), (by rfl)⟩
      · rw [if_neg (by decide), if_pos rfl]
        refine G_seq (G_seq (G_region ?_))
        refine Gm ?_
        refine Gm ?_
        refine Gv (V_lenS rfl rfl) ?_
        refine Gv (V_lss rfl rfl rfl) ?_
        refine G_end (X_then ?_)
        refine G_cond_f rfl (decide_eq_false (by omega)) ?_
        refine G_exit (X_then_exit (X_then_exit (X_block_hit (X_then (G_seq (G_region ?_))))))
        refine Gv (V_fieldAddr rfl rfl (by decide)) ?_
        refine Gv (V_fieldAddr rfl rfl (by decide)) ?_
        refine Gv (V_load rfl rfl (Cell.own (.head _) rfl)) ?_
        refine Gv (V_fieldAddr rfl rfl (by decide)) ?_
        refine Gv (V_fieldAddr rfl rfl (by decide)) ?_
        refine Gv (V_load rfl rfl (Cell.own (.head _) rfl)) ?_
        refine Gv (V_len rfl rfl) ?_
        refine Gv (V_sub_i64 rfl rfl rfl (by omega) (by omega)) ?_
        refine Ga ?_
        refine Ga ?_
        refine G_end (X_then (G_seq (G_seq (G_region ?_))))
        refine Gv (V_fieldAddr rfl rfl (by decide)) ?_
        refine Gv (V_fieldAddr rfl rfl (by decide)) ?_
        refine Gv (V_fieldAddr rfl rfl (by decide)) ?_
        refine Gv (V_load rfl rfl (Cell.own (.head _) rfl)) ?_
        refine G_end (X_then (G_block (G_seq (G_region ?_))))
        refine Gv (V_eql rfl rfl rfl) ?_
        refine Ga ?_
        refine G_end (X_then ?_)
        refine G_cond_t rfl (by kernel_rfl) ?_
        refine G_seq (G_region ?_)
        refine Gv (V_fieldAddr rfl rfl (by decide)) ?_
        refine Gv (V_fieldAddr rfl rfl (by decide)) ?_
        refine Gv (V_fieldAddr rfl rfl (by decide)) ?_
        refine Gv (V_load rfl rfl (Cell.own (.head _) rfl)) ?_
        refine Ga ?_
        refine G_end (X_then (G_region ?_))
        refine Gv (V_fieldAddr rfl rfl (by decide)) ?_
        refine Gv (V_fieldAddr rfl rfl (by decide)) ?_
        refine Gv (V_load rfl rfl (Cell.own (.head _) rfl)) ?_
        refine Gm ?_
        refine Gv (V_add_i64 rfl rfl rfl (by omega) (by omega)) ?_
        refine Gv (V_geq rfl rfl rfl) ?_
        refine Gm ?_
        apply G_joinAnd 8 62 70 rfl
        · intro H1
          dsimp only [List.take]
          simp only [Bool.and_eq_true, Bool.or_eq_true, Bool.not_eq_true', Bool.not_eq_false', Bool.and_eq_false_iff, Bool.or_eq_false_iff, Bool.not_not, decide_eq_true_eq, decide_eq_false_iff_not, ne_eq, Decidable.not_not, Bool.decide_eq_true] at H1
          refine Gy (V_fieldAddr rfl rfl (by decide)) ?_
          refine Gy (V_fieldAddr rfl rfl (by decide)) ?_
          refine Gy (V_load rfl rfl (Cell.own (.head _) rfl)) ?_
          refine Gy (V_move rfl rfl) ?_
          refine Gy (V_add_i64 rfl rfl rfl (by omega) (by omega)) ?_
          refine Gy (V_add_i64 rfl rfl rfl (by omega) (by omega)) ?_
          refine Gy (V_leq rfl rfl rfl) ?_
          refine Gv (V_pick_t rfl rfl rfl) ?_
          refine G_end ?_
          exact JQ_end 8 rfl rfl (by kernel_rfl)
        · intro H2
          dsimp only [List.take]
          simp only [Bool.and_eq_true, Bool.or_eq_true, Bool.not_eq_true', Bool.not_eq_false', Bool.and_eq_false_iff, Bool.or_eq_false_iff, Bool.not_not, decide_eq_true_eq, decide_eq_false_iff_not, ne_eq, Decidable.not_not, Bool.decide_eq_true] at H2
          refine Gn ?_
          refine Gn ?_
          refine Gn ?_
          refine Gn ?_
          refine Gn ?_
          refine Gn ?_
          refine Gn ?_
          refine Gv (V_pick_f rfl rfl rfl) ?_
          refine G_end ?_
          exact JQ_end 8 rfl rfl (by kernel_rfl)
        dsimp only [List.drop]
        refine Ga ?_
        refine G_end (X_block (X_then (G_seq (G_region ?_))))
        refine Gm ?_
        refine Ga ?_
        refine G_end (X_then (G_seq (G_seq (G_region ?_))))
        refine Gm ?_
        refine Gv (V_lenS rfl rfl) ?_
        refine Ga ?_
        refine G_end (X_then (G_seq (G_region ?_)))
        refine Gm ?_
        refine Gv (V_gtr rfl rfl rfl) ?_
        refine G_end (X_then ?_)
        refine G_cond_f rfl (by kernel_rfl) ?_
        refine G_skip (X_then (G_seq (G_seq (G_region ?_))))
        refine Gv (V_fieldAddr rfl rfl (by decide)) ?_
        refine Gv (V_fieldAddr rfl rfl (by decide)) ?_
        refine Gv (V_load rfl rfl (Cell.own (.head _) rfl)) ?_
        refine Gv (V_eql rfl rfl rfl) ?_
        refine Gm ?_
        refine G.bool_f 104 rfl (decide_eq_false (by omega)) ?_
        refine Gn ?_
        refine Gn ?_
        refine Gn ?_
        refine Gn ?_
        refine Gn ?_
        refine Gv (V_pick_f rfl rfl rfl) ?_
        refine G_end (X_then ?_)
        refine G_cond_f rfl rfl ?_
        refine G_skip (X_then (G_seq (G_seq (G_region ?_))))
        refine Gm ?_
        refine Gv (V_not rfl rfl) ?_
        refine Gm ?_
        apply G_joinOr 3 138 141 rfl
        · intro H3
          dsimp only [List.take]
          simp only [Bool.and_eq_true, Bool.or_eq_true, Bool.not_eq_true', Bool.not_eq_false', Bool.and_eq_false_iff, Bool.or_eq_false_iff, Bool.not_not, decide_eq_true_eq, decide_eq_false_iff_not, ne_eq, Decidable.not_not, Bool.decide_eq_true] at H3
          refine Gn ?_
          refine Gn ?_
          refine Gv (V_pick_t rfl rfl rfl) ?_
          refine G_end ?_
          exact JQ_end 3 rfl rfl (by kernel_rfl)
        · intro H4
          dsimp only [List.take]
          simp only [Bool.and_eq_true, Bool.or_eq_true, Bool.not_eq_true', Bool.not_eq_false', Bool.and_eq_false_iff, Bool.or_eq_false_iff, Bool.not_not, decide_eq_true_eq, decide_eq_false_iff_not, ne_eq, Decidable.not_not, Bool.decide_eq_true] at H4
          refine Gy (V_move rfl rfl) ?_
          refine Gy (V_lss rfl rfl rfl) ?_
          refine Gv (V_pick_f rfl rfl rfl) ?_
          refine G_end ?_
          exact JQ_end 3 rfl rfl (by kernel_rfl)
        dsimp only [List.drop]
        refine Gm ?_
        apply G_joinOr 4 142 146 rfl
        · intro H5
          dsimp only [List.take]
          simp only [Bool.and_eq_true, Bool.or_eq_true, Bool.not_eq_true', Bool.not_eq_false', Bool.and_eq_false_iff, Bool.or_eq_false_iff, Bool.not_not, decide_eq_true_eq, decide_eq_false_iff_not, ne_eq, Decidable.not_not, Bool.decide_eq_true] at H5
          refine Gn ?_
          refine Gn ?_
          refine Gn ?_
          refine Gv (V_pick_t rfl rfl rfl) ?_
          refine G_end ?_
          exact JQ_end 4 rfl rfl (by kernel_rfl)
        · intro H6
          dsimp only [List.take]
          simp only [Bool.and_eq_true, Bool.or_eq_true, Bool.not_eq_true', Bool.not_eq_false', Bool.and_eq_false_iff, Bool.or_eq_false_iff, Bool.not_not, decide_eq_true_eq, decide_eq_false_iff_not, ne_eq, Decidable.not_not, Bool.decide_eq_true] at H6
          refine Gy (V_move rfl rfl) ?_
          refine Gy (V_move rfl rfl) ?_
          refine Gy (V_neq rfl rfl rfl) ?_
          refine Gv (V_pick_f rfl rfl rfl) ?_
          refine G_end ?_
          exact JQ_end 4 rfl rfl (by kernel_rfl)
        dsimp only [List.drop]
        refine G_end (X_then ?_)
        refine G_cond rfl (fun H7 => ?_) (fun H7 => ?_)
        · simp only [Bool.and_eq_true, Bool.or_eq_true, Bool.not_eq_true', Bool.not_eq_false', Bool.and_eq_false_iff, Bool.or_eq_false_iff, Bool.not_not, decide_eq_true_eq, decide_eq_false_iff_not, ne_eq, Decidable.not_not, Bool.decide_eq_true] at H7
          refine G_seq (G_region ?_)
          refine Ga ?_
          refine G_end (X_then (G_ret (X_then_ret ?_)))
          refine G_leaveS (.drop _ (.nil _)) (by exact (.cons (.tmp rfl) (.nil))) rfl ?_ ?_
          · exact (.refl _)
          exact ⟨(by ((try simp only [resVal]); (repeat' split) <;> first | rfl | (exfalso; omega) | (simp_all; done) | (simp_all; omega))), (by rfl)⟩
        simp only [Bool.and_eq_true, Bool.or_eq_true, Bool.not_eq_true', Bool.not_eq_false', Bool.and_eq_false_iff, Bool.or_eq_false_iff, Bool.not_not, decide_eq_true_eq, decide_eq_false_iff_not, ne_eq, Decidable.not_not, Bool.decide_eq_true] at H7
        refine G_skip (X_then (G_seq (G_region ?_)))
        refine Ga ?_
        refine G_end (X_then (G_ret ?_))
        refine G_leaveS (.drop _ (.nil _)) (by exact (.cons (.tmp rfl) (.nil))) rfl ?_ ?_
        · exact (.refl _)
        exact ⟨(by (simp (discharger := omega) only [resVal, if_pos, if_neg]; first | done | rfl)), (by rfl)⟩
      · rw [if_neg (by decide), if_neg (by decide)]
        refine G_seq (G_seq (G_region ?_))
        refine Gm ?_
        refine Gm ?_
        refine Gv (V_lenS rfl rfl) ?_
        refine Gv (V_lss rfl rfl rfl) ?_
        refine G_end (X_then ?_)
        refine G_cond_f rfl (decide_eq_false (by omega)) ?_
        refine G_exit (X_then_exit (X_then_exit (X_block_hit (X_then (G_seq (G_region ?_))))))
        refine Gv (V_fieldAddr rfl rfl (by decide)) ?_
        refine Gv (V_fieldAddr rfl rfl (by decide)) ?_
        refine Gv (V_load rfl rfl (Cell.own (.head _) rfl)) ?_
        refine Gv (V_fieldAddr rfl rfl (by decide)) ?_
        refine Gv (V_fieldAddr rfl rfl (by decide)) ?_
        refine Gv (V_load rfl rfl (Cell.own (.head _) rfl)) ?_
        refine Gv (V_len rfl rfl) ?_
        refine Gv (V_sub_i64 rfl rfl rfl (by omega) (by omega)) ?_
        refine Ga ?_
        refine Ga ?_
        refine G_end (X_then (G_seq (G_seq (G_region ?_))))
        refine Gv (V_fieldAddr rfl rfl (by decide)) ?_
        refine Gv (V_fieldAddr rfl rfl (by decide)) ?_
        refine Gv (V_fieldAddr rfl rfl (by decide)) ?_
        refine Gv (V_load rfl rfl (Cell.own (.head _) rfl)) ?_
        refine G_end (X_then (G_block (G_seq (G_region ?_))))
        refine Gv (V_eql rfl rfl rfl) ?_
        refine Ga ?_
        refine G_end (X_then ?_)
        refine G_cond_f rfl (by kernel_rfl) ?_
        refine G_seq (G_region ?_)
        refine Gv (V_eql rfl rfl rfl) ?_
        refine Ga ?_
        refine G_end (X_then ?_)
        refine G_cond_t rfl (by kernel_rfl) ?_
        refine G_seq (G_region ?_)
        refine Gv (V_fieldAddr rfl rfl (by decide)) ?_
        refine Gv (V_fieldAddr rfl rfl (by decide)) ?_
        refine Gv (V_fieldAddr rfl rfl (by decide)) ?_
        refine Gv (V_load rfl rfl (Cell.own (.head _) rfl)) ?_
        refine Ga ?_
        refine G_end (X_then (G_region ?_))
        refine Gv (V_fieldAddr rfl rfl (by decide)) ?_
        refine Gv (V_fieldAddr rfl rfl (by decide)) ?_
        refine Gv (V_load rfl rfl (Cell.own (.head _) rfl)) ?_
        refine Gm ?_
        refine Gv (V_eql rfl rfl rfl) ?_
        refine Ga ?_
        refine G_end (X_block (X_then (G_seq (G_region ?_))))
        refine Gm ?_
        refine Ga ?_
        refine G_end (X_then (G_seq (G_seq (G_region ?_))))
        refine Gm ?_
        refine Gv (V_lenS rfl rfl) ?_
        refine Ga ?_
        refine G_end (X_then (G_seq (G_region ?_)))
        refine Gm ?_
        refine Gv (V_gtr rfl rfl rfl) ?_
        refine G_end (X_then ?_)
        refine G_cond_f rfl (by kernel_rfl) ?_
        refine G_skip (X_then (G_seq (G_seq (G_region ?_))))
        refine Gv (V_fieldAddr rfl rfl (by decide)) ?_
        refine Gv (V_fieldAddr rfl rfl (by decide)) ?_
        refine Gv (V_load rfl rfl (Cell.own (.head _) rfl)) ?_
        refine Gv (V_eql rfl rfl rfl) ?_
        refine Gm ?_
        refine G.bool_f 104 rfl (decide_eq_false (by omega)) ?_
        refine Gn ?_
        refine Gn ?_
        refine Gn ?_
        refine Gn ?_
        refine Gn ?_
        refine Gv (V_pick_f rfl rfl rfl) ?_
        refine G_end (X_then ?_)
        refine G_cond_f rfl rfl ?_
        refine G_skip (X_then (G_seq (G_seq (G_region ?_))))
        refine Gm ?_
        refine Gv (V_not rfl rfl) ?_
        refine Gm ?_
        apply G_joinOr 3 138 141 rfl
        · intro H1
          dsimp only [List.take]
          simp only [Bool.and_eq_true, Bool.or_eq_true, Bool.not_eq_true', Bool.not_eq_false', Bool.and_eq_false_iff, Bool.or_eq_false_iff, Bool.not_not, decide_eq_true_eq, decide_eq_false_iff_not, ne_eq, Decidable.not_not, Bool.decide_eq_true] at H1
          refine Gn ?_
          refine Gn ?_
          refine Gv (V_pick_t rfl rfl rfl) ?_
          refine G_end ?_
          exact JQ_end 3 rfl rfl (by kernel_rfl)
        · intro H2
          dsimp only [List.take]
          simp only [Bool.and_eq_true, Bool.or_eq_true, Bool.not_eq_true', Bool.not_eq_false', Bool.and_eq_false_iff, Bool.or_eq_false_iff, Bool.not_not, decide_eq_true_eq, decide_eq_false_iff_not, ne_eq, Decidable.not_not, Bool.decide_eq_true] at H2
          refine Gy (V_move rfl rfl) ?_
          refine Gy (V_lss rfl rfl rfl) ?_
          refine Gv (V_pick_f rfl rfl rfl) ?_
          refine G_end ?_
          exact JQ_end 3 rfl rfl (by kernel_rfl)
        dsimp only [List.drop]
        refine Gm ?_
        apply G_joinOr 4 142 146 rfl
        · intro H3
          dsimp only [List.take]
          simp only [Bool.and_eq_true, Bool.or_eq_true, Bool.not_eq_true', Bool.not_eq_false', Bool.and_eq_false_iff, Bool.or_eq_false_iff, Bool.not_not, decide_eq_true_eq, decide_eq_false_iff_not, ne_eq, Decidable.not_not, Bool.decide_eq_true] at H3
          refine Gn ?_
          refine Gn ?_
          refine Gn ?_
          refine Gv (V_pick_t rfl rfl rfl) ?_
          refine G_end ?_
          exact JQ_end 4 rfl rfl (by kernel_rfl)
        · intro H4
          dsimp only [List.take]
          simp only [Bool.and_eq_true, Bool.or_eq_true, Bool.not_eq_true', Bool.not_eq_false', Bool.and_eq_false_iff, Bool.or_eq_false_iff, Bool.not_not, decide_eq_true_eq, decide_eq_false_iff_not, ne_eq, Decidable.not_not, Bool.decide_eq_true] at H4
          refine Gy (V_move rfl rfl) ?_
          refine Gy (V_move rfl rfl) ?_
          refine Gy (V_neq rfl rfl rfl) ?_
          refine Gv (V_pick_f rfl rfl rfl) ?_
          refine G_end ?_
          exact JQ_end 4 rfl rfl (by kernel_rfl)
        dsimp only [List.drop]
        refine G_end (X_then ?_)
        refine G_cond rfl (fun H5 => ?_) (fun H5 => ?_)
        · simp only [Bool.and_eq_true, Bool.or_eq_true, Bool.not_eq_true', Bool.not_eq_false', Bool.and_eq_false_iff, Bool.or_eq_false_iff, Bool.not_not, decide_eq_true_eq, decide_eq_false_iff_not, ne_eq, Decidable.not_not, Bool.decide_eq_true] at H5
          refine G_seq (G_region ?_)
          refine Ga ?_
          refine G_end (X_then (G_ret (X_then_ret ?_)))
          refine G_leaveS (.drop _ (.nil _)) (by exact (.cons (.tmp rfl) (.nil))) rfl ?_ ?_
          · exact (.refl _)
          exact ⟨(by ((try simp only [resVal]); (repeat' split) <;> first | rfl | (exfalso; omega) | (simp_all; done) | (simp_all; omega))), (by rfl)⟩
        simp only [Bool.and_eq_true, Bool.or_eq_true, Bool.not_eq_true', Bool.not_eq_false', Bool.and_eq_false_iff, Bool.or_eq_false_iff, Bool.not_not, decide_eq_true_eq, decide_eq_false_iff_not, ne_eq, Decidable.not_not, Bool.decide_eq_true] at H5
        refine G_skip (X_then (G_seq (G_region ?_)))
        refine Ga ?_
        refine G_end (X_then (G_ret ?_))
        refine G_leaveS (.drop _ (.nil _)) (by exact (.cons (.tmp rfl) (.nil))) rfl ?_ ?_
        · exact (.refl _)
        exact ⟨(by (simp (discharger := omega) only [resVal, if_pos, if_neg]; first | done | rfl)), (by rfl)⟩
    · rw [List.concat_eq_append] at *
      obtain rfl : tn = r.length + 1 := by rw [en, List.length_append]; rfl
      have q1 := tokB_iff.1 (g6 t (by simp))
      obtain ⟨q11, q12, q13, q14, q15⟩ := q1
      have hln : (r ++ [t]).length = r.length + 1 := by simp
      have hte : tend (r ++ [t]) = t.at' + (2 + t.text.length) := tend_snoc r t
      rw [hte]
      have x2 : (toks (r ++ [t]))[(((r.length + 1 : Nat) : Int) - 1).toNat * 3 + 2]? = some (.int .i64 t.at') := by
        rw [show (((r.length + 1 : Nat) : Int) - 1).toNat = r.length by omega]
        exact toks_at (by simp)
      have x3 : ((toks (r ++ [t])).drop ((((r.length + 1 : Nat) : Int) - 1).toNat * 3)).take 3 = t.cells := by
        rw [show (((r.length + 1 : Nat) : Int) - 1).toNat = r.length by omega]
        exact toks_get (by simp)
      have hlt2 : ¬ (i : Int) < ((r.length + 1 : Nat) : Int) := by omega
      clear hlt
      have he3 : e = 0 ∨ e = 1 ∨ e = 2 := by omega
      have hpos : 0 < (r ++ [t]).length := by omega
      simp only [hpos, true_and]
      clear hc g13 g12 g7 g6 hg
      rcases he3 with rfl | rfl | rfl
      · rw [if_pos rfl]
        refine G_seq (G_seq (G_region ?_))
        refine Gm ?_
        refine Gm ?_
        refine Gv (V_lenS rfl rfl) ?_
        refine Gv (V_lss rfl rfl rfl) ?_
        refine G_end (X_then ?_)
        refine G_cond_f rfl (decide_eq_false (by omega)) ?_
        refine G_exit (X_then_exit (X_then_exit (X_block_hit (X_then (G_seq (G_region ?_))))))
        refine Gv (V_fieldAddr rfl rfl (by decide)) ?_
        refine Gv (V_fieldAddr rfl rfl (by decide)) ?_
        refine Gv (V_load rfl rfl (Cell.own (.head _) rfl)) ?_
        refine Gv (V_fieldAddr rfl rfl (by decide)) ?_
        refine Gv (V_fieldAddr rfl rfl (by decide)) ?_
        refine Gv (V_load rfl rfl (Cell.own (.head _) rfl)) ?_
        refine Gv (V_len rfl rfl) ?_
        refine Gv (V_sub_i64 rfl rfl rfl (by omega) (by omega)) ?_
        refine Ga ?_
        refine Ga ?_
        refine G_end (X_then (G_seq (G_seq (G_region ?_))))
        refine Gv (V_fieldAddr rfl rfl (by decide)) ?_
        refine Gv (V_fieldAddr rfl rfl (by decide)) ?_
        refine Gv (V_fieldAddr rfl rfl (by decide)) ?_
        refine Gv (V_load rfl rfl (Cell.own (.head _) rfl)) ?_
        refine G_end (X_then (G_block (G_seq (G_region ?_))))
        refine Gv (V_eql rfl rfl rfl) ?_
        refine Ga ?_
        refine G_end (X_then ?_)
        refine G_cond_f rfl (by kernel_rfl) ?_
        refine G_seq (G_region ?_)
        refine Gv (V_eql rfl rfl rfl) ?_
        refine Ga ?_
        refine G_end (X_then ?_)
        refine G_cond_f rfl (by kernel_rfl) ?_
        refine G_skip (X_block (X_then (G_seq (G_region ?_))))
        refine Gm ?_
        refine Ga ?_
        refine G_end (X_then (G_seq (G_seq (G_region ?_))))
        refine Gm ?_
        refine Gv (V_lenS rfl rfl) ?_
        refine Ga ?_
        refine G_end (X_then (G_seq (G_region ?_)))
        refine Gm ?_
        refine Gv (V_gtr rfl rfl rfl) ?_
        refine G_end (X_then ?_)
        refine G_cond_t rfl (decide_eq_true (by omega)) ?_
        refine G_draw mixed (by kernel_rfl) ?_
        refine Q_val (V_move rfl rfl) rfl rfl (.none rfl) ?_
        refine Q_val (V_move rfl rfl) rfl rfl (.none rfl) ?_
        refine Q_val (V_sub_i64 rfl rfl rfl (by omega) (by omega)) rfl rfl (.none rfl) ?_
        refine Q_val (V_idxAddr rfl rfl rfl (SlE.rd (by assumption)) (by omega) (by omega)) rfl rfl (.none rfl) ?_
        refine Q_val (V_fieldAddrE rfl rfl (by assumption) (by omega) (by decide)) rfl rfl (.none rfl) ?_
        refine Q_val (V_loadS rfl rfl (SlE.rd (by assumption)) (by assumption) (by simp)) rfl rfl (.none rfl) ?_
        refine Q_val (V_move rfl rfl) rfl rfl (.none rfl) ?_
        refine Q_val (V_move rfl rfl) rfl rfl (.none rfl) ?_
        refine Q_val (V_sub_i64 rfl rfl rfl (by omega) (by omega)) rfl rfl (.none rfl) ?_
        refine Q_val (V_idxAddr rfl rfl rfl (SlE.rd (by assumption)) (by omega) (by omega)) rfl rfl (.none rfl) ?_
        refine Q_val (V_loadAS rfl rfl (SlE.rd (by assumption)) (by assumption) (by simp) (by rfl)) rfl rfl (.none rfl) ?_
        refine Q_callv (k := 65) (.mk rfl rfl rfl rfl) rfl rfl (.none rfl) (TokSize_call _ _ _ _ _ (by omega)) ?_
        refine Q_val (V_add_i64 rfl rfl rfl (by omega) (by omega)) rfl rfl (.none rfl) ?_
        refine Q_val (V_assign rfl rfl) rfl rfl (.none rfl) ?_
        refine Q_end ?_
        refine X_then (G_seq (G_seq (G_region ?_)))
        refine Gv (V_fieldAddr rfl rfl (by decide)) ?_
        refine Gv (V_fieldAddr rfl rfl (by decide)) ?_
        refine Gv (V_load rfl rfl (Cell.own (.head _) rfl)) ?_
        refine Gv (V_eql rfl rfl rfl) ?_
        refine Gm ?_
        refine G.bool_f 104 rfl (decide_eq_false (by omega)) ?_
        refine Gn ?_
        refine Gn ?_
        refine Gn ?_
        refine Gn ?_
        refine Gn ?_
        refine Gv (V_pick_f rfl rfl rfl) ?_
        refine G_end (X_then ?_)
        refine G_cond_f rfl rfl ?_
        refine G_skip (X_then (G_seq (G_seq (G_region ?_))))
        refine Gm ?_
        refine Gv (V_not rfl rfl) ?_
        refine Gm ?_
        refine G.bool_f 138 rfl (by kernel_rfl) ?_
        refine Gy (V_move rfl rfl) ?_
        refine Gy (V_lss rfl rfl rfl) ?_
        refine Gv (V_pick_f rfl rfl rfl) ?_
        refine Gm ?_
        apply G_joinOr 4 142 146 rfl
        · intro H1
          dsimp only [List.take]
          simp only [Bool.and_eq_true, Bool.or_eq_true, Bool.not_eq_true', Bool.not_eq_false', Bool.and_eq_false_iff, Bool.or_eq_false_iff, Bool.not_not, decide_eq_true_eq, decide_eq_false_iff_not, ne_eq, Decidable.not_not, Bool.decide_eq_true] at H1
          refine Gn ?_
          refine Gn ?_
          refine Gn ?_
          refine Gv (V_pick_t rfl rfl rfl) ?_
          refine G_end ?_
          exact JQ_end 4 rfl rfl (by kernel_rfl)
        · intro H2
          dsimp only [List.take]
          simp only [Bool.and_eq_true, Bool.or_eq_true, Bool.not_eq_true', Bool.not_eq_false', Bool.and_eq_false_iff, Bool.or_eq_false_iff, Bool.not_not, decide_eq_true_eq, decide_eq_false_iff_not, ne_eq, Decidable.not_not, Bool.decide_eq_true] at H2
          refine Gy (V_move rfl rfl) ?_
          refine Gy (V_move rfl rfl) ?_
          refine Gy (V_neq rfl rfl rfl) ?_
          refine Gv (V_pick_f rfl rfl rfl) ?_
          refine G_end ?_
          exact JQ_end 4 rfl rfl (by kernel_rfl)
        dsimp only [List.drop]
        refine G_end (X_then ?_)
        refine G_cond rfl (fun H3 => ?_) (fun H3 => ?_)
        · simp only [Bool.and_eq_true, Bool.or_eq_true, Bool.not_eq_true', Bool.not_eq_false', Bool.and_eq_false_iff, Bool.or_eq_false_iff, Bool.not_not, decide_eq_true_eq, decide_eq_false_iff_not, ne_eq, Decidable.not_not, Bool.decide_eq_true] at H3
          refine G_seq (G_region ?_)
          refine Ga ?_
          refine G_end (X_then (G_ret (X_then_ret ?_)))
          refine G_leaveS (.drop _ (.nil _)) (by exact (.cons (.tmp rfl) (.nil))) rfl ?_ ?_
          · exact (.refl _)
          exact ⟨(by (simp (discharger := omega) only [resVal, if_pos, if_neg]; first | done | rfl)), (by rfl)⟩
        simp only [Bool.and_eq_true, Bool.or_eq_true, Bool.not_eq_true', Bool.not_eq_false', Bool.and_eq_false_iff, Bool.or_eq_false_iff, Bool.not_not, decide_eq_true_eq, decide_eq_false_iff_not, ne_eq, Decidable.not_not, Bool.decide_eq_true] at H3
        refine G_skip (X_then (G_seq (G_region ?_)))
        refine Ga ?_
        refine G_end (X_then (G_ret ?_))
        refine G_leaveS (.drop _ (.nil _)) (by exact (.cons (.tmp rfl) (.nil))) rfl ?_ ?_
        · exact (.refl _)
        exact ⟨(by (simp (discharger := omega) only [resVal, if_pos, if_neg]; first | done | rfl)), (by rfl)⟩
      · rw [if_neg (by decide), if_pos rfl]
        refine G_seq (G_seq (G_region ?_))
        refine Gm ?_
        refine Gm ?_
        refine Gv (V_lenS rfl rfl) ?_
        refine Gv (V_lss rfl rfl rfl) ?_
        refine G_end (X_then ?_)
        refine G_cond_f rfl (decide_eq_false (by omega)) ?_
        refine G_exit (X_then_exit (X_then_exit (X_block_hit (X_then (G_seq (G_region ?_))))))
        refine Gv (V_fieldAddr rfl rfl (by decide)) ?_
        refine Gv (V_fieldAddr rfl rfl (by decide)) ?_
        refine Gv (V_load rfl rfl (Cell.own (.head _) rfl)) ?_
        refine Gv (V_fieldAddr rfl rfl (by decide)) ?_
        refine Gv (V_fieldAddr rfl rfl (by decide)) ?_
        refine Gv (V_load rfl rfl (Cell.own (.head _) rfl)) ?_
        refine Gv (V_len rfl rfl) ?_
        refine Gv (V_sub_i64 rfl rfl rfl (by omega) (by omega)) ?_
        refine Ga ?_
        refine Ga ?_
        refine G_end (X_then (G_seq (G_seq (G_region ?_))))
        refine Gv (V_fieldAddr rfl rfl (by decide)) ?_
        refine Gv (V_fieldAddr rfl rfl (by decide)) ?_
        refine Gv (V_fieldAddr rfl rfl (by decide)) ?_
        refine Gv (V_load rfl rfl (Cell.own (.head _) rfl)) ?_
        refine G_end (X_then (G_block (G_seq (G_region ?_))))
        refine Gv (V_eql rfl rfl rfl) ?_
        refine Ga ?_
        refine G_end (X_then ?_)
        refine G_cond_t rfl (by kernel_rfl) ?_
        refine G_seq (G_region ?_)
        refine Gv (V_fieldAddr rfl rfl (by decide)) ?_
        refine Gv (V_fieldAddr rfl rfl (by decide)) ?_
        refine Gv (V_fieldAddr rfl rfl (by decide)) ?_
        refine Gv (V_load rfl rfl (Cell.own (.head _) rfl)) ?_
        refine Ga ?_
        refine G_end (X_then (G_region ?_))
        refine Gv (V_fieldAddr rfl rfl (by decide)) ?_
        refine Gv (V_fieldAddr rfl rfl (by decide)) ?_
        refine Gv (V_load rfl rfl (Cell.own (.head _) rfl)) ?_
        refine Gm ?_
        refine Gv (V_add_i64 rfl rfl rfl (by omega) (by omega)) ?_
        refine Gv (V_geq rfl rfl rfl) ?_
        refine Gm ?_
        apply G_joinAnd 8 62 70 rfl
        · intro H1
          dsimp only [List.take]
          simp only [Bool.and_eq_true, Bool.or_eq_true, Bool.not_eq_true', Bool.not_eq_false', Bool.and_eq_false_iff, Bool.or_eq_false_iff, Bool.not_not, decide_eq_true_eq, decide_eq_false_iff_not, ne_eq, Decidable.not_not, Bool.decide_eq_true] at H1
          refine Gy (V_fieldAddr rfl rfl (by decide)) ?_
          refine Gy (V_fieldAddr rfl rfl (by decide)) ?_
          refine Gy (V_load rfl rfl (Cell.own (.head _) rfl)) ?_
          refine Gy (V_move rfl rfl) ?_
          refine Gy (V_add_i64 rfl rfl rfl (by omega) (by omega)) ?_
          refine Gy (V_add_i64 rfl rfl rfl (by omega) (by omega)) ?_
          refine Gy (V_leq rfl rfl rfl) ?_
          refine Gv (V_pick_t rfl rfl rfl) ?_
          refine G_end ?_
          exact JQ_end 8 rfl rfl (by kernel_rfl)
        · intro H2
          dsimp only [List.take]
          simp only [Bool.and_eq_true, Bool.or_eq_true, Bool.not_eq_true', Bool.not_eq_false', Bool.and_eq_false_iff, Bool.or_eq_false_iff, Bool.not_not, decide_eq_true_eq, decide_eq_false_iff_not, ne_eq, Decidable.not_not, Bool.decide_eq_true] at H2
          refine Gn ?_
          refine Gn ?_
          refine Gn ?_
          refine Gn ?_
          refine Gn ?_
          refine Gn ?_
          refine Gn ?_
          refine Gv (V_pick_f rfl rfl rfl) ?_
          refine G_end ?_
          exact JQ_end 8 rfl rfl (by kernel_rfl)
        dsimp only [List.drop]
        refine Ga ?_
        refine G_end (X_block (X_then (G_seq (G_region ?_))))
        refine Gm ?_
        refine Ga ?_
        refine G_end (X_then (G_seq (G_seq (G_region ?_))))
        refine Gm ?_
        refine Gv (V_lenS rfl rfl) ?_
        refine Ga ?_
        refine G_end (X_then (G_seq (G_region ?_)))
        refine Gm ?_
        refine Gv (V_gtr rfl rfl rfl) ?_
        refine G_end (X_then ?_)
        refine G_cond_t rfl (decide_eq_true (by omega)) ?_
        refine G_draw mixed (by kernel_rfl) ?_
        refine Q_val (V_move rfl rfl) rfl rfl (.none rfl) ?_
        refine Q_val (V_move rfl rfl) rfl rfl (.none rfl) ?_
        refine Q_val (V_sub_i64 rfl rfl rfl (by omega) (by omega)) rfl rfl (.none rfl) ?_
        refine Q_val (V_idxAddr rfl rfl rfl (SlE.rd (by assumption)) (by omega) (by omega)) rfl rfl (.none rfl) ?_
        refine Q_val (V_fieldAddrE rfl rfl (by assumption) (by omega) (by decide)) rfl rfl (.none rfl) ?_
        refine Q_val (V_loadS rfl rfl (SlE.rd (by assumption)) (by assumption) (by simp)) rfl rfl (.none rfl) ?_
        refine Q_val (V_move rfl rfl) rfl rfl (.none rfl) ?_
        refine Q_val (V_move rfl rfl) rfl rfl (.none rfl) ?_
        refine Q_val (V_sub_i64 rfl rfl rfl (by omega) (by omega)) rfl rfl (.none rfl) ?_
        refine Q_val (V_idxAddr rfl rfl rfl (SlE.rd (by assumption)) (by omega) (by omega)) rfl rfl (.none rfl) ?_
        refine Q_val (V_loadAS rfl rfl (SlE.rd (by assumption)) (by assumption) (by simp) (by rfl)) rfl rfl (.none rfl) ?_
        refine Q_callv (k := 65) (.mk rfl rfl rfl rfl) rfl rfl (.none rfl) (TokSize_call _ _ _ _ _ (by omega)) ?_
        refine Q_val (V_add_i64 rfl rfl rfl (by omega) (by omega)) rfl rfl (.none rfl) ?_
        refine Q_val (V_assign rfl rfl) rfl rfl (.none rfl) ?_
        refine Q_end ?_
        refine X_then (G_seq (G_seq (G_region ?_)))
        refine Gv (V_fieldAddr rfl rfl (by decide)) ?_
        refine Gv (V_fieldAddr rfl rfl (by decide)) ?_
        refine Gv (V_load rfl rfl (Cell.own (.head _) rfl)) ?_
        refine Gv (V_eql rfl rfl rfl) ?_
        refine Gm ?_
        refine G.bool_f 104 rfl (decide_eq_false (by omega)) ?_
        refine Gn ?_
        refine Gn ?_
        refine Gn ?_
        refine Gn ?_
        refine Gn ?_
        refine Gv (V_pick_f rfl rfl rfl) ?_
        refine G_end (X_then ?_)
        refine G_cond_f rfl rfl ?_
        refine G_skip (X_then (G_seq (G_seq (G_region ?_))))
        refine Gm ?_
        refine Gv (V_not rfl rfl) ?_
        refine Gm ?_
        apply G_joinOr 3 138 141 rfl
        · intro H3
          dsimp only [List.take]
          simp only [Bool.and_eq_true, Bool.or_eq_true, Bool.not_eq_true', Bool.not_eq_false', Bool.and_eq_false_iff, Bool.or_eq_false_iff, Bool.not_not, decide_eq_true_eq, decide_eq_false_iff_not, ne_eq, Decidable.not_not, Bool.decide_eq_true] at H3
          refine Gn ?_
          refine Gn ?_
          refine Gv (V_pick_t rfl rfl rfl) ?_
          refine G_end ?_
          exact JQ_end 3 rfl rfl (by kernel_rfl)
        · intro H4
          dsimp only [List.take]
          simp only [Bool.and_eq_true, Bool.or_eq_true, Bool.not_eq_true', Bool.not_eq_false', Bool.and_eq_false_iff, Bool.or_eq_false_iff, Bool.not_not, decide_eq_true_eq, decide_eq_false_iff_not, ne_eq, Decidable.not_not, Bool.decide_eq_true] at H4
          refine Gy (V_move rfl rfl) ?_
          refine Gy (V_lss rfl rfl rfl) ?_
          refine Gv (V_pick_f rfl rfl rfl) ?_
          refine G_end ?_
          exact JQ_end 3 rfl rfl (by kernel_rfl)
        dsimp only [List.drop]
        refine Gm ?_
        apply G_joinOr 4 142 146 rfl
        · intro H5
          dsimp only [List.take]
          simp only [Bool.and_eq_true, Bool.or_eq_true, Bool.not_eq_true', Bool.not_eq_false', Bool.and_eq_false_iff, Bool.or_eq_false_iff, Bool.not_not, decide_eq_true_eq, decide_eq_false_iff_not, ne_eq, Decidable.not_not, Bool.decide_eq_true] at H5
          refine Gn ?_
          refine Gn ?_
          refine Gn ?_
          refine Gv (V_pick_t rfl rfl rfl) ?_
          refine G_end ?_
          exact JQ_end 4 rfl rfl (by kernel_rfl)
        · intro H6
          dsimp only [List.take]
          simp only [Bool.and_eq_true, Bool.or_eq_true, Bool.not_eq_true', Bool.not_eq_false', Bool.and_eq_false_iff, Bool.or_eq_false_iff, Bool.not_not, decide_eq_true_eq, decide_eq_false_iff_not, ne_eq, Decidable.not_not, Bool.decide_eq_true] at H6
          refine Gy (V_move rfl rfl) ?_
          refine Gy (V_move rfl rfl) ?_
          refine Gy (V_neq rfl rfl rfl) ?_
          refine Gv (V_pick_f rfl rfl rfl) ?_
          refine G_end ?_
          exact JQ_end 4 rfl rfl (by kernel_rfl)
        dsimp only [List.drop]
        refine G_end (X_then ?_)
        refine G_cond rfl (fun H7 => ?_) (fun H7 => ?_)
        · simp only [Bool.and_eq_true, Bool.or_eq_true, Bool.not_eq_true', Bool.not_eq_false', Bool.and_eq_false_iff, Bool.or_eq_false_iff, Bool.not_not, decide_eq_true_eq, decide_eq_false_iff_not, ne_eq, Decidable.not_not, Bool.decide_eq_true] at H7
          refine G_seq (G_region ?_)
          refine Ga ?_
          refine G_end (X_then (G_ret (X_then_ret ?_)))
          refine G_leaveS (.drop _ (.nil _)) (by exact (.cons (.tmp rfl) (.nil))) rfl ?_ ?_
          · exact (.refl _)
          exact ⟨(by (simp (discharger := omega) only [resVal, if_pos, if_neg]; first | done | rfl)), (by rfl)⟩
        simp only [Bool.and_eq_true, Bool.or_eq_true, Bool.not_eq_true', Bool.not_eq_false', Bool.and_eq_false_iff, Bool.or_eq_false_iff, Bool.not_not, decide_eq_true_eq, decide_eq_false_iff_not, ne_eq, Decidable.not_not, Bool.decide_eq_true] at H7
        refine G_skip (X_then (G_seq (G_region ?_)))
        refine Ga ?_
        refine G_end (X_then (G_ret ?_))
        refine G_leaveS (.drop _ (.nil _)) (by exact (.cons (.tmp rfl) (.nil))) rfl ?_ ?_
        · exact (.refl _)
        exact ⟨(by (simp (discharger := omega) only [resVal, if_pos, if_neg]; first | done | rfl)), (by rfl)⟩
      · rw [if_neg (by decide), if_neg (by decide)]
        refine G_seq (G_seq (G_region ?_))
        refine Gm ?_
        refine Gm ?_
        refine Gv (V_lenS rfl rfl) ?_
        refine Gv (V_lss rfl rfl rfl) ?_
        refine G_end (X_then ?_)
        refine G_cond_f rfl (decide_eq_false (by omega)) ?_
        refine G_exit (X_then_exit (X_then_exit (X_block_hit (X_then (G_seq (G_region ?_))))))
        refine Gv (V_fieldAddr rfl rfl (by decide)) ?_
        refine Gv (V_fieldAddr rfl rfl (by decide)) ?_
        refine Gv (V_load rfl rfl (Cell.own (.head _) rfl)) ?_
        refine Gv (V_fieldAddr rfl rfl (by decide)) ?_
        refine Gv (V_fieldAddr rfl rfl (by decide)) ?_
        refine Gv (V_load rfl rfl (Cell.own (.head _) rfl)) ?_
        refine Gv (V_len rfl rfl) ?_
        refine Gv (V_sub_i64 rfl rfl rfl (by omega) (by omega)) ?_
        refine Ga ?_
        refine Ga ?_
        refine G_end (X_then (G_seq (G_seq (G_region ?_))))
        refine Gv (V_fieldAddr rfl rfl (by decide)) ?_
        refine Gv (V_fieldAddr rfl rfl (by decide)) ?_
        refine Gv (V_fieldAddr rfl rfl (by decide)) ?_
        refine Gv (V_load rfl rfl (Cell.own (.head _) rfl)) ?_
        refine G_end (X_then (G_block (G_seq (G_region ?_))))
        refine Gv (V_eql rfl rfl rfl) ?_
        refine Ga ?_
        refine G_end (X_then ?_)
        refine G_cond_f rfl (by kernel_rfl) ?_
        refine G_seq (G_region ?_)
        refine Gv (V_eql rfl rfl rfl) ?_
        refine Ga ?_
        refine G_end (X_then ?_)
        refine G_cond_t rfl (by kernel_rfl) ?_
        refine G_seq (G_region ?_)
        refine Gv (V_fieldAddr rfl rfl (by decide)) ?_
        refine Gv (V_fieldAddr rfl rfl (by decide)) ?_
        refine Gv (V_fieldAddr rfl rfl (by decide)) ?_
        refine Gv (V_load rfl rfl (Cell.own (.head _) rfl)) ?_
        refine Ga ?_
        refine G_end (X_then (G_region ?_))
        refine Gv (V_fieldAddr rfl rfl (by decide)) ?_
        refine Gv (V_fieldAddr rfl rfl (by decide)) ?_
        refine Gv (V_load rfl rfl (Cell.own (.head _) rfl)) ?_
        refine Gm ?_
        refine Gv (V_eql rfl rfl rfl) ?_
        refine Ga ?_
        refine G_end (X_block (X_then (G_seq (G_region ?_))))
        refine Gm ?_
        refine Ga ?_
        refine G_end (X_then (G_seq (G_seq (G_region ?_))))
        refine Gm ?_
        refine Gv (V_lenS rfl rfl) ?_
        refine Ga ?_
        refine G_end (X_then (G_seq (G_region ?_)))
        refine Gm ?_
        refine Gv (V_gtr rfl rfl rfl) ?_
        refine G_end (X_then ?_)
        refine G_cond_t rfl (decide_eq_true (by omega)) ?_
        refine G_draw mixed (by kernel_rfl) ?_
        refine Q_val (V_move rfl rfl) rfl rfl (.none rfl) ?_
        refine Q_val (V_move rfl rfl) rfl rfl (.none rfl) ?_
        refine Q_val (V_sub_i64 rfl rfl rfl (by omega) (by omega)) rfl rfl (.none rfl) ?_
        refine Q_val (V_idxAddr rfl rfl rfl (SlE.rd (by assumption)) (by omega) (by omega)) rfl rfl (.none rfl) ?_
        refine Q_val (V_fieldAddrE rfl rfl (by assumption) (by omega) (by decide)) rfl rfl (.none rfl) ?_
        refine Q_val (V_loadS rfl rfl (SlE.rd (by assumption)) (by assumption) (by simp)) rfl rfl (.none rfl) ?_
        refine Q_val (V_move rfl rfl) rfl rfl (.none rfl) ?_
        refine Q_val (V_move rfl rfl) rfl rfl (.none rfl) ?_
        refine Q_val (V_sub_i64 rfl rfl rfl (by omega) (by omega)) rfl rfl (.none rfl) ?_
        refine Q_val (V_idxAddr rfl rfl rfl (SlE.rd (by assumption)) (by omega) (by omega)) rfl rfl (.none rfl) ?_
        refine Q_val (V_loadAS rfl rfl (SlE.rd (by assumption)) (by assumption) (by simp) (by rfl)) rfl rfl (.none rfl) ?_
        refine Q_callv (k := 65) (.mk rfl rfl rfl rfl) rfl rfl (.none rfl) (TokSize_call _ _ _ _ _ (by omega)) ?_
        refine Q_val (V_add_i64 rfl rfl rfl (by omega) (by omega)) rfl rfl (.none rfl) ?_
        refine Q_val (V_assign rfl rfl) rfl rfl (.none rfl) ?_
        refine Q_end ?_
        refine X_then (G_seq (G_seq (G_region ?_)))
        refine Gv (V_fieldAddr rfl rfl (by decide)) ?_
        refine Gv (V_fieldAddr rfl rfl (by decide)) ?_
        refine Gv (V_load rfl rfl (Cell.own (.head _) rfl)) ?_
        refine Gv (V_eql rfl rfl rfl) ?_
        refine Gm ?_
        refine G.bool_f 104 rfl (decide_eq_false (by omega)) ?_
        refine Gn ?_
        refine Gn ?_
        refine Gn ?_
        refine Gn ?_
        refine Gn ?_
        refine Gv (V_pick_f rfl rfl rfl) ?_
        refine G_end (X_then ?_)
        refine G_cond_f rfl rfl ?_
        refine G_skip (X_then (G_seq (G_seq (G_region ?_))))
        refine Gm ?_
        refine Gv (V_not rfl rfl) ?_
        refine Gm ?_
        apply G_joinOr 3 138 141 rfl
        · intro H1
          dsimp only [List.take]
          simp only [Bool.and_eq_true, Bool.or_eq_true, Bool.not_eq_true', Bool.not_eq_false', Bool.and_eq_false_iff, Bool.or_eq_false_iff, Bool.not_not, decide_eq_true_eq, decide_eq_false_iff_not, ne_eq, Decidable.not_not, Bool.decide_eq_true] at H1
          refine Gn ?_
          refine Gn ?_
          refine Gv (V_pick_t rfl rfl rfl) ?_
          refine G_end ?_
          exact JQ_end 3 rfl rfl (by kernel_rfl)
        · intro H2
          dsimp only [List.take]
          simp only [Bool.and_eq_true, Bool.or_eq_true, Bool.not_eq_true', Bool.not_eq_false', Bool.and_eq_false_iff, Bool.or_eq_false_iff, Bool.not_not, decide_eq_true_eq, decide_eq_false_iff_not, ne_eq, Decidable.not_not, Bool.decide_eq_true] at H2
          refine Gy (V_move rfl rfl) ?_
          refine Gy (V_lss rfl rfl rfl) ?_
          refine Gv (V_pick_f rfl rfl rfl) ?_
          refine G_end ?_
          exact JQ_end 3 rfl rfl (by kernel_rfl)
        dsimp only [List.drop]
        refine Gm ?_
        apply G_joinOr 4 142 146 rfl
        · intro H3
          dsimp only [List.take]
          simp only [Bool.and_eq_true, Bool.or_eq_true, Bool.not_eq_true', Bool.not_eq_false', Bool.and_eq_false_iff, Bool.or_eq_false_iff, Bool.not_not, decide_eq_true_eq, decide_eq_false_iff_not, ne_eq, Decidable.not_not, Bool.decide_eq_true] at H3
          refine Gn ?_
          refine Gn ?_
          refine Gn ?_
          refine Gv (V_pick_t rfl rfl rfl) ?_
          refine G_end ?_
          exact JQ_end 4 rfl rfl (by kernel_rfl)
        · intro H4
          dsimp only [List.take]
          simp only [Bool.and_eq_true, Bool.or_eq_true, Bool.not_eq_true', Bool.not_eq_false', Bool.and_eq_false_iff, Bool.or_eq_false_iff, Bool.not_not, decide_eq_true_eq, decide_eq_false_iff_not, ne_eq, Decidable.not_not, Bool.decide_eq_true] at H4
          refine Gy (V_move rfl rfl) ?_
          refine Gy (V_move rfl rfl) ?_
          refine Gy (V_neq rfl rfl rfl) ?_
          refine Gv (V_pick_f rfl rfl rfl) ?_
          refine G_end ?_
          exact JQ_end 4 rfl rfl (by kernel_rfl)
        dsimp only [List.drop]
        refine G_end (X_then ?_)
        refine G_cond rfl (fun H5 => ?_) (fun H5 => ?_)
        · simp only [Bool.and_eq_true, Bool.or_eq_true, Bool.not_eq_true', Bool.not_eq_false', Bool.and_eq_false_iff, Bool.or_eq_false_iff, Bool.not_not, decide_eq_true_eq, decide_eq_false_iff_not, ne_eq, Decidable.not_not, Bool.decide_eq_true] at H5
          refine G_seq (G_region ?_)
          refine Ga ?_
          refine G_end (X_then (G_ret (X_then_ret ?_)))
          refine G_leaveS (.drop _ (.nil _)) (by exact (.cons (.tmp rfl) (.nil))) rfl ?_ ?_
          · exact (.refl _)
          exact ⟨(by (simp (discharger := omega) only [resVal, if_pos, if_neg]; first | done | rfl)), (by rfl)⟩
        simp only [Bool.and_eq_true, Bool.or_eq_true, Bool.not_eq_true', Bool.not_eq_false', Bool.and_eq_false_iff, Bool.or_eq_false_iff, Bool.not_not, decide_eq_true_eq, decide_eq_false_iff_not, ne_eq, Decidable.not_not, Bool.decide_eq_true] at H5
        refine G_skip (X_then (G_seq (G_region ?_)))
        refine Ga ?_
        refine G_end (X_then (G_ret ?_))
        refine G_leaveS (.drop _ (.nil _)) (by exact (.cons (.tmp rfl) (.nil))) rfl ?_ ?_
        · exact (.refl _)
        exact ⟨(by (simp (discharger := omega) only [resVal, if_pos, if_neg]; first | done | rfl)), (by rfl)⟩
end
end Go.Proofs.YtimiokmgnclggaaGreat
namespace Go.Proofs.YtimiokmgnclggaaGreat
open Go.RowKit
section rules
variable {P : Program} {ro : Option Nat} {n : Nat} {ds : List Deferred} {fs : List (Nat × Value)} {E : Env} {L : List Res} {ops : Array Oper} {Q : Exit → Act → World → Prop} {rest : List Oper} {o : Oper}
theorem G_callF {k : FuncId} [Ent P k] {f : Operand} {xs : List Operand} {ts : Array TypeId} {vs : List Value} {first cap args : Array Value} {d : Nat} {r : Value} (ho : o.op = .call { callee := .value f, args := xs.toArray, argTypes := ts })
    (hf : ev fs f = some (.func (.func k) first cap)) (hx : xs.mapM (ev fs) = some vs) (ha : args = first ++ vs.toArray ++ cap) (hd : o.dst = some d) (hn : Nat.blt d n = true) (hg : Goes ops fs o)
    (hc : CallV P k args E L r) (h : G n ds ((d, r) :: fs) E L (wpListIn (Wd ro) 0 P ops Q rest)) : G n ds fs E L (wpListIn (Wd ro) 0 P ops Q (o :: rest)) :=
  G_any hg (by rw [ho]; intro c hc; cases hc) fun a w hfr hw => by
    have e1 := evs_args hfr hx
    have e2 := hfr.eval hf
    have hrun : (execOp a.eval o).run P w = .ok (.enter k args) w := by
      subst ha
      simp only [execOp, ho, resolve, e2, Deferred.ofValue, e1]
      simp [invoke, Ent.ent]
    rw [hrun]
    simp only [Oper.uponIn_enter]
    refine ⟨fun h => by simp [Wd] at h, (Wd.calls (CallS.ofV hc w hw)).mono ?_⟩
    rintro e w' ⟨r', E', L', rfl, hE, hs, h1, h2, h3⟩
    subst h1 h2 h3
    simp only [hd]
    exact h _ _ (hfr.put hn _) hs
end rules
end Go.Proofs.YtimiokmgnclggaaGreat
set_option linter.unusedSimpArgs false
set_option linter.unusedVariables false
set_option maxHeartbeats 2000000
set_option maxRecDepth 20000
namespace Go.Proofs.YtimiokmgnclggaaGreat
open Go.RowKit
/-! config.Check: the first error of the checks. -/
def fz : List Int → Int
  | [] => 0
  | r :: l => if r ≠ 0 then r else fz l
theorem fz_at : ∀ (l : List Int) (i : Nat) (r : Int), (∀ j, j < i → l[j]? = some 0) → l[i]? = some r → r ≠ 0 → fz l = r := by
  intro l
  induction l with
  | nil => intro i r _ h; simp at h
  | cons x l ih =>
    intro i r h0 h1 h2
    cases i with
    | zero =>
      simp only [List.getElem?_cons_zero, Option.some.injEq] at h1
      subst h1
      simp [fz, h2]
    | succ i =>
      have hx : x = 0 := by simpa using h0 0 (by omega)
      subst hx
      simp only [fz, ne_eq, not_true_eq_false, if_false]
      exact ih i r (fun j hj => by simpa using h0 (j + 1) (by omega)) (by simpa using h1) h2
theorem fz_none : ∀ (l : List Int), (∀ j, j < l.length → l[j]? = some 0) → fz l = 0 := by
  intro l
  induction l with
  | nil => intro _; rfl
  | cons x l ih =>
    intro h
    have hx : x = 0 := by simpa using h 0 (by simp)
    subst hx
    simp only [fz, ne_eq, not_true_eq_false, if_false]
    exact ih fun j hj => by simpa using h (j + 1) (by simp; omega)
section
variable (E : Env) (L : List Res) (st rc at' : Int) (part : List UInt8) (tp : Option Addr) (tn tc : Nat) (e ea : Int) (b : Bool) (sp : Option Addr) (sn sc : Nat)
theorem cspots_call (gk : Int) (gp : Option Addr) (gn gc : Nat) (sep : List UInt8) (np : Option Addr) (nn nc : Nat) (start : Int) (pp : Option Addr) (pn pc : Nat) (g : Gr) (hg : GrE E (.agg #[.int .i64 gk, .slice gp gn gc, .string (S sep), .slice np nn nc, .int .i64 start, .slice pp pn pc]) g) (hl : Light g) (l : List Spt) (hs : SlE E 2 sp sn (spC l)) (hn : sn ≤ 9223372036854775807) :
    CallV Tryz.prog 35 #[ckV st rc at' part tp tn tc e ea b sp sn sc gk gp gn gc sep np nn nc start pp pn pc] E L (.int .i64 (chkS g l)) := by
  have hc := fun L0 => SCheck_call E L0 _ g hg hl sp sn sc l hs hn
  generalize chkS g l = x at *
  refine CallS.toV (CallS.intro (l := [_]) _ Tryz.func35 rfl Tryz.ntmps35 rfl ?_)
  refine G_seq (G_region ?_)
  (refine G_boxA rfl rfl rfl rfl (.none rfl) ?_; intro b1)
  refine Ga ?_
  refine G_end (X_then (G_seq (G_region ?_)))
  refine Gv (V_fieldAddr rfl rfl (by decide)) ?_
  refine Gv (V_loadF rfl rfl (.head _) (by simp only [Nat.zero_add, List.drop_succ_cons, List.drop_zero, List.take_succ_cons, List.take_zero]; rfl) (by rfl)) ?_
  refine Gv (V_fieldAddr rfl rfl (by decide)) ?_
  refine Gv (V_fieldAddr rfl rfl (by decide)) ?_
  refine Gv (V_load rfl rfl (Cell.own (.head _) rfl)) ?_
  refine G_callv (k := 51) (.mk rfl rfl rfl rfl) rfl rfl (.none rfl) (hc _) ?_
  refine Ga ?_
  refine G_end (X_then (G_ret ?_))
  refine G_leaveS (.drop _ (.nil _)) (by exact (.cons (.tmp rfl) (.nil))) rfl ?_ ?_
  · exact (.refl _)
  exact ⟨rfl, rfl⟩
theorem CCheck_core (g : Gr) (tp' : Option Addr) (tc' : Nat) (np : Option Addr) (nc : Nat) (pp : Option Addr) (pc : Nat)
    (hg : GrE E (.agg #[.int .i64 g.k, .slice tp' g.toks.length tc', .string (S g.sep), .slice np g.names.length nc, .int .i64 g.start, .slice pp g.prods.length pc]) g) (hl : Light g) (h0 : gcheck g = 0) (r0 r1 r2 r3 r4 r5 r6 r7 : Int)
    (x : Value) (hx : x = ckV st rc at' part tp tn tc e ea b sp sn sc g.k tp' g.toks.length tc' g.sep np g.names.length nc g.start pp g.prods.length pc)
    (k0 : ∀ L, CallV Tryz.prog 29 #[x] E L (.int .i64 r0)) (k1 : r0 = 0 → ∀ L, CallV Tryz.prog 30 #[x] E L (.int .i64 r1))
    (k2 : r0 = 0 ∧ r1 = 0 → ∀ L, CallV Tryz.prog 31 #[x] E L (.int .i64 r2))
    (k3 : r0 = 0 ∧ r1 = 0 ∧ r2 = 0 → ∀ L, CallV Tryz.prog 32 #[x] E L (.int .i64 r3))
    (k4 : r0 = 0 ∧ r1 = 0 ∧ r2 = 0 ∧ r3 = 0 → ∀ L, CallV Tryz.prog 33 #[x] E L (.int .i64 r4))
    (k5 : r0 = 0 ∧ r1 = 0 ∧ r2 = 0 ∧ r3 = 0 ∧ r4 = 0 → ∀ L, CallV Tryz.prog 34 #[x] E L (.int .i64 r5))
    (k6 : r0 = 0 ∧ r1 = 0 ∧ r2 = 0 ∧ r3 = 0 ∧ r4 = 0 ∧ r5 = 0 → ∀ L, CallV Tryz.prog 35 #[x] E L (.int .i64 r6))
    (k7 : r0 = 0 ∧ r1 = 0 ∧ r2 = 0 ∧ r3 = 0 ∧ r4 = 0 ∧ r5 = 0 ∧ r6 = 0 → ∀ L, CallV Tryz.prog 36 #[x] E L (.int .i64 r7)) :
    CallV Tryz.prog 15 #[.agg #[.int .i64 g.k, .slice tp' g.toks.length tc', .string (S g.sep), .slice np g.names.length nc, .int .i64 g.start, .slice pp g.prods.length pc], cfV st rc at' part tp tn tc e ea b sp sn sc] E L (.int .i64 (fz [r0, r1, r2, r3, r4, r5, r6, r7])) := by
  refine CallS.toV (CallS.intro (l := [_, _]) _ Tryz.func15 rfl Tryz.ntmps15 rfl ?_)
  refine G_seq (G_region ?_)
  (refine G_boxA rfl rfl rfl rfl (.none rfl) ?_; intro b2)
  (refine G_boxA rfl rfl rfl rfl (.none rfl) ?_; intro b3)
  refine Ga ?_
  refine G_end (X_then (G_seq (G_seq (G_region ?_))))
  refine Gv (V_loadA rfl rfl (Cells.own (.tail _ (.head _))) rfl) ?_
  refine G_callv (k := 28) (.mk rfl rfl rfl rfl) rfl rfl (.none rfl) (GCheck_call _ _ _ g hg hl) ?_
  rw [h0]
  refine Ga ?_
  refine G_end (X_then (G_seq (G_region ?_)))
  refine Gm ?_
  refine Gv (V_neq rfl rfl rfl) ?_
  refine G_end (X_then ?_)
  refine G_cond_f rfl (by kernel_rfl) ?_
  refine G_skip (X_then (G_seq (G_region ?_)))
  refine Gv (V_loadA rfl rfl (Cells.own (.head _)) rfl) ?_
  refine Gv (V_loadA rfl rfl (Cells.own (.tail _ (.head _))) rfl) ?_
  refine Gv (V_build rfl rfl (by simp [fillV, setLs, setL, Value.cells]; rfl)) ?_
  (refine G_alloc rfl rfl rfl (.none rfl) ?_; intro b6)
  refine G_storeA rfl rfl rfl rfl (by simp [Value.oneCell']) rfl (.none rfl) (.head _ _ _) rfl ?_
  refine G_end (X_then (G_seq (G_seq (G_region ?_))))
  refine Gv (V_loadA rfl rfl (Cells.own (.head _)) rfl) ?_
  refine Gv (V_makeFunc rfl rfl rfl) ?_
  refine Gv (V_loadA rfl rfl (Cells.own (.head _)) rfl) ?_
  refine Gv (V_makeFunc rfl rfl rfl) ?_
  refine Gv (V_loadA rfl rfl (Cells.own (.head _)) rfl) ?_
  refine Gv (V_makeFunc rfl rfl rfl) ?_
  refine Gv (V_loadA rfl rfl (Cells.own (.head _)) rfl) ?_
  refine Gv (V_makeFunc rfl rfl rfl) ?_
  refine Gv (V_loadA rfl rfl (Cells.own (.head _)) rfl) ?_
  refine Gv (V_makeFunc rfl rfl rfl) ?_
  refine Gv (V_loadA rfl rfl (Cells.own (.head _)) rfl) ?_
  refine Gv (V_makeFunc rfl rfl rfl) ?_
  refine Gv (V_loadA rfl rfl (Cells.own (.head _)) rfl) ?_
  refine Gv (V_makeFunc rfl rfl rfl) ?_
  refine Gv (V_loadA rfl rfl (Cells.own (.head _)) rfl) ?_
  refine Gv (V_makeFunc rfl rfl rfl) ?_
  refine Gv (V_buildArr rfl rfl (by simp [fillS, setLs, setL, Value.cells]; rfl)) ?_
  refine Gm ?_
  refine G_end (X_then (G_block ?_))
  refine G_loop (α := Nat) (fun i => [(34, .agg #[.func (.func 29) #[x] #[], .func (.func 30) #[x] #[], .func (.func 31) #[x] #[], .func (.func 32) #[x] #[], .func (.func 33) #[x] #[], .func (.func 34) #[x] #[], .func (.func 35) #[x] #[], .func (.func 36) #[x] #[]]), (35, .int .i64 (i : Nat))]) (fun _ => E) (fun _ => _)
    (fun i => i ≤ 8 ∧ ∀ j, j < i → [r0, r1, r2, r3, r4, r5, r6, r7][j]? = some 0) (fun i => 8 - i) 0 ⟨by omega, fun j hj => by omega⟩ ⟨by subst hx; rfl, rfl, trivial⟩ rfl rfl ?_
  rintro i ⟨hi, hall⟩
  have c0 : 0 < i → r0 = 0 := fun h => by simpa using hall 0 h
  have c1 : 1 < i → r1 = 0 := fun h => by simpa using hall 1 h
  have c2 : 2 < i → r2 = 0 := fun h => by simpa using hall 2 h
  have c3 : 3 < i → r3 = 0 := fun h => by simpa using hall 3 h
  have c4 : 4 < i → r4 = 0 := fun h => by simpa using hall 4 h
  have c5 : 5 < i → r5 = 0 := fun h => by simpa using hall 5 h
  have c6 : 6 < i → r6 = 0 := fun h => by simpa using hall 6 h
  have hcase : i = 0 ∨ i = 1 ∨ i = 2 ∨ i = 3 ∨ i = 4 ∨ i = 5 ∨ i = 6 ∨ i = 7 ∨ i = 8 := by omega
  rcases hcase with rfl | rfl | rfl | rfl | rfl | rfl | rfl | rfl | rfl
  · refine G_seq ?_
    refine G_region ?_
    refine Gv (V_lss rfl rfl rfl) ?_
    refine G_end (X_then (G_seq ?_))
    refine G_cond_t rfl (by kernel_rfl) ?_
    refine G_skip (X_then (G_seq (G_block (G_seq (G_region ?_)))))
    refine Gv (V_idxArr rfl rfl rfl (by omega) (by omega) rfl) ?_
    refine Ga ?_
    refine G_end (X_then (G_seq (G_region ?_)))
    refine Gm ?_
    refine G_callF (k := 29) rfl rfl rfl rfl rfl rfl (.none rfl) (k0  _) ?_
    by_cases hz : r0 = 0
    · refine Ga ?_
      refine G_end (X_then (G_seq (G_region ?_)))
      refine Gm ?_
      refine Gv (V_neq rfl rfl rfl) ?_
      refine G_end (X_then ?_)
      refine G_cond_f rfl (decide_eq_false (by omega)) ?_
      refine G_skip (X_block (X_then (G_region ?_)))
      refine Gv (V_add_i64 rfl rfl rfl (by omega) (by omega)) ?_
      refine Gm ?_
      refine G_end (X_then ?_)
      exact G_again 1 ⟨by omega, fun j hj => by
        by_cases e : j = 0
        · rw [e, ← hz]; rfl
        · exact hall j (by omega)⟩ (by omega) ⟨rfl, rfl, trivial⟩ rfl rfl
    · rw [fz_at _ 0 r0 hall rfl hz]
      refine Ga ?_
      refine G_end (X_then (G_seq (G_region ?_)))
      refine Gm ?_
      refine Gv (V_neq rfl rfl rfl) ?_
      refine G_end (X_then ?_)
      refine G_cond_t rfl (decide_eq_true (by omega)) ?_
      refine G_seq (G_region ?_)
      refine Gm ?_
      refine Ga ?_
      refine G_end (X_then (G_ret (X_block_ret (X_then_ret (X_then_ret (X_block_ret (X_then_ret ?_)))))))
      refine G_leaveS (.drop _ (.drop _ (.drop _ (.nil _)))) (by exact (.cons (.tmp rfl) (.nil))) rfl ?_ ?_
      · exact (.refl _)
      exact ⟨rfl, rfl⟩
  · refine G_seq ?_
    refine G_region ?_
    refine Gv (V_lss rfl rfl rfl) ?_
    refine G_end (X_then (G_seq ?_))
    refine G_cond_t rfl (by kernel_rfl) ?_
    refine G_skip (X_then (G_seq (G_block (G_seq (G_region ?_)))))
    refine Gv (V_idxArr rfl rfl rfl (by omega) (by omega) rfl) ?_
    refine Ga ?_
    refine G_end (X_then (G_seq (G_region ?_)))
    refine Gm ?_
    refine G_callF (k := 30) rfl rfl rfl rfl rfl rfl (.none rfl) (k1 (c0 (by omega)) _) ?_
    by_cases hz : r1 = 0
    · refine Ga ?_
      refine G_end (X_then (G_seq (G_region ?_)))
      refine Gm ?_
      refine Gv (V_neq rfl rfl rfl) ?_
      refine G_end (X_then ?_)
      refine G_cond_f rfl (decide_eq_false (by omega)) ?_
      refine G_skip (X_block (X_then (G_region ?_)))
      refine Gv (V_add_i64 rfl rfl rfl (by omega) (by omega)) ?_
      refine Gm ?_
      refine G_end (X_then ?_)
      exact G_again 2 ⟨by omega, fun j hj => by
        by_cases e : j = 1
        · rw [e, ← hz]; rfl
        · exact hall j (by omega)⟩ (by omega) ⟨rfl, rfl, trivial⟩ rfl rfl
    · rw [fz_at _ 1 r1 hall rfl hz]
      refine Ga ?_
      refine G_end (X_then (G_seq (G_region ?_)))
      refine Gm ?_
      refine Gv (V_neq rfl rfl rfl) ?_
      refine G_end (X_then ?_)
      refine G_cond_t rfl (decide_eq_true (by omega)) ?_
      refine G_seq (G_region ?_)
      refine Gm ?_
      refine Ga ?_
      refine G_end (X_then (G_ret (X_block_ret (X_then_ret (X_then_ret (X_block_ret (X_then_ret ?_)))))))
      refine G_leaveS (.drop _ (.drop _ (.drop _ (.nil _)))) (by exact (.cons (.tmp rfl) (.nil))) rfl ?_ ?_
      · exact (.refl _)
      exact ⟨rfl, rfl⟩
  · refine G_seq ?_
    refine G_region ?_
    refine Gv (V_lss rfl rfl rfl) ?_
    refine G_end (X_then (G_seq ?_))
    refine G_cond_t rfl (by kernel_rfl) ?_
    refine G_skip (X_then (G_seq (G_block (G_seq (G_region ?_)))))
    refine Gv (V_idxArr rfl rfl rfl (by omega) (by omega) rfl) ?_
    refine Ga ?_
    refine G_end (X_then (G_seq (G_region ?_)))
    refine Gm ?_
    refine G_callF (k := 31) rfl rfl rfl rfl rfl rfl (.none rfl) (k2 ⟨c0 (by omega), c1 (by omega)⟩ _) ?_
    by_cases hz : r2 = 0
    · refine Ga ?_
      refine G_end (X_then (G_seq (G_region ?_)))
      refine Gm ?_
      refine Gv (V_neq rfl rfl rfl) ?_
      refine G_end (X_then ?_)
      refine G_cond_f rfl (decide_eq_false (by omega)) ?_
      refine G_skip (X_block (X_then (G_region ?_)))
      refine Gv (V_add_i64 rfl rfl rfl (by omega) (by omega)) ?_
      refine Gm ?_
      refine G_end (X_then ?_)
      exact G_again 3 ⟨by omega, fun j hj => by
        by_cases e : j = 2
        · rw [e, ← hz]; rfl
        · exact hall j (by omega)⟩ (by omega) ⟨rfl, rfl, trivial⟩ rfl rfl
    · rw [fz_at _ 2 r2 hall rfl hz]
      refine Ga ?_
      refine G_end (X_then (G_seq (G_region ?_)))
      refine Gm ?_
      refine Gv (V_neq rfl rfl rfl) ?_
      refine G_end (X_then ?_)
      refine G_cond_t rfl (decide_eq_true (by omega)) ?_
      refine G_seq (G_region ?_)
      refine Gm ?_
      refine Ga ?_
      refine G_end (X_then (G_ret (X_block_ret (X_then_ret (X_then_ret (X_block_ret (X_then_ret ?_)))))))
      refine G_leaveS (.drop _ (.drop _ (.drop _ (.nil _)))) (by exact (.cons (.tmp rfl) (.nil))) rfl ?_ ?_
      · exact (.refl _)
      exact ⟨rfl, rfl⟩
  · refine G_seq ?_
    refine G_region ?_
    refine Gv (V_lss rfl rfl rfl) ?_
    refine G_end (X_then (G_seq ?_))
    refine G_cond_t rfl (by kernel_rfl) ?_
    refine G_skip (X_then (G_seq (G_block (G_seq (G_region ?_)))))
    refine Gv (V_idxArr rfl rfl rfl (by omega) (by omega) rfl) ?_
    refine Ga ?_
    refine G_end (X_then (G_seq (G_region ?_)))
    refine Gm ?_
    refine G_callF (k := 32) rfl rfl rfl rfl rfl rfl (.none rfl) (k3 ⟨c0 (by omega), c1 (by omega), c2 (by omega)⟩ _) ?_
    by_cases hz : r3 = 0
    · refine Ga ?_
      refine G_end (X_then (G_seq (G_region ?_)))
      refine Gm ?_
      refine Gv (V_neq rfl rfl rfl) ?_
      refine G_end (X_then ?_)
      refine G_cond_f rfl (decide_eq_false (by omega)) ?_
      refine G_skip (X_block (X_then (G_region ?_)))
      refine Gv (V_add_i64 rfl rfl rfl (by omega) (by omega)) ?_
      refine Gm ?_
      refine G_end (X_then ?_)
      exact G_again 4 ⟨by omega, fun j hj => by
        by_cases e : j = 3
        · rw [e, ← hz]; rfl
        · exact hall j (by omega)⟩ (by omega) ⟨rfl, rfl, trivial⟩ rfl rfl
    · rw [fz_at _ 3 r3 hall rfl hz]
      refine Ga ?_
      refine G_end (X_then (G_seq (G_region ?_)))
      refine Gm ?_
      refine Gv (V_neq rfl rfl rfl) ?_
      refine G_end (X_then ?_)
      refine G_cond_t rfl (decide_eq_true (by omega)) ?_
      refine G_seq (G_region ?_)
      refine Gm ?_
      refine Ga ?_
      refine G_end (X_then (G_ret (X_block_ret (X_then_ret (X_then_ret (X_block_ret (X_then_ret ?_)))))))
      refine G_leaveS (.drop _ (.drop _ (.drop _ (.nil _)))) (by exact (.cons (.tmp rfl) (.nil))) rfl ?_ ?_
      · exact (.refl _)
      exact ⟨rfl, rfl⟩
  · refine G_seq ?_
    refine G_region ?_
    refine Gv (V_lss rfl rfl rfl) ?_
    refine G_end (X_then (G_seq ?_))
    refine G_cond_t rfl (by kernel_rfl) ?_
    refine G_skip (X_then (G_seq (G_block (G_seq (G_region ?_)))))
    refine Gv (V_idxArr rfl rfl rfl (by omega) (by omega) rfl) ?_
    refine Ga ?_
    refine G_end (X_then (G_seq (G_region ?_)))
    refine Gm ?_
    refine G_callF (k := 33) rfl rfl rfl rfl rfl rfl (.none rfl) (k4 ⟨c0 (by omega), c1 (by omega), c2 (by omega), c3 (by omega)⟩ _) ?_
    by_cases hz : r4 = 0
    · refine Ga ?_
      refine G_end (X_then (G_seq (G_region ?_)))
      refine Gm ?_
      refine Gv (V_neq rfl rfl rfl) ?_
      refine G_end (X_then ?_)
      refine G_cond_f rfl (decide_eq_false (by omega)) ?_
      refine G_skip (X_block (X_then (G_region ?_)))
      refine Gv (V_add_i64 rfl rfl rfl (by omega) (by omega)) ?_
      refine Gm ?_
      refine G_end (X_then ?_)
      exact G_again 5 ⟨by omega, fun j hj => by
        by_cases e : j = 4
        · rw [e, ← hz]; rfl
        · exact hall j (by omega)⟩ (by omega) ⟨rfl, rfl, trivial⟩ rfl rfl
    · rw [fz_at _ 4 r4 hall rfl hz]
      refine Ga ?_
      refine G_end (X_then (G_seq (G_region ?_)))
      refine Gm ?_
      refine Gv (V_neq rfl rfl rfl) ?_
      refine G_end (X_then ?_)
      refine G_cond_t rfl (decide_eq_true (by omega)) ?_
      refine G_seq (G_region ?_)
      refine Gm ?_
      refine Ga ?_
      refine G_end (X_then (G_ret (X_block_ret (X_then_ret (X_then_ret (X_block_ret (X_then_ret ?_)))))))
      refine G_leaveS (.drop _ (.drop _ (.drop _ (.nil _)))) (by exact (.cons (.tmp rfl) (.nil))) rfl ?_ ?_
      · exact (.refl _)
      exact ⟨rfl, rfl⟩
  · refine G_seq ?_
    refine G_region ?_
    refine Gv (V_lss rfl rfl rfl) ?_
    refine G_end (X_then (G_seq ?_))
    refine G_cond_t rfl (by kernel_rfl) ?_
    refine G_skip (X_then (G_seq (G_block (G_seq (G_region ?_)))))
    refine Gv (V_idxArr rfl rfl rfl (by omega) (by omega) rfl) ?_
    refine Ga ?_
    refine G_end (X_then (G_seq (G_region ?_)))
    refine Gm ?_
    refine G_callF (k := 34) rfl rfl rfl rfl rfl rfl (.none rfl) (k5 ⟨c0 (by omega), c1 (by omega), c2 (by omega), c3 (by omega), c4 (by omega)⟩ _) ?_
    by_cases hz : r5 = 0
    · refine Ga ?_
      refine G_end (X_then (G_seq (G_region ?_)))
      refine Gm ?_
      refine Gv (V_neq rfl rfl rfl) ?_
      refine G_end (X_then ?_)
      refine G_cond_f rfl (decide_eq_false (by omega)) ?_
      refine G_skip (X_block (X_then (G_region ?_)))
      refine Gv (V_add_i64 rfl rfl rfl (by omega) (by omega)) ?_
      refine Gm ?_
      refine G_end (X_then ?_)
      exact G_again 6 ⟨by omega, fun j hj => by
        by_cases e : j = 5
        · rw [e, ← hz]; rfl
        · exact hall j (by omega)⟩ (by omega) ⟨rfl, rfl, trivial⟩ rfl rfl
    · rw [fz_at _ 5 r5 hall rfl hz]
      refine Ga ?_
      refine G_end (X_then (G_seq (G_region ?_)))
      refine Gm ?_
      refine Gv (V_neq rfl rfl rfl) ?_
      refine G_end (X_then ?_)
      refine G_cond_t rfl (decide_eq_true (by omega)) ?_
      refine G_seq (G_region ?_)
      refine Gm ?_
      refine Ga ?_
      refine G_end (X_then (G_ret (X_block_ret (X_then_ret (X_then_ret (X_block_ret (X_then_ret ?_)))))))
      refine G_leaveS (.drop _ (.drop _ (.drop _ (.nil _)))) (by exact (.cons (.tmp rfl) (.nil))) rfl ?_ ?_
      · exact (.refl _)
      exact ⟨rfl, rfl⟩
  · refine G_seq ?_
    refine G_region ?_
    refine Gv (V_lss rfl rfl rfl) ?_
    refine G_end (X_then (G_seq ?_))
    refine G_cond_t rfl (by kernel_rfl) ?_
    refine G_skip (X_then (G_seq (G_block (G_seq (G_region ?_)))))
    refine Gv (V_idxArr rfl rfl rfl (by omega) (by omega) rfl) ?_
    refine Ga ?_
    refine G_end (X_then (G_seq (G_region ?_)))
    refine Gm ?_
    refine G_callF (k := 35) rfl rfl rfl rfl rfl rfl (.none rfl) (k6 ⟨c0 (by omega), c1 (by omega), c2 (by omega), c3 (by omega), c4 (by omega), c5 (by omega)⟩ _) ?_
    by_cases hz : r6 = 0
    · refine Ga ?_
      refine G_end (X_then (G_seq (G_region ?_)))
      refine Gm ?_
      refine Gv (V_neq rfl rfl rfl) ?_
      refine G_end (X_then ?_)
      refine G_cond_f rfl (decide_eq_false (by omega)) ?_
      refine G_skip (X_block (X_then (G_region ?_)))
      refine Gv (V_add_i64 rfl rfl rfl (by omega) (by omega)) ?_
      refine Gm ?_
      refine G_end (X_then ?_)
      exact G_again 7 ⟨by omega, fun j hj => by
        by_cases e : j = 6
        · rw [e, ← hz]; rfl
        · exact hall j (by omega)⟩ (by omega) ⟨rfl, rfl, trivial⟩ rfl rfl
    · rw [fz_at _ 6 r6 hall rfl hz]
      refine Ga ?_
      refine G_end (X_then (G_seq (G_region ?_)))
      refine Gm ?_
      refine Gv (V_neq rfl rfl rfl) ?_
      refine G_end (X_then ?_)
      refine G_cond_t rfl (decide_eq_true (by omega)) ?_
      refine G_seq (G_region ?_)
      refine Gm ?_
      refine Ga ?_
      refine G_end (X_then (G_ret (X_block_ret (X_then_ret (X_then_ret (X_block_ret (X_then_ret ?_)))))))
      refine G_leaveS (.drop _ (.drop _ (.drop _ (.nil _)))) (by exact (.cons (.tmp rfl) (.nil))) rfl ?_ ?_
      · exact (.refl _)
      exact ⟨rfl, rfl⟩
  · refine G_seq ?_
    refine G_region ?_
    refine Gv (V_lss rfl rfl rfl) ?_
    refine G_end (X_then (G_seq ?_))
    refine G_cond_t rfl (by kernel_rfl) ?_
    refine G_skip (X_then (G_seq (G_block (G_seq (G_region ?_)))))
    refine Gv (V_idxArr rfl rfl rfl (by omega) (by omega) rfl) ?_
    refine Ga ?_
    refine G_end (X_then (G_seq (G_region ?_)))
    refine Gm ?_
    refine G_callF (k := 36) rfl rfl rfl rfl rfl rfl (.none rfl) (k7 ⟨c0 (by omega), c1 (by omega), c2 (by omega), c3 (by omega), c4 (by omega), c5 (by omega), c6 (by omega)⟩ _) ?_
    by_cases hz : r7 = 0
    · refine Ga ?_
      refine G_end (X_then (G_seq (G_region ?_)))
      refine Gm ?_
      refine Gv (V_neq rfl rfl rfl) ?_
      refine G_end (X_then ?_)
      refine G_cond_f rfl (decide_eq_false (by omega)) ?_
      refine G_skip (X_block (X_then (G_region ?_)))
      refine Gv (V_add_i64 rfl rfl rfl (by omega) (by omega)) ?_
      refine Gm ?_
      refine G_end (X_then ?_)
      exact G_again 8 ⟨by omega, fun j hj => by
        by_cases e : j = 7
        · rw [e, ← hz]; rfl
        · exact hall j (by omega)⟩ (by omega) ⟨rfl, rfl, trivial⟩ rfl rfl
    · rw [fz_at _ 7 r7 hall rfl hz]
      refine Ga ?_
      refine G_end (X_then (G_seq (G_region ?_)))
      refine Gm ?_
      refine Gv (V_neq rfl rfl rfl) ?_
      refine G_end (X_then ?_)
      refine G_cond_t rfl (decide_eq_true (by omega)) ?_
      refine G_seq (G_region ?_)
      refine Gm ?_
      refine Ga ?_
      refine G_end (X_then (G_ret (X_block_ret (X_then_ret (X_then_ret (X_block_ret (X_then_ret ?_)))))))
      refine G_leaveS (.drop _ (.drop _ (.drop _ (.nil _)))) (by exact (.cons (.tmp rfl) (.nil))) rfl ?_ ?_
      · exact (.refl _)
      exact ⟨rfl, rfl⟩
  · rw [fz_none _ (fun j hj => hall j (by simpa using hj))]
    refine G_seq (G_region ?_)
    refine Gv (V_lss rfl rfl rfl) ?_
    refine G_end (X_then (G_seq ?_))
    refine G_cond_f rfl (by kernel_rfl) ?_
    refine G_exit (X_then_exit (X_then_exit (X_block_hit (X_then (G_seq (G_region ?_))))))
    refine Ga ?_
    refine G_end (X_then (G_ret ?_))
    refine G_leaveS (.drop _ (.drop _ (.drop _ (.nil _)))) (by exact (.cons (.tmp rfl) (.nil))) rfl ?_ ?_
    · exact (.refl _)
    exact ⟨(by kernel_rfl), rfl⟩
end
end Go.Proofs.YtimiokmgnclggaaGreat
set_option linter.unusedSimpArgs false
set_option linter.unusedVariables false
set_option maxHeartbeats 2000000
set_option maxRecDepth 20000
namespace Go.Proofs.YtimiokmgnclggaaGreat
open Go.RowKit
/-! config.Check of configurations in the states Between and Inside, with a ring that is right; what they await and need. -/
def ckM (g : Gr) (st at' : Int) (part : List UInt8) (l : List Tok) (e ea : Int) (b : Bool) (us : List Spt) : Int :=
  fz [partM part g.toks.length e, placM at' part.length l e ea, chkS g us, formM st b l.length us.length e]
theorem CallV.castV {P : Program} {k : Nat} {args : Array Value} {E : Env} {L : List Res} {r r' : Value} (h : CallV P k args E L r) (e : r = r') : CallV P k args E L r' := e ▸ h
/-- What is awaited, if all is right. -/
def awC (g : Gr) (st : Int) (b : Bool) (us : List Spt) : Int × Int := if st ≠ 2 then (0, 0) else if b = false then (2, g.start) else awS g.prods us
def needC (g : Gr) (st : Int) (n : Nat) (e : Int) (b : Bool) (us : List Spt) : Int :=
  if e ≠ 0 ∨ (awC g st b us).1 = 3 then 0 else if (awC g st b us).1 = 2 then max 0 (g.k - n) else max 0 (1 - n)
theorem ckM_ok {g : Gr} {st at' : Int} {part : List UInt8} {l : List Tok} {e ea : Int} {b : Bool} {us : List Spt} (h : ckM g st at' part l e ea b us = 0) :
    partM part g.toks.length e = 0 ∧ placM at' part.length l e ea = 0 ∧ chkS g us = 0 ∧ formM st b l.length us.length e = 0 := by
  simp only [ckM, fz] at h
  split at h
  · contradiction
  · split at h
    · contradiction
    · split at h
      · contradiction
      · split at h
        · contradiction
        · omega
theorem noSep {terms : Int} {l : List Tok} (h : ∀ t, t ∈ l → tokB terms t = true) : (l.any fun t => decide (t.sym = terms)) = false := by
  rw [List.any_eq_false]
  intro t ht
  have := tokB_iff.1 (h t ht)
  simp only [decide_eq_true_eq]
  omega
section
variable (E : Env) (L : List Res) (st rc at' : Int) (part : List UInt8) (tp : Option Addr) (tn tc : Nat) (e ea : Int) (b : Bool) (sp : Option Addr) (sn sc : Nat)
  (gv : Value) (g : Gr) (hg : GrE E gv g) (hl : Light g) (h0 : gcheck g = 0)
include hg hl h0
variable (h3 : st = 1 ∨ st = 2) (hr : rngB rc at' = true) (hp : part.length ≤ 1) (l : List Tok) (hs : SlE E 3 tp tn (toks l)) (hgr : gringB g.k g.toks.length l e ea = true) (us : List Spt) (hu : SlE E 2 sp sn (spC us)) (hn : sn ≤ 9223372036854775807)
include h3 hr hp hs hgr hu hn
theorem CCheck_call : CallV Tryz.prog 15 #[gv, cfV st rc at' part tp tn tc e ea b sp sn sc] E L (.int .i64 (ckM g st at' part l e ea b us)) := by
  have hg' := hg
  obtain ⟨gp, gc, np, nc, pp, pc, rfl, _⟩ := hg
  have hq := gring_iff.1 hgr
  have hat : 0 ≤ at' ∧ at' ≤ 1099511627776 := by
    simp only [rngB, Bool.and_eq_true, decide_eq_true_eq] at hr
    exact hr.2
  refine CallV.castV (CCheck_core E L st rc at' part tp tn tc e ea b sp sn sc g gp gc np nc pp pc hg' hl h0 0 0 0 0 (partM part g.toks.length e) (placM at' part.length l e ea) (chkS g us) (formM st b tn sn e) _ rfl (fun L => ?_) (fun _ L => ?_) (fun _ L => ?_) (fun _ L => ?_) (fun _ L => ?_) (fun _ L => ?_) (fun _ L => ?_) (fun _ L => ?_)) ?_
  · have := cstate_call E L st rc at' part tp tn tc e ea b sp sn sc g.k gp g.toks.length gc g.sep np g.names.length nc g.start pp g.prods.length pc
    rwa [if_neg (by omega)] at this
  · have := cnumbers_call E L st rc at' part tp tn tc e ea b sp sn sc g.k gp g.toks.length gc g.sep np g.names.length nc g.start pp g.prods.length pc
    rwa [if_pos hr] at this
  · exact waitOk_call E L st rc at' part tp tn tc e ea b sp sn sc g.k gp g.toks.length gc g.sep np g.names.length nc g.start pp g.prods.length pc l hs hgr
  · have := cseps_call E L st rc at' part tp tn tc e ea b sp sn sc g.k gp g.toks.length gc g.sep np g.names.length nc g.start pp g.prods.length pc l hs (by have := hs.nT; have := hq.len; have := hq.k4; omega)
    rwa [noSep hq.tok, if_neg (by decide)] at this
  · exact cpart_call E L st rc at' part tp tn tc e ea b sp sn sc g.k gp g.toks.length gc g.sep np g.names.length nc g.start pp g.prods.length pc hp hq.t1 hq.t8 h3
  · exact cplaces_call E L st rc at' part tp tn tc e ea b sp sn sc g.k gp g.toks.length gc g.sep np g.names.length nc g.start pp g.prods.length pc l hs hgr hp hat h3
  · exact cspots_call E L st rc at' part tp tn tc e ea b sp sn sc g.k gp g.toks.length gc g.sep np g.names.length nc g.start pp g.prods.length pc g hg' hl us hu hn
  · exact cform_call E L st rc at' part tp tn tc e ea b sp sn sc g.k gp g.toks.length gc g.sep np g.names.length nc g.start pp g.prods.length pc h3
  · rw [ckM, ← hs.nT, ← hu.nSp]
    simp only [fz, ne_eq, not_true_eq_false, if_false]
theorem CAwaits_call : CallV Tryz.prog 10 #[gv, cfV st rc at' part tp tn tc e ea b sp sn sc] E L
    (.tuple #[.int .i64 (if ckM g st at' part l e ea b us = 0 then (awC g st b us).1 else 0), .int .i64 (if ckM g st at' part l e ea b us = 0 then (awC g st b us).2 else 0), .int .i64 (ckM g st at' part l e ea b us)]) := by
  have hc := fun L0 => CCheck_call E L0 st rc at' part tp tn tc e ea b sp sn sc gv g hg hl h0 h3 hr hp l hs hgr us hu hn
  have haw := fun L0 => Awaits_call E L0 gv g hg hl sp sn sc us hu hn
  by_cases hk : ckM g st at' part l e ea b us = 0
  · simp only [if_pos hk]
    have hok := (ckM_ok hk).2.2.1
    rw [hk] at hc ⊢
    unfold awaitM at haw
    simp only [hok, ne_eq, not_true_eq_false, if_false] at haw
    unfold awC
    rcases h3 with rfl | rfl
    · rw [if_pos (by decide)]
      obtain ⟨gp, gc, np, nc, pp, pc, rfl, _⟩ := hg
      refine CallS.toV (CallS.intro (l := [_, _]) _ Tryz.func10 rfl Tryz.ntmps10 rfl ?_)
      refine G_seq (G_region ?_)
      (refine G_boxA rfl rfl rfl rfl (.none rfl) ?_; intro b2)
      (refine G_boxA rfl rfl rfl rfl (.none rfl) ?_; intro b3)
      refine Ga ?_
      refine Ga ?_
      refine Ga ?_
      refine G_end (X_then (G_seq (G_seq (G_region ?_))))
      refine Gv (V_loadA rfl rfl (Cells.own (.tail _ (.head _))) rfl) ?_
      refine Gv (V_loadA rfl rfl (Cells.own (.head _)) rfl) ?_
      refine G_callv (k := 15) (.mk rfl rfl rfl rfl) rfl rfl (.none rfl) (hc _) ?_
      refine Ga ?_
      refine G_end (X_then (G_seq (G_region ?_)))
      refine Gm ?_
      refine Gv (V_neq rfl rfl rfl) ?_
      refine G_end (X_then ?_)
      refine G_cond_f rfl (by kernel_rfl) ?_
      refine G_skip (X_then (G_seq (G_block (G_seq (G_region ?_)))))
      refine Gv (V_fieldAddr rfl rfl (by decide)) ?_
      refine Gv (V_load rfl rfl (Cell.own (.head _) rfl)) ?_
      refine Gv (V_neq rfl rfl rfl) ?_
      refine Ga ?_
      refine G_end (X_then ?_)
      refine G_cond_t rfl (by kernel_rfl) ?_
      refine G_seq (G_region ?_)
      refine Ga ?_
      refine Ga ?_
      refine Ga ?_
      refine G_end (X_then (G_ret (X_block_ret (X_then_ret ?_))))
      refine G_leaveS (.drop _ (.drop _ (.nil _))) (by exact (.cons (.tmp rfl) (.cons (.tmp rfl) (.cons (.tmp rfl) (.nil))))) rfl ?_ ?_
      · exact (.refl _)
      exact ⟨(by kernel_rfl), rfl⟩
    · rw [if_neg (by decide)]
      cases b with
      | false =>
        rw [if_pos rfl]
        obtain ⟨gp, gc, np, nc, pp, pc, rfl, _⟩ := hg
        refine CallS.toV (CallS.intro (l := [_, _]) _ Tryz.func10 rfl Tryz.ntmps10 rfl ?_)
        refine G_seq (G_region ?_)
        (refine G_boxA rfl rfl rfl rfl (.none rfl) ?_; intro b2)
        (refine G_boxA rfl rfl rfl rfl (.none rfl) ?_; intro b3)
        refine Ga ?_
        refine Ga ?_
        refine Ga ?_
        refine G_end (X_then (G_seq (G_seq (G_region ?_))))
        refine Gv (V_loadA rfl rfl (Cells.own (.tail _ (.head _))) rfl) ?_
        refine Gv (V_loadA rfl rfl (Cells.own (.head _)) rfl) ?_
        refine G_callv (k := 15) (.mk rfl rfl rfl rfl) rfl rfl (.none rfl) (hc _) ?_
        refine Ga ?_
        refine G_end (X_then (G_seq (G_region ?_)))
        refine Gm ?_
        refine Gv (V_neq rfl rfl rfl) ?_
        refine G_end (X_then ?_)
        refine G_cond_f rfl (by kernel_rfl) ?_
        refine G_skip (X_then (G_seq (G_block (G_seq (G_region ?_)))))
        refine Gv (V_fieldAddr rfl rfl (by decide)) ?_
        refine Gv (V_load rfl rfl (Cell.own (.head _) rfl)) ?_
        refine Gv (V_neq rfl rfl rfl) ?_
        refine Ga ?_
        refine G_end (X_then ?_)
        refine G_cond_f rfl (by kernel_rfl) ?_
        refine G_seq (G_region ?_)
        refine Gv (V_fieldAddr rfl rfl (by decide)) ?_
        refine Gv (V_load rfl rfl (Cell.own (.head _) rfl)) ?_
        refine Gv (V_not rfl rfl) ?_
        refine Ga ?_
        refine G_end (X_then ?_)
        refine G_cond_t rfl (by kernel_rfl) ?_
        refine G_seq ?_
        refine G_draw mixed (by kernel_rfl) ?_
        refine Q_val (V_fieldAddr rfl rfl (by decide)) rfl rfl (.none rfl) ?_
        refine Q_val (V_load rfl rfl (Cell.own (.tail _ (.head _)) rfl)) rfl rfl (.none rfl) ?_
        refine Q_val (V_assign rfl rfl) rfl rfl (.none rfl) ?_
        refine Q_val (V_assign rfl rfl) rfl rfl (.none rfl) ?_
        refine Q_val (V_assign rfl rfl) rfl rfl (.none rfl) ?_
        refine Q_end ?_
        refine X_then (G_ret (X_block_ret (X_then_ret ?_)))
        refine G_leaveS (.drop _ (.drop _ (.nil _))) (by exact (.cons (.tmp rfl) (.cons (.tmp rfl) (.cons (.tmp rfl) (.nil))))) rfl ?_ ?_
        · exact (.refl _)
        exact ⟨rfl, rfl⟩
      | true =>
        rw [if_neg (by decide)]
        generalize awS g.prods us = r at *
        obtain ⟨gp, gc, np, nc, pp, pc, rfl, _⟩ := hg
        refine CallS.toV (CallS.intro (l := [_, _]) _ Tryz.func10 rfl Tryz.ntmps10 rfl ?_)
        refine G_seq (G_region ?_)
        (refine G_boxA rfl rfl rfl rfl (.none rfl) ?_; intro b2)
        (refine G_boxA rfl rfl rfl rfl (.none rfl) ?_; intro b3)
        refine Ga ?_
        refine Ga ?_
        refine Ga ?_
        refine G_end (X_then (G_seq (G_seq (G_region ?_))))
        refine Gv (V_loadA rfl rfl (Cells.own (.tail _ (.head _))) rfl) ?_
        refine Gv (V_loadA rfl rfl (Cells.own (.head _)) rfl) ?_
        refine G_callv (k := 15) (.mk rfl rfl rfl rfl) rfl rfl (.none rfl) (hc _) ?_
        refine Ga ?_
        refine G_end (X_then (G_seq (G_region ?_)))
        refine Gm ?_
        refine Gv (V_neq rfl rfl rfl) ?_
        refine G_end (X_then ?_)
        refine G_cond_f rfl (by kernel_rfl) ?_
        refine G_skip (X_then (G_seq (G_block (G_seq (G_region ?_)))))
        refine Gv (V_fieldAddr rfl rfl (by decide)) ?_
        refine Gv (V_load rfl rfl (Cell.own (.head _) rfl)) ?_
        refine Gv (V_neq rfl rfl rfl) ?_
        refine Ga ?_
        refine G_end (X_then ?_)
        refine G_cond_f rfl (by kernel_rfl) ?_
        refine G_seq (G_region ?_)
        refine Gv (V_fieldAddr rfl rfl (by decide)) ?_
        refine Gv (V_load rfl rfl (Cell.own (.head _) rfl)) ?_
        refine Gv (V_not rfl rfl) ?_
        refine Ga ?_
        refine G_end (X_then ?_)
        refine G_cond_f rfl (by kernel_rfl) ?_
        refine G_skip (X_block (X_then (G_seq (G_region ?_))))
        refine Gv (V_loadA rfl rfl (Cells.own (.tail _ (.head _))) rfl) ?_
        refine Gv (V_fieldAddr rfl rfl (by decide)) ?_
        refine Gv (V_load rfl rfl (Cell.own (.head _) rfl)) ?_
        refine G_callv (k := 26) (.mk rfl rfl rfl rfl) rfl rfl (.none rfl) (haw _) ?_
        refine Gv (V_extract rfl rfl rfl) ?_
        refine Gv (V_extract rfl rfl rfl) ?_
        refine Gv (V_extract rfl rfl rfl) ?_
        refine Ga ?_
        refine Ga ?_
        refine Ga ?_
        refine G_end (X_then (G_ret ?_))
        refine G_leaveS (.drop _ (.drop _ (.nil _))) (by exact (.cons (.tmp rfl) (.cons (.tmp rfl) (.cons (.tmp rfl) (.nil))))) rfl ?_ ?_
        · exact (.refl _)
        exact ⟨rfl, rfl⟩
  · simp only [if_neg hk]
    generalize ckM g st at' part l e ea b us = x at *
    obtain ⟨gp, gc, np, nc, pp, pc, rfl, _⟩ := hg
    refine CallS.toV (CallS.intro (l := [_, _]) _ Tryz.func10 rfl Tryz.ntmps10 rfl ?_)
    refine G_seq (G_region ?_)
    (refine G_boxA rfl rfl rfl rfl (.none rfl) ?_; intro b2)
    (refine G_boxA rfl rfl rfl rfl (.none rfl) ?_; intro b3)
    refine Ga ?_
    refine Ga ?_
    refine Ga ?_
    refine G_end (X_then (G_seq (G_seq (G_region ?_))))
    refine Gv (V_loadA rfl rfl (Cells.own (.tail _ (.head _))) rfl) ?_
    refine Gv (V_loadA rfl rfl (Cells.own (.head _)) rfl) ?_
    refine G_callv (k := 15) (.mk rfl rfl rfl rfl) rfl rfl (.none rfl) (hc _) ?_
    refine Ga ?_
    refine G_end (X_then (G_seq (G_region ?_)))
    refine Gm ?_
    refine Gv (V_neq rfl rfl rfl) ?_
    refine G_end (X_then ?_)
    refine G_cond_t rfl (decide_eq_true (by omega)) ?_
    refine G_seq (G_region ?_)
    refine Gm ?_
    refine Ga ?_
    refine Ga ?_
    refine Ga ?_
    refine G_end (X_then (G_ret (X_then_ret ?_)))
    refine G_leaveS (.drop _ (.drop _ (.nil _))) (by exact (.cons (.tmp rfl) (.cons (.tmp rfl) (.cons (.tmp rfl) (.nil))))) rfl ?_ ?_
    · exact (.refl _)
    exact ⟨rfl, rfl⟩
end
end Go.Proofs.YtimiokmgnclggaaGreat
set_option linter.unusedSimpArgs false
set_option linter.unusedVariables false
set_option maxHeartbeats 2000000
set_option maxRecDepth 20000
namespace Go.Proofs.YtimiokmgnclggaaGreat
open Go.RowKit
/-! What configurations need, whether they wait, their place. -/
theorem awC_kind (g : Gr) (st : Int) (b : Bool) (us : List Spt) : 0 ≤ (awC g st b us).1 ∧ (awC g st b us).1 ≤ 3 := by
  unfold awC
  split
  · simp
  · split
    · simp
    · exact awS_kind _ _
section
variable (E : Env) (L : List Res) (st rc at' : Int) (part : List UInt8) (tp : Option Addr) (tn tc : Nat) (e ea : Int) (b : Bool) (sp : Option Addr) (sn sc : Nat)
  (gv : Value) (g : Gr) (hg : GrE E gv g) (hl : Light g) (h0 : gcheck g = 0)
  (h3 : st = 1 ∨ st = 2) (hr : rngB rc at' = true) (hp : part.length ≤ 1) (l : List Tok) (hs : SlE E 3 tp tn (toks l)) (hgr : gringB g.k g.toks.length l e ea = true) (us : List Spt) (hu : SlE E 2 sp sn (spC us)) (hn : sn ≤ 9223372036854775807)
include hg hl h0 h3 hr hp hs hgr hu hn
theorem CNeeds_call : CallV Tryz.prog 9 #[gv, cfV st rc at' part tp tn tc e ea b sp sn sc] E L
    (.tuple #[.int .i64 (if ckM g st at' part l e ea b us = 0 then needC g st l.length e b us else 0), .int .i64 (ckM g st at' part l e ea b us)]) := by
  have hc := fun L0 => CAwaits_call E L0 st rc at' part tp tn tc e ea b sp sn sc gv g hg hl h0 h3 hr hp l hs hgr us hu hn
  have hkind := awC_kind g st b us
  have hq := gring_iff.1 hgr
  obtain ⟨q1, q2, q3, q4, q5, _⟩ := hq
  have en := hs.nT
  by_cases hk : ckM g st at' part l e ea b us = 0
  · simp only [if_pos hk] at hc ⊢
    rw [hk] at hc ⊢
    unfold needC
    generalize awC g st b us = r at *
    obtain ⟨gp, gc, np, nc, pp, pc, rfl, _⟩ := hg
    rw [← en]
    rw [← en] at q5
    by_cases he : e = 0
    · subst he
      by_cases h3k : r.1 = 3
      · rw [if_pos (.inr h3k)]
        refine CallS.toV (CallS.intro (l := [_, _]) _ Tryz.func9 rfl Tryz.ntmps9 rfl ?_)
        refine G_seq (G_region ?_)
        (refine G_boxA rfl rfl rfl rfl (.none rfl) ?_; intro b2)
        (refine G_boxA rfl rfl rfl rfl (.none rfl) ?_; intro b3)
        refine Ga ?_
        refine Ga ?_
        refine G_end (X_then (G_seq (G_region ?_)))
        refine Gv (V_loadA rfl rfl (Cells.own (.tail _ (.head _))) rfl) ?_
        refine Gv (V_loadA rfl rfl (Cells.own (.head _)) rfl) ?_
        refine G_callv (k := 10) (.mk rfl rfl rfl rfl) rfl rfl (.none rfl) (hc _) ?_
        refine Gm ?_
        refine Gv (V_extract rfl rfl rfl) ?_
        refine Gv (V_extract rfl rfl rfl) ?_
        refine Gv (V_extract rfl rfl rfl) ?_
        refine Ga ?_
        refine Ga ?_
        refine Ga ?_
        refine G_end (X_then (G_seq (G_seq (G_region ?_))))
        refine Gm ?_
        refine Gv (V_neq rfl rfl rfl) ?_
        refine G_end (X_then ?_)
        refine G_cond_f rfl (by kernel_rfl) ?_
        refine G_skip (X_then (G_seq (G_region ?_)))
        refine Gv (V_fieldAddr rfl rfl (by decide)) ?_
        refine Gv (V_fieldAddr rfl rfl (by decide)) ?_
        refine Gv (V_load rfl rfl (Cell.own (.head _) rfl)) ?_
        refine Gv (V_lenS rfl rfl) ?_
        refine Ga ?_
        refine G_end (X_then (G_seq (G_block (G_seq (G_region ?_)))))
        refine Gv (V_loadA rfl rfl (Cells.own (.head _)) rfl) ?_
        refine G_callv (k := 17) (.mk rfl rfl rfl rfl) rfl rfl (.none rfl) (Stopped_call _ _ _ _ _ _ _ _ _ _ _ _ _ _ _) ?_
        refine Gm ?_
        apply G_joinOr 5 27 32 rfl
        · intro H1
          dsimp only [List.take]
          simp only [Bool.and_eq_true, Bool.or_eq_true, Bool.not_eq_true', Bool.not_eq_false', Bool.and_eq_false_iff, Bool.or_eq_false_iff, Bool.not_not, decide_eq_true_eq, decide_eq_false_iff_not, ne_eq, Decidable.not_not, Bool.decide_eq_true] at H1
          (exfalso; omega)
        · intro H2
          dsimp only [List.take]
          simp only [Bool.and_eq_true, Bool.or_eq_true, Bool.not_eq_true', Bool.not_eq_false', Bool.and_eq_false_iff, Bool.or_eq_false_iff, Bool.not_not, decide_eq_true_eq, decide_eq_false_iff_not, ne_eq, Decidable.not_not, Bool.decide_eq_true] at H2
          refine Gy (V_fieldAddr rfl rfl (by decide)) ?_
          refine Gy (V_fieldAddr rfl rfl (by decide)) ?_
          refine Gy (V_load rfl rfl (Cell.own (.head _) rfl)) ?_
          refine Gy (V_neq rfl rfl rfl) ?_
          refine Gv (V_pick_f rfl rfl rfl) ?_
          refine G_end ?_
          exact JQ_end 5 rfl rfl (by kernel_rfl)
        dsimp only [List.drop]
        refine Gm ?_
        apply G_joinOr 3 33 36 rfl
        · intro H3
          dsimp only [List.take]
          simp only [Bool.and_eq_true, Bool.or_eq_true, Bool.not_eq_true', Bool.not_eq_false', Bool.and_eq_false_iff, Bool.or_eq_false_iff, Bool.not_not, decide_eq_true_eq, decide_eq_false_iff_not, ne_eq, Decidable.not_not, Bool.decide_eq_true] at H3
          refine Gn ?_
          refine Gn ?_
          refine Gv (V_pick_t rfl rfl rfl) ?_
          refine G_end ?_
          exact JQ_end 3 rfl rfl (by kernel_rfl)
        · intro H4
          dsimp only [List.take]
          simp only [Bool.and_eq_true, Bool.or_eq_true, Bool.not_eq_true', Bool.not_eq_false', Bool.and_eq_false_iff, Bool.or_eq_false_iff, Bool.not_not, decide_eq_true_eq, decide_eq_false_iff_not, ne_eq, Decidable.not_not, Bool.decide_eq_true] at H4
          refine Gy (V_move rfl rfl) ?_
          refine Gy (V_eql rfl rfl rfl) ?_
          refine Gv (V_pick_f rfl rfl rfl) ?_
          refine G_end ?_
          exact JQ_end 3 rfl rfl (by kernel_rfl)
        dsimp only [List.drop]
        refine Ga ?_
        refine G_end (X_then ?_)
        refine G_cond_t rfl (by simp [*]; done) ?_
        refine G_seq (G_region ?_)
        refine Ga ?_
        refine Ga ?_
        refine G_end (X_then (G_ret (X_block_ret (X_then_ret ?_))))
        refine G_leaveS (.drop _ (.drop _ (.nil _))) (by exact (.cons (.tmp rfl) (.cons (.tmp rfl) (.nil)))) rfl ?_ ?_
        · exact (.refl _)
        exact ⟨(by kernel_rfl), rfl⟩
      · rw [if_neg (by omega)]
        by_cases h2k : r.1 = 2
        · rw [if_pos h2k]
          refine CallS.toV (CallS.intro (l := [_, _]) _ Tryz.func9 rfl Tryz.ntmps9 rfl ?_)
          refine G_seq (G_region ?_)
          (refine G_boxA rfl rfl rfl rfl (.none rfl) ?_; intro b2)
          (refine G_boxA rfl rfl rfl rfl (.none rfl) ?_; intro b3)
          refine Ga ?_
          refine Ga ?_
          refine G_end (X_then (G_seq (G_region ?_)))
          refine Gv (V_loadA rfl rfl (Cells.own (.tail _ (.head _))) rfl) ?_
          refine Gv (V_loadA rfl rfl (Cells.own (.head _)) rfl) ?_
          refine G_callv (k := 10) (.mk rfl rfl rfl rfl) rfl rfl (.none rfl) (hc _) ?_
          refine Gm ?_
          refine Gv (V_extract rfl rfl rfl) ?_
          refine Gv (V_extract rfl rfl rfl) ?_
          refine Gv (V_extract rfl rfl rfl) ?_
          refine Ga ?_
          refine Ga ?_
          refine Ga ?_
          refine G_end (X_then (G_seq (G_seq (G_region ?_))))
          refine Gm ?_
          refine Gv (V_neq rfl rfl rfl) ?_
          refine G_end (X_then ?_)
          refine G_cond_f rfl (by kernel_rfl) ?_
          refine G_skip (X_then (G_seq (G_region ?_)))
          refine Gv (V_fieldAddr rfl rfl (by decide)) ?_
          refine Gv (V_fieldAddr rfl rfl (by decide)) ?_
          refine Gv (V_load rfl rfl (Cell.own (.head _) rfl)) ?_
          refine Gv (V_lenS rfl rfl) ?_
          refine Ga ?_
          refine G_end (X_then (G_seq (G_block (G_seq (G_region ?_)))))
          refine Gv (V_loadA rfl rfl (Cells.own (.head _)) rfl) ?_
          refine G_callv (k := 17) (.mk rfl rfl rfl rfl) rfl rfl (.none rfl) (Stopped_call _ _ _ _ _ _ _ _ _ _ _ _ _ _ _) ?_
          refine Gm ?_
          apply G_joinOr 5 27 32 rfl
          · intro H1
            dsimp only [List.take]
            simp only [Bool.and_eq_true, Bool.or_eq_true, Bool.not_eq_true', Bool.not_eq_false', Bool.and_eq_false_iff, Bool.or_eq_false_iff, Bool.not_not, decide_eq_true_eq, decide_eq_false_iff_not, ne_eq, Decidable.not_not, Bool.decide_eq_true] at H1
            (exfalso; omega)
          · intro H2
            dsimp only [List.take]
            simp only [Bool.and_eq_true, Bool.or_eq_true, Bool.not_eq_true', Bool.not_eq_false', Bool.and_eq_false_iff, Bool.or_eq_false_iff, Bool.not_not, decide_eq_true_eq, decide_eq_false_iff_not, ne_eq, Decidable.not_not, Bool.decide_eq_true] at H2
            refine Gy (V_fieldAddr rfl rfl (by decide)) ?_
            refine Gy (V_fieldAddr rfl rfl (by decide)) ?_
            refine Gy (V_load rfl rfl (Cell.own (.head _) rfl)) ?_
            refine Gy (V_neq rfl rfl rfl) ?_
            refine Gv (V_pick_f rfl rfl rfl) ?_
            refine G_end ?_
            exact JQ_end 5 rfl rfl (by kernel_rfl)
          dsimp only [List.drop]
          refine Gm ?_
          apply G_joinOr 3 33 36 rfl
          · intro H3
            dsimp only [List.take]
            simp only [Bool.and_eq_true, Bool.or_eq_true, Bool.not_eq_true', Bool.not_eq_false', Bool.and_eq_false_iff, Bool.or_eq_false_iff, Bool.not_not, decide_eq_true_eq, decide_eq_false_iff_not, ne_eq, Decidable.not_not, Bool.decide_eq_true] at H3
            refine Gn ?_
            refine Gn ?_
            refine Gv (V_pick_t rfl rfl rfl) ?_
            refine G_end ?_
            exact JQ_end 3 rfl rfl (by kernel_rfl)
          · intro H4
            dsimp only [List.take]
            simp only [Bool.and_eq_true, Bool.or_eq_true, Bool.not_eq_true', Bool.not_eq_false', Bool.and_eq_false_iff, Bool.or_eq_false_iff, Bool.not_not, decide_eq_true_eq, decide_eq_false_iff_not, ne_eq, Decidable.not_not, Bool.decide_eq_true] at H4
            refine Gy (V_move rfl rfl) ?_
            refine Gy (V_eql rfl rfl rfl) ?_
            refine Gv (V_pick_f rfl rfl rfl) ?_
            refine G_end ?_
            exact JQ_end 3 rfl rfl (by kernel_rfl)
          dsimp only [List.drop]
          refine Ga ?_
          refine G_end (X_then ?_)
          refine G_cond rfl (fun H5 => ?_) (fun H5 => ?_)
          · simp only [Bool.and_eq_true, Bool.or_eq_true, Bool.not_eq_true', Bool.not_eq_false', Bool.and_eq_false_iff, Bool.or_eq_false_iff, Bool.not_not, decide_eq_true_eq, decide_eq_false_iff_not, ne_eq, Decidable.not_not, Bool.decide_eq_true] at H5
            refine G_seq (G_region ?_)
            refine Ga ?_
            refine Ga ?_
            refine G_end (X_then (G_ret (X_block_ret (X_then_ret ?_))))
            refine G_leaveS (.drop _ (.drop _ (.nil _))) (by exact (.cons (.tmp rfl) (.cons (.tmp rfl) (.nil)))) rfl ?_ ?_
            · exact (.refl _)
            exact ⟨(by ((try simp only [resVal]); (repeat' split) <;> first | rfl | (exfalso; omega) | (simp_all; done) | (simp_all; omega))), (by rfl)⟩
          simp only [Bool.and_eq_true, Bool.or_eq_true, Bool.not_eq_true', Bool.not_eq_false', Bool.and_eq_false_iff, Bool.or_eq_false_iff, Bool.not_not, decide_eq_true_eq, decide_eq_false_iff_not, ne_eq, Decidable.not_not, Bool.decide_eq_true] at H5
          refine G_seq (G_region ?_)
          refine Gm ?_
          refine Gv (V_eql rfl rfl rfl) ?_
          refine Ga ?_
          refine G_end (X_then ?_)
          refine G_cond_t rfl (decide_eq_true (by omega)) ?_
          refine G_seq (G_region ?_)
          refine Gv (V_fieldAddr rfl rfl (by decide)) ?_
          refine Gv (V_load rfl rfl (Cell.own (.tail _ (.head _)) rfl)) ?_
          refine Gm ?_
          refine Gv (V_sub_i64 rfl rfl rfl (by omega) (by omega)) ?_
          refine Gv (V_max rfl rfl rfl) ?_
          refine Ga ?_
          refine Ga ?_
          refine G_end (X_then (G_ret (X_block_ret (X_then_ret ?_))))
          refine G_leaveS (.drop _ (.drop _ (.nil _))) (by exact (.cons (.tmp rfl) (.cons (.tmp rfl) (.nil)))) rfl ?_ ?_
          · exact (.refl _)
          exact ⟨rfl, rfl⟩
        · rw [if_neg h2k]
          refine CallS.toV (CallS.intro (l := [_, _]) _ Tryz.func9 rfl Tryz.ntmps9 rfl ?_)
          refine G_seq (G_region ?_)
          (refine G_boxA rfl rfl rfl rfl (.none rfl) ?_; intro b2)
          (refine G_boxA rfl rfl rfl rfl (.none rfl) ?_; intro b3)
          refine Ga ?_
          refine Ga ?_
          refine G_end (X_then (G_seq (G_region ?_)))
          refine Gv (V_loadA rfl rfl (Cells.own (.tail _ (.head _))) rfl) ?_
          refine Gv (V_loadA rfl rfl (Cells.own (.head _)) rfl) ?_
          refine G_callv (k := 10) (.mk rfl rfl rfl rfl) rfl rfl (.none rfl) (hc _) ?_
          refine Gm ?_
          refine Gv (V_extract rfl rfl rfl) ?_
          refine Gv (V_extract rfl rfl rfl) ?_
          refine Gv (V_extract rfl rfl rfl) ?_
          refine Ga ?_
          refine Ga ?_
          refine Ga ?_
          refine G_end (X_then (G_seq (G_seq (G_region ?_))))
          refine Gm ?_
          refine Gv (V_neq rfl rfl rfl) ?_
          refine G_end (X_then ?_)
          refine G_cond_f rfl (by kernel_rfl) ?_
          refine G_skip (X_then (G_seq (G_region ?_)))
          refine Gv (V_fieldAddr rfl rfl (by decide)) ?_
          refine Gv (V_fieldAddr rfl rfl (by decide)) ?_
          refine Gv (V_load rfl rfl (Cell.own (.head _) rfl)) ?_
          refine Gv (V_lenS rfl rfl) ?_
          refine Ga ?_
          refine G_end (X_then (G_seq (G_block (G_seq (G_region ?_)))))
          refine Gv (V_loadA rfl rfl (Cells.own (.head _)) rfl) ?_
          refine G_callv (k := 17) (.mk rfl rfl rfl rfl) rfl rfl (.none rfl) (Stopped_call _ _ _ _ _ _ _ _ _ _ _ _ _ _ _) ?_
          refine Gm ?_
          apply G_joinOr 5 27 32 rfl
          · intro H1
            dsimp only [List.take]
            simp only [Bool.and_eq_true, Bool.or_eq_true, Bool.not_eq_true', Bool.not_eq_false', Bool.and_eq_false_iff, Bool.or_eq_false_iff, Bool.not_not, decide_eq_true_eq, decide_eq_false_iff_not, ne_eq, Decidable.not_not, Bool.decide_eq_true] at H1
            (exfalso; omega)
          · intro H2
            dsimp only [List.take]
            simp only [Bool.and_eq_true, Bool.or_eq_true, Bool.not_eq_true', Bool.not_eq_false', Bool.and_eq_false_iff, Bool.or_eq_false_iff, Bool.not_not, decide_eq_true_eq, decide_eq_false_iff_not, ne_eq, Decidable.not_not, Bool.decide_eq_true] at H2
            refine Gy (V_fieldAddr rfl rfl (by decide)) ?_
            refine Gy (V_fieldAddr rfl rfl (by decide)) ?_
            refine Gy (V_load rfl rfl (Cell.own (.head _) rfl)) ?_
            refine Gy (V_neq rfl rfl rfl) ?_
            refine Gv (V_pick_f rfl rfl rfl) ?_
            refine G_end ?_
            exact JQ_end 5 rfl rfl (by kernel_rfl)
          dsimp only [List.drop]
          refine Gm ?_
          apply G_joinOr 3 33 36 rfl
          · intro H3
            dsimp only [List.take]
            simp only [Bool.and_eq_true, Bool.or_eq_true, Bool.not_eq_true', Bool.not_eq_false', Bool.and_eq_false_iff, Bool.or_eq_false_iff, Bool.not_not, decide_eq_true_eq, decide_eq_false_iff_not, ne_eq, Decidable.not_not, Bool.decide_eq_true] at H3
            refine Gn ?_
            refine Gn ?_
            refine Gv (V_pick_t rfl rfl rfl) ?_
            refine G_end ?_
            exact JQ_end 3 rfl rfl (by kernel_rfl)
          · intro H4
            dsimp only [List.take]
            simp only [Bool.and_eq_true, Bool.or_eq_true, Bool.not_eq_true', Bool.not_eq_false', Bool.and_eq_false_iff, Bool.or_eq_false_iff, Bool.not_not, decide_eq_true_eq, decide_eq_false_iff_not, ne_eq, Decidable.not_not, Bool.decide_eq_true] at H4
            refine Gy (V_move rfl rfl) ?_
            refine Gy (V_eql rfl rfl rfl) ?_
            refine Gv (V_pick_f rfl rfl rfl) ?_
            refine G_end ?_
            exact JQ_end 3 rfl rfl (by kernel_rfl)
          dsimp only [List.drop]
          refine Ga ?_
          refine G_end (X_then ?_)
          refine G_cond rfl (fun H5 => ?_) (fun H5 => ?_)
          · simp only [Bool.and_eq_true, Bool.or_eq_true, Bool.not_eq_true', Bool.not_eq_false', Bool.and_eq_false_iff, Bool.or_eq_false_iff, Bool.not_not, decide_eq_true_eq, decide_eq_false_iff_not, ne_eq, Decidable.not_not, Bool.decide_eq_true] at H5
            refine G_seq (G_region ?_)
            refine Ga ?_
            refine Ga ?_
            refine G_end (X_then (G_ret (X_block_ret (X_then_ret ?_))))
            refine G_leaveS (.drop _ (.drop _ (.nil _))) (by exact (.cons (.tmp rfl) (.cons (.tmp rfl) (.nil)))) rfl ?_ ?_
            · exact (.refl _)
            exact ⟨(by ((try simp only [resVal]); (repeat' split) <;> first | rfl | (exfalso; omega) | (simp_all; done) | (simp_all; omega))), (by rfl)⟩
          simp only [Bool.and_eq_true, Bool.or_eq_true, Bool.not_eq_true', Bool.not_eq_false', Bool.and_eq_false_iff, Bool.or_eq_false_iff, Bool.not_not, decide_eq_true_eq, decide_eq_false_iff_not, ne_eq, Decidable.not_not, Bool.decide_eq_true] at H5
          refine G_seq (G_region ?_)
          refine Gm ?_
          refine Gv (V_eql rfl rfl rfl) ?_
          refine Ga ?_
          refine G_end (X_then ?_)
          refine G_cond_f rfl (decide_eq_false (by omega)) ?_
          refine G_skip (X_block (X_then (G_seq (G_region ?_))))
          refine Gm ?_
          refine Gv (V_sub_i64 rfl rfl rfl (by omega) (by omega)) ?_
          refine Gv (V_max rfl rfl rfl) ?_
          refine Ga ?_
          refine Ga ?_
          refine G_end (X_then (G_ret ?_))
          refine G_leaveS (.drop _ (.drop _ (.nil _))) (by exact (.cons (.tmp rfl) (.cons (.tmp rfl) (.nil)))) rfl ?_ ?_
          · exact (.refl _)
          exact ⟨rfl, rfl⟩
    · rw [if_pos (.inl he)]
      refine CallS.toV (CallS.intro (l := [_, _]) _ Tryz.func9 rfl Tryz.ntmps9 rfl ?_)
      refine G_seq (G_region ?_)
      (refine G_boxA rfl rfl rfl rfl (.none rfl) ?_; intro b2)
      (refine G_boxA rfl rfl rfl rfl (.none rfl) ?_; intro b3)
      refine Ga ?_
      refine Ga ?_
      refine G_end (X_then (G_seq (G_region ?_)))
      refine Gv (V_loadA rfl rfl (Cells.own (.tail _ (.head _))) rfl) ?_
      refine Gv (V_loadA rfl rfl (Cells.own (.head _)) rfl) ?_
      refine G_callv (k := 10) (.mk rfl rfl rfl rfl) rfl rfl (.none rfl) (hc _) ?_
      refine Gm ?_
      refine Gv (V_extract rfl rfl rfl) ?_
      refine Gv (V_extract rfl rfl rfl) ?_
      refine Gv (V_extract rfl rfl rfl) ?_
      refine Ga ?_
      refine Ga ?_
      refine Ga ?_
      refine G_end (X_then (G_seq (G_seq (G_region ?_))))
      refine Gm ?_
      refine Gv (V_neq rfl rfl rfl) ?_
      refine G_end (X_then ?_)
      refine G_cond_f rfl (by kernel_rfl) ?_
      refine G_skip (X_then (G_seq (G_region ?_)))
      refine Gv (V_fieldAddr rfl rfl (by decide)) ?_
      refine Gv (V_fieldAddr rfl rfl (by decide)) ?_
      refine Gv (V_load rfl rfl (Cell.own (.head _) rfl)) ?_
      refine Gv (V_lenS rfl rfl) ?_
      refine Ga ?_
      refine G_end (X_then (G_seq (G_block (G_seq (G_region ?_)))))
      refine Gv (V_loadA rfl rfl (Cells.own (.head _)) rfl) ?_
      refine G_callv (k := 17) (.mk rfl rfl rfl rfl) rfl rfl (.none rfl) (Stopped_call _ _ _ _ _ _ _ _ _ _ _ _ _ _ _) ?_
      refine Gm ?_
      apply G_joinOr 5 27 32 rfl
      · intro H1
        dsimp only [List.take]
        simp only [Bool.and_eq_true, Bool.or_eq_true, Bool.not_eq_true', Bool.not_eq_false', Bool.and_eq_false_iff, Bool.or_eq_false_iff, Bool.not_not, decide_eq_true_eq, decide_eq_false_iff_not, ne_eq, Decidable.not_not, Bool.decide_eq_true] at H1
        (exfalso; omega)
      · intro H2
        dsimp only [List.take]
        simp only [Bool.and_eq_true, Bool.or_eq_true, Bool.not_eq_true', Bool.not_eq_false', Bool.and_eq_false_iff, Bool.or_eq_false_iff, Bool.not_not, decide_eq_true_eq, decide_eq_false_iff_not, ne_eq, Decidable.not_not, Bool.decide_eq_true] at H2
        refine Gy (V_fieldAddr rfl rfl (by decide)) ?_
        refine Gy (V_fieldAddr rfl rfl (by decide)) ?_
        refine Gy (V_load rfl rfl (Cell.own (.head _) rfl)) ?_
        refine Gy (V_neq rfl rfl rfl) ?_
        refine Gv (V_pick_f rfl rfl rfl) ?_
        refine G_end ?_
        exact JQ_end 5 rfl rfl (by kernel_rfl)
      dsimp only [List.drop]
      refine Gm ?_
      refine G.bool_t 33 rfl (by simp [*]; done) ?_
      refine Gn ?_
      refine Gn ?_
      refine Gv (V_pick_t rfl rfl rfl) ?_
      refine Ga ?_
      refine G_end (X_then ?_)
      refine G_cond_t rfl rfl ?_
      refine G_seq (G_region ?_)
      refine Ga ?_
      refine Ga ?_
      refine G_end (X_then (G_ret (X_block_ret (X_then_ret ?_))))
      refine G_leaveS (.drop _ (.drop _ (.nil _))) (by exact (.cons (.tmp rfl) (.cons (.tmp rfl) (.nil)))) rfl ?_ ?_
      · exact (.refl _)
      exact ⟨(by kernel_rfl), rfl⟩
  · simp only [if_neg hk] at hc ⊢
    generalize ckM g st at' part l e ea b us = x at *
    obtain ⟨gp, gc, np, nc, pp, pc, rfl, _⟩ := hg
    refine CallS.toV (CallS.intro (l := [_, _]) _ Tryz.func9 rfl Tryz.ntmps9 rfl ?_)
    refine G_seq (G_region ?_)
    (refine G_boxA rfl rfl rfl rfl (.none rfl) ?_; intro b2)
    (refine G_boxA rfl rfl rfl rfl (.none rfl) ?_; intro b3)
    refine Ga ?_
    refine Ga ?_
    refine G_end (X_then (G_seq (G_region ?_)))
    refine Gv (V_loadA rfl rfl (Cells.own (.tail _ (.head _))) rfl) ?_
    refine Gv (V_loadA rfl rfl (Cells.own (.head _)) rfl) ?_
    refine G_callv (k := 10) (.mk rfl rfl rfl rfl) rfl rfl (.none rfl) (hc _) ?_
    refine Gm ?_
    refine Gv (V_extract rfl rfl rfl) ?_
    refine Gv (V_extract rfl rfl rfl) ?_
    refine Gv (V_extract rfl rfl rfl) ?_
    refine Ga ?_
    refine Ga ?_
    refine Ga ?_
    refine G_end (X_then (G_seq (G_seq (G_region ?_))))
    refine Gm ?_
    refine Gv (V_neq rfl rfl rfl) ?_
    refine G_end (X_then ?_)
    refine G_cond_t rfl (decide_eq_true (by omega)) ?_
    refine G_seq (G_region ?_)
    refine Gm ?_
    refine Ga ?_
    refine Ga ?_
    refine G_end (X_then (G_ret (X_then_ret ?_)))
    refine G_leaveS (.drop _ (.drop _ (.nil _))) (by exact (.cons (.tmp rfl) (.cons (.tmp rfl) (.nil)))) rfl ?_ ?_
    · exact (.refl _)
    exact ⟨rfl, rfl⟩
theorem CWaits_call : CallV Tryz.prog 12 #[gv, cfV st rc at' part tp tn tc e ea b sp sn sc] E L
    (.tuple #[.bool (decide (0 < (if ckM g st at' part l e ea b us = 0 then needC g st l.length e b us else 0))), .int .i64 (ckM g st at' part l e ea b us)]) := by
  have hc := fun L0 => CNeeds_call E L0 st rc at' part tp tn tc e ea b sp sn sc gv g hg hl h0 h3 hr hp l hs hgr us hu hn
  generalize (if ckM g st at' part l e ea b us = 0 then needC g st l.length e b us else 0) = y at *
  generalize ckM g st at' part l e ea b us = x at *
  obtain ⟨gp, gc, np, nc, pp, pc, rfl, _⟩ := hg
  refine CallS.toV (CallS.intro (l := [_, _]) _ Tryz.func12 rfl Tryz.ntmps12 rfl ?_)
  refine G_seq (G_region ?_)
  (refine G_boxA rfl rfl rfl rfl (.none rfl) ?_; intro b2)
  (refine G_boxA rfl rfl rfl rfl (.none rfl) ?_; intro b3)
  refine Ga ?_
  refine Ga ?_
  refine G_end (X_then (G_seq (G_region ?_)))
  refine Gv (V_loadA rfl rfl (Cells.own (.tail _ (.head _))) rfl) ?_
  refine Gv (V_loadA rfl rfl (Cells.own (.head _)) rfl) ?_
  refine G_callv (k := 9) (.mk rfl rfl rfl rfl) rfl rfl (.none rfl) (hc _) ?_
  refine Gm ?_
  refine Gv (V_extract rfl rfl rfl) ?_
  refine Gv (V_extract rfl rfl rfl) ?_
  refine Ga ?_
  refine Ga ?_
  refine G_end (X_then (G_seq (G_region ?_)))
  refine Gm ?_
  refine Gv (V_gtr rfl rfl rfl) ?_
  refine Gm ?_
  refine Ga ?_
  refine Ga ?_
  refine G_end (X_then (G_ret ?_))
  refine G_leaveS (.drop _ (.drop _ (.nil _))) (by exact (.cons (.tmp rfl) (.cons (.tmp rfl) (.nil)))) rfl ?_ ?_
  · exact (.refl _)
  exact ⟨rfl, rfl⟩
/-- The place: the first token's, or where the part begins. -/
def plcC (at' : Int) (pn : Nat) (l : List Tok) : Int := match l with
  | [] => at' - pn
  | t :: _ => t.at'
theorem CPlace_call (he : e = 0) : CallV Tryz.prog 13 #[gv, cfV st rc at' part tp tn tc e ea b sp sn sc] E L
    (.tuple #[.int .i64 (if ckM g st at' part l e ea b us = 0 then plcC at' part.length l else 0), .int .i64 (ckM g st at' part l e ea b us)]) := by
  have hc := fun L0 => CCheck_call E L0 st rc at' part tp tn tc e ea b sp sn sc gv g hg hl h0 h3 hr hp l hs hgr us hu hn
  have hrr := hr
  simp only [rngB, Bool.and_eq_true, decide_eq_true_eq] at hrr
  obtain ⟨_, w1, w2⟩ := hrr
  have en := hs.nT
  by_cases hk : ckM g st at' part l e ea b us = 0
  · simp only [if_pos hk]
    rw [hk] at hc ⊢
    match l, hs, hgr with
    | [], hs, hgr =>
      obtain rfl : tn = 0 := en
      have hpl := fun L0 => PlaceEmpty_call E L0 g.k g.toks.length tp 0 tc e ea [] hs hgr rfl he
      obtain ⟨gp, gc, np, nc, pp, pc, rfl, _⟩ := hg
      unfold plcC
      refine CallS.toV (CallS.intro (l := [_, _]) _ Tryz.func13 rfl Tryz.ntmps13 rfl ?_)
      refine G_seq (G_region ?_)
      (refine G_boxA rfl rfl rfl rfl (.none rfl) ?_; intro b2)
      (refine G_boxA rfl rfl rfl rfl (.none rfl) ?_; intro b3)
      refine Ga ?_
      refine Ga ?_
      refine G_end (X_then (G_seq (G_seq (G_region ?_))))
      refine Gv (V_loadA rfl rfl (Cells.own (.tail _ (.head _))) rfl) ?_
      refine Gv (V_loadA rfl rfl (Cells.own (.head _)) rfl) ?_
      refine G_callv (k := 15) (.mk rfl rfl rfl rfl) rfl rfl (.none rfl) (hc _) ?_
      refine Ga ?_
      refine G_end (X_then (G_seq (G_region ?_)))
      refine Gm ?_
      refine Gv (V_neq rfl rfl rfl) ?_
      refine G_end (X_then ?_)
      refine G_cond_f rfl (by kernel_rfl) ?_
      refine G_skip (X_then (G_seq (G_region ?_)))
      refine Gv (V_fieldAddr rfl rfl (by decide)) ?_
      refine Gv (V_load rfl rfl (Cell.own (.tail _ (.head _)) rfl)) ?_
      refine Gv (V_fieldAddr rfl rfl (by decide)) ?_
      refine Gv (V_load rfl rfl (Cell.own (.tail _ (.head _)) rfl)) ?_
      refine Gv (V_lenS rfl rfl) ?_
      refine Gv (V_fieldAddr rfl rfl (by decide)) ?_
      refine Gv (V_loadF rfl rfl (.head _) (by simp only [Nat.zero_add, List.drop_succ_cons, List.drop_zero, List.take_succ_cons, List.take_zero]; rfl) (by rfl)) ?_
      refine G_callv (k := 27) (.mk rfl rfl rfl rfl) rfl rfl (.none rfl) (hpl _) ?_
      refine Gm ?_
      refine Gv (V_extract rfl rfl rfl) ?_
      refine Gv (V_extract rfl rfl rfl) ?_
      refine Ga ?_
      refine Ga ?_
      refine G_end (X_then (G_seq (G_seq (G_region ?_))))
      refine Gm ?_
      refine Gv (V_neq rfl rfl rfl) ?_
      refine G_end (X_then ?_)
      refine G_cond_t rfl (by kernel_rfl) ?_
      refine G_seq (G_region ?_)
      refine Gv (V_fieldAddr rfl rfl (by decide)) ?_
      refine Gv (V_load rfl rfl (Cell.own (.head _) rfl)) ?_
      refine Gv (V_fieldAddr rfl rfl (by decide)) ?_
      refine Gv (V_load rfl rfl (Cell.own (.head _) rfl)) ?_
      refine Gv (V_len rfl rfl) ?_
      refine Gv (V_sub_i64 rfl rfl rfl (by omega) (by omega)) ?_
      refine Ga ?_
      refine Ga ?_
      refine G_end (X_then (G_ret (X_then_ret ?_)))
      refine G_leaveS (.drop _ (.drop _ (.nil _))) (by exact (.cons (.tmp rfl) (.cons (.tmp rfl) (.nil)))) rfl ?_ ?_
      · exact (.refl _)
      exact ⟨rfl, rfl⟩
    | ⟨ta, ts, td⟩ :: l, hs, hgr =>
      have hpl := fun L0 => Place_call E L0 g.k g.toks.length tp tn tc e ea _ hs hgr (by rw [en]; simp) ta ts td rfl
      obtain ⟨gp, gc, np, nc, pp, pc, rfl, _⟩ := hg
      unfold plcC
      refine CallS.toV (CallS.intro (l := [_, _]) _ Tryz.func13 rfl Tryz.ntmps13 rfl ?_)
      refine G_seq (G_region ?_)
      (refine G_boxA rfl rfl rfl rfl (.none rfl) ?_; intro b2)
      (refine G_boxA rfl rfl rfl rfl (.none rfl) ?_; intro b3)
      refine Ga ?_
      refine Ga ?_
      refine G_end (X_then (G_seq (G_seq (G_region ?_))))
      refine Gv (V_loadA rfl rfl (Cells.own (.tail _ (.head _))) rfl) ?_
      refine Gv (V_loadA rfl rfl (Cells.own (.head _)) rfl) ?_
      refine G_callv (k := 15) (.mk rfl rfl rfl rfl) rfl rfl (.none rfl) (hc _) ?_
      refine Ga ?_
      refine G_end (X_then (G_seq (G_region ?_)))
      refine Gm ?_
      refine Gv (V_neq rfl rfl rfl) ?_
      refine G_end (X_then ?_)
      refine G_cond_f rfl (by kernel_rfl) ?_
      refine G_skip (X_then (G_seq (G_region ?_)))
      refine Gv (V_fieldAddr rfl rfl (by decide)) ?_
      refine Gv (V_load rfl rfl (Cell.own (.tail _ (.head _)) rfl)) ?_
      refine Gv (V_fieldAddr rfl rfl (by decide)) ?_
      refine Gv (V_load rfl rfl (Cell.own (.tail _ (.head _)) rfl)) ?_
      refine Gv (V_lenS rfl rfl) ?_
      refine Gv (V_fieldAddr rfl rfl (by decide)) ?_
      refine Gv (V_loadF rfl rfl (.head _) (by simp only [Nat.zero_add, List.drop_succ_cons, List.drop_zero, List.take_succ_cons, List.take_zero]; rfl) (by rfl)) ?_
      refine G_callv (k := 27) (.mk rfl rfl rfl rfl) rfl rfl (.none rfl) (hpl _) ?_
      refine Gm ?_
      refine Gv (V_extract rfl rfl rfl) ?_
      refine Gv (V_extract rfl rfl rfl) ?_
      refine Ga ?_
      refine Ga ?_
      refine G_end (X_then (G_seq (G_seq (G_region ?_))))
      refine Gm ?_
      refine Gv (V_neq rfl rfl rfl) ?_
      refine G_end (X_then ?_)
      refine G_cond_f rfl (by kernel_rfl) ?_
      refine G_skip (X_then (G_seq (G_region ?_)))
      refine Gm ?_
      refine Ga ?_
      refine Ga ?_
      refine G_end (X_then (G_ret ?_))
      refine G_leaveS (.drop _ (.drop _ (.nil _))) (by exact (.cons (.tmp rfl) (.cons (.tmp rfl) (.nil)))) rfl ?_ ?_
      · exact (.refl _)
      exact ⟨rfl, rfl⟩
  · simp only [if_neg hk]
    generalize ckM g st at' part l e ea b us = x at *
    obtain ⟨gp, gc, np, nc, pp, pc, rfl, _⟩ := hg
    refine CallS.toV (CallS.intro (l := [_, _]) _ Tryz.func13 rfl Tryz.ntmps13 rfl ?_)
    refine G_seq (G_region ?_)
    (refine G_boxA rfl rfl rfl rfl (.none rfl) ?_; intro b2)
    (refine G_boxA rfl rfl rfl rfl (.none rfl) ?_; intro b3)
    refine Ga ?_
    refine Ga ?_
    refine G_end (X_then (G_seq (G_seq (G_region ?_))))
    refine Gv (V_loadA rfl rfl (Cells.own (.tail _ (.head _))) rfl) ?_
    refine Gv (V_loadA rfl rfl (Cells.own (.head _)) rfl) ?_
    refine G_callv (k := 15) (.mk rfl rfl rfl rfl) rfl rfl (.none rfl) (hc _) ?_
    refine Ga ?_
    refine G_end (X_then (G_seq (G_region ?_)))
    refine Gm ?_
    refine Gv (V_neq rfl rfl rfl) ?_
    refine G_end (X_then ?_)
    refine G_cond_t rfl (decide_eq_true (by omega)) ?_
    refine G_seq (G_region ?_)
    refine Gm ?_
    refine Ga ?_
    refine Ga ?_
    refine G_end (X_then (G_ret (X_then_ret ?_)))
    refine G_leaveS (.drop _ (.drop _ (.nil _))) (by exact (.cons (.tmp rfl) (.cons (.tmp rfl) (.nil)))) rfl ?_ ?_
    · exact (.refl _)
    exact ⟨rfl, rfl⟩
end
end Go.Proofs.YtimiokmgnclggaaGreat
set_option linter.unusedSimpArgs false
set_option linter.unusedVariables false
set_option maxHeartbeats 2000000
set_option maxRecDepth 20000
namespace Go.Proofs.YtimiokmgnclggaaGreat
open Go.RowKit
/-! The law's helpers: example, limits, inside, awaits, awake. -/
abbrev exG : Gr := ⟨2, [[97], [98]], [110, 108], [[83]], 16, [(16, [0, 16]), (16, [])]⟩
theorem exG_ok : gcheck exG = 0 := by decide +kernel
theorem exG_light : Light exG := lightB_iff.1 (by decide +kernel)
section
variable (E : Env) (L : List Res)
theorem example_call : CallS Tryz.prog 24 #[] E L (fun r E' L' => ∃ b0 b1 b2 b3 b6, r = .agg #[.int .i64 2, .slice (some ⟨b1, 0, none⟩) 2 2, .string (S [110, 108]), .slice (some ⟨b2, 0, none⟩) 1 1, .int .i64 16, .slice (some ⟨b6, 0, none⟩) 2 2] ∧ E = E' ∧
    L' = .blk b6 (.cells #[.int .i64 16, .slice (some ⟨b3, 0, none⟩) 2 2, .int .i64 16, .slice none 0 0] 69 (0, 0)) :: .blk b3 (.cells #[.int .i64 0, .int .i64 16] 3 (0, 0)) :: .blk b2 (.cells #[.string (S [83])] 9 (0, 0)) :: .blk b1 (.cells #[.string (S [97]), .string (S [98])] 9 (0, 0)) :: .blk b0 (.cells #[.int .i64 2, .slice (some ⟨b1, 0, none⟩) 2 2, .string (S [110, 108]), .slice (some ⟨b2, 0, none⟩) 1 1, .int .i64 16, .slice (some ⟨b6, 0, none⟩) 2 2] 26 (0, 0)) :: L) := by
  refine CallS.intro (l := []) _ Tryz.func24 rfl Tryz.ntmps24 rfl ?_
  refine G_seq (G_region ?_)
  (refine G_alloc rfl rfl rfl (.none rfl) ?_; intro b0)
  refine G_end (X_then (G_seq (G_region ?_)))
  (refine G_lit2 rfl rfl rfl rfl rfl rfl rfl (.none rfl) ?_; intro b1)
  (refine G_lit1 rfl rfl rfl rfl rfl (.none rfl) ?_; intro b2)
  (refine G_lit2 rfl rfl rfl rfl rfl rfl rfl (.none rfl) ?_; intro b3)
  refine Gv (V_build rfl rfl (by simp [fillV, setLs, setL, Value.cells]; rfl)) ?_
  refine Gv (V_build rfl rfl (by simp [fillV, setLs, setL, Value.cells]; rfl)) ?_
  (refine G_lit rfl rfl (by decide) (by simp [fillS, zeros, setLs, setL, Value.cells, List.range, List.range.loop]; rfl) rfl rfl (.none rfl) ?_; intro b6)
  refine Gv (V_build rfl rfl (by simp [fillV, setLs, setL, Value.cells]; rfl)) ?_
  refine G_storeA rfl rfl rfl rfl (by simp [Value.oneCell']) rfl (.none rfl) (.tail _ (.tail _ (.tail _ (.tail _ (.head _ _ _))))) rfl ?_
  refine G_end (X_then (G_ret ?_))
  refine G_leaveS (.keep _ (.keep _ (.keep _ (.keep _ (.keep _ (.nil _)))))) (by exact (.cons (.cellA rfl (Cells.own (.tail _ (.tail _ (.tail _ (.tail _ (.head _)))))) rfl) (.nil))) rfl ?_ ?_
  · exact (.refl _)
  exact ⟨_, ⟨_, ⟨_, ⟨_, ⟨_, ⟨rfl, ⟨rfl, rfl⟩⟩⟩⟩⟩⟩⟩
theorem example_call' : CallS Tryz.prog 24 #[] E L (fun r E' L' => GrE E' r exG ∧ L' = L) :=
  fun w hw => (example_call E L w hw).mono fun _ _ ⟨r, E', L', he, hE, hs, b0, b1, b2, b3, b6, hr, _, hL⟩ => by
    subst hL hr
    obtain ⟨E2, hE2, hs2, hok2⟩ := hs.freeze
    obtain ⟨E3, hE3, hs3, hok3⟩ := hs2.freeze
    obtain ⟨E4, hE4, hs4, hok4⟩ := hs3.freeze
    obtain ⟨E5, hE5, hs5, hok5⟩ := hs4.freeze
    refine ⟨_, E5, L, he, (((hE.trans hE2).trans hE3).trans hE4).trans hE5, hs5.drop, ?_, rfl⟩
    refine GrE.mk (g := exG) (SlE.lit (l := strs [[97], [98]]) hok5 rfl) ((SlE.lit (l := strs [[83]]) hok4 rfl).mono hE5) ⟨[(some ⟨b3, 0, none⟩, 2, (16, [0, 16])), (none, 0, (16, []))], rfl, ?_, fun r hr => ?_⟩ (Nat.le_refl _) (Nat.le_refl _) (Nat.le_refl _)
    · exact ((SlE.lit (l := prows [(some ⟨b3, 0, none⟩, 2, (16, [0, 16])), (none, 0, (16, []))]) hok2 rfl).mono (hE3.trans hE4)).mono hE5
    · simp only [List.mem_cons, List.not_mem_nil, or_false] at hr
      rcases hr with rfl | rfl
      · exact ((SlE.lit (l := i64s [0, 16]) hok3 rfl).mono hE4).mono hE5
      · exact SlE.nil
theorem limits_call : CallV Tryz.prog 23 #[] E L (.agg #[.int .i64 9, .int .i64 9, .int .i64 5, .int .i64 1]) := by
  refine CallS.toV (CallS.intro (l := []) _ Tryz.func23 rfl Tryz.ntmps23 rfl ?_)
  refine G_seq (G_region ?_)
  (refine G_alloc rfl rfl rfl (.none rfl) ?_; intro b0)
  refine G_end (X_then (G_seq (G_region ?_)))
  refine Gv (V_build rfl rfl (by simp [fillV, setLs, setL, Value.cells]; rfl)) ?_
  refine G_storeA rfl rfl rfl rfl (by simp [Value.oneCell']) rfl (.none rfl) (.head _ _ _) rfl ?_
  refine G_end (X_then (G_ret ?_))
  refine G_leaveS (.drop _ (.nil _)) (by exact (.cons (.cellA rfl (Cells.own (.head _)) rfl) (.nil))) rfl ?_ ?_
  · exact (.refl _)
  exact ⟨(by kernel_rfl), rfl⟩
theorem New_ex : CallV Tryz.prog 16 #[.agg #[.int .i64 9, .int .i64 9, .int .i64 5, .int .i64 1]] E L (.tuple #[cfV 1 1 5 [] none 0 0 0 0 false none 0 0, .int .i64 0]) := CallV.castV (New_call E L 9 9 5 1) (by kernel_rfl)
theorem Needs_ex (gv : Value) (hg : GrE E gv exG) : CallV Tryz.prog 9 #[gv, cfV 1 1 5 [] none 0 0 0 0 false none 0 0] E L (.tuple #[.int .i64 1, .int .i64 0]) :=
  CallV.castV (CNeeds_call E L 1 1 5 [] none 0 0 0 0 false none 0 0 gv exG hg exG_light exG_ok (.inl rfl) (by rfl) (by simp) [] SlE.nilT (by decide +kernel) [] SlE.nil (by omega)) (by kernel_rfl)
theorem Same_ex : CallV Tryz.prog 25 #[cfV 1 1 5 [] none 0 0 0 0 false none 0 0, cfV 1 1 5 [] none 0 0 0 0 false none 0 0] E L (.bool true) :=
  CallV.castV (SameConf_call E L 1 1 5 1 1 5 [] [] none none 0 0 0 0 0 0 0 0 false false none none 0 0 0 0 [] [] [] [] SlE.nilT SlE.nilT SlE.nil SlE.nil (by omega) (by omega) (by omega) (by omega)) (by rfl)
theorem awake_call' : CallS Tryz.prog 8 #[] E L (fun r E' L' => r = .bool true ∧ L' = L) := by
  refine CallS.intro (l := []) _ Tryz.func8 rfl Tryz.ntmps8 rfl ?_
  refine G_seq (G_region ?_)
  refine Ga ?_
  refine G_end (X_then (G_seq (G_region ?_)))
  refine G_callv (k := 23) (.mk rfl rfl rfl rfl) rfl rfl (.none rfl) (limits_call _ _) ?_
  refine G_callv (k := 16) (.mk rfl rfl rfl rfl) rfl rfl (.none rfl) (New_ex _ _) ?_
  refine Gm ?_
  refine Gv (V_extract rfl rfl rfl) ?_
  refine Gv (V_extract rfl rfl rfl) ?_
  (refine G_alloc rfl rfl rfl (.none rfl) ?_; intro b1)
  refine G_storeA rfl rfl rfl rfl (by simp [Value.oneCell']) rfl (.none rfl) (.head _ _ _) rfl ?_
  refine Ga ?_
  refine G_end (X_then (G_seq ?_))
  refine G_drawX 8 [(1, 1), (0, 3), (2, 3), (3, 0), (4, 0), (5, 0), (6, 0), (7, 0)] mixed (by kernel_rfl) ?_
  refine F_load rfl (.head _) (V_loadA rfl rfl (Cells.own (.head _)) rfl) rfl rfl (.none rfl) ?_
  apply F_call (k := 24) rfl (.mk rfl rfl rfl rfl) rfl rfl (.none rfl)
  · (intro L0; refine CallS.mono (example_call' _ _) ?_; exact fun _ _ _ _ h => h)
  · (rintro L0 r E' L' ⟨Z1, rfl⟩; exact ⟨rfl, ⟨(by assumption), rfl⟩⟩)
  rintro r2 E3 hE4 ⟨Z5, _⟩
  refine F_callv (k := 9) rfl (.mk rfl rfl rfl rfl) rfl rfl (.none rfl) (fun _ => Needs_ex _ _ _ (by assumption)) ?_
  refine F_pure rfl (fun _ _ => V_move rfl rfl) rfl rfl (.none rfl) ?_
  refine F_pure rfl (fun _ _ => V_extract rfl rfl rfl) rfl rfl (.none rfl) ?_
  refine F_pure rfl (fun _ _ => V_extract rfl rfl rfl) rfl rfl (.none rfl) ?_
  refine F_pure rfl (fun _ _ => V_assign rfl rfl) rfl rfl (.none rfl) ?_
  refine F_pure rfl (fun _ _ => V_assign rfl rfl) rfl rfl (.none rfl) ?_
  (refine F_end (.nil _) ?_; dsimp only [List.drop])
  refine G_end (X_then (G_seq (G_region ?_)))
  refine Gm ?_
  refine Gv (V_eql rfl rfl rfl) ?_
  refine Gm ?_
  refine G.bool_t 18 rfl (by kernel_rfl) ?_
  refine Gy (V_loadA rfl rfl (Cells.own (.head _)) rfl) ?_
  refine Gy (V_build rfl rfl (by simp [fillV, setLs, setL, Value.cells]; rfl)) ?_
  refine G_callv (k := 25) (.mk rfl rfl rfl rfl) rfl rfl (.yes rfl rfl rfl rfl) (Same_ex _ _) ?_
  refine Gv (V_pick_t rfl rfl rfl) ?_
  refine Gm ?_
  refine Gy (V_move rfl rfl) ?_
  refine Gy (V_eql rfl rfl rfl) ?_
  refine Gv (V_pick_t rfl rfl rfl) ?_
  refine Gm ?_
  refine G.bool_t 27 rfl (by kernel_rfl) ?_
  refine Gy (V_move rfl rfl) ?_
  refine Gy (V_eql rfl rfl rfl) ?_
  refine Gv (V_pick_t rfl rfl rfl) ?_
  refine Ga ?_
  refine G_end (X_then (G_ret ?_))
  refine G_leaveS (.drop _ (.nil _)) (by exact (.cons (.tmp rfl) (.nil))) rfl ?_ ?_
  · exact hE4
  exact ⟨(by kernel_rfl), rfl⟩
end
end Go.Proofs.YtimiokmgnclggaaGreat
