/-
  Rules and contracts, packed: S7, S6, S9, S10, Sep37, S11, S8.
-/
import Derived.Test.YtiegoiadbklgjaaGreatDoorQ7
set_option maxHeartbeats 1000000
set_option linter.unusedSimpArgs false
set_option linter.unusedVariables false
set_option maxHeartbeats 2000000
set_option maxRecDepth 20000
namespace Go.Proofs.YtiegoiadbklgjaaGreatDoor
open Go.RowKit
/-! The reference Check of stacks. -/
theorem lefts16 {g : Gr} (h : gcheck g = 0) : ∀ p, p ∈ g.prods → 16 ≤ p.1 := by
  have h5 : symB g = true := by
    simp only [gcheck, gc0, gc1, gc2, gc3, gc4, gc5] at h
    split at h
    · omega
    split at h
    · omega
    split at h
    · omega
    split at h
    · split at h
      · omega
      split at h
      · assumption
      · omega
    · omega
  simp only [symB, ntB, termB, Bool.and_eq_true, decide_eq_true_eq, List.all_eq_true] at h5
  intro p hp
  have := (h5.2 p hp).1
  omega
section
variable (E : Env) (L : List Res)
theorem RSCheck_call (gv : Value) (g : Gr) (hg : GrE E gv g) (hl : Light g) (p : Option Addr) (n c : Nat) (l : List Spt) (hs : SlE E 2 p n (spC l)) (hn : n ≤ 9223372036854775807) : CallV Tryz.prog 16 #[gv, .slice p n c] E L (.int .i64 (chkS g l)) := by
  have en := hs.nSp
  subst en
  have hg0 := hg
  obtain ⟨tp, tc, np, nc, pp, pc, rfl, ht, hn', ⟨rows, hrows, hps, hre⟩, k1, k2, k3⟩ := hg
  have hlen : g.prods.length = rows.length := by rw [← hrows]; simp
  have q3 := hl.p
  unfold chkS
  by_cases h0 : gcheck g ≠ 0
  · rw [if_pos h0]
    generalize hr : gcheck g = r at h0 ⊢
    refine CallS.toV (CallS.intro (l := [_, _]) _ Tryz.func16 rfl Tryz.ntmps16 rfl ?_)
    refine G_seq (G_region ?_)
    (refine G_boxA rfl rfl rfl rfl (.none rfl) ?_; intro b2)
    refine Ga ?_
    refine G_end (X_then (G_seq (G_region ?_)))
    refine Gv (V_loadA rfl rfl (Cells.own (.head _)) rfl) ?_
    refine G_callv (k := 47) (.mk rfl rfl rfl rfl) rfl rfl (.none rfl) (GCheckR_call _ _ _ g hg0 hl) ?_
    rw [hr]
    refine Ga ?_
    refine G_end (X_then (G_seq (G_seq (G_region ?_))))
    refine Gm ?_
    refine Gv (V_eql rfl rfl rfl) ?_
    refine Gm ?_
    refine G.bool_f 14 rfl (decide_eq_false (by omega)) ?_
    refine Gn ?_
    refine Gn ?_
    refine Gn ?_
    refine Gv (V_pick_f rfl rfl rfl) ?_
    refine G_end (X_then ?_)
    refine G_cond_f rfl rfl ?_
    refine G_skip (X_then (G_seq (G_seq (G_region ?_))))
    refine Ga ?_
    refine G_end (X_then (G_block ?_))
    refine G_loop (α := Unit) (fun _ => [(1, .slice p l.length c), (5, .int .i64 r), (6, .int .i64 0)]) (fun _ => E) (fun _ => GB b2 g tp tc np nc pp pc :: L) (fun _ => True) (fun _ => 0) () trivial ⟨rfl, rfl, rfl, trivial⟩ rfl rfl ?_
    rintro i hi
    by_cases hl0 : 0 < l.length
    · refine G_seq ?_
      refine G_seq (G_region ?_)
      refine Gm ?_
      refine Gm ?_
      refine Gv (V_lenS rfl rfl) ?_
      refine Gv (V_lss rfl rfl rfl) ?_
      refine Gm ?_
      refine G.bool_t 23 rfl (decide_eq_true (by omega)) ?_
      refine Gy (V_move rfl rfl) ?_
      refine Gy (V_eql rfl rfl rfl) ?_
      refine Gv (V_pick_t rfl rfl rfl) ?_
      refine G_end (X_then ?_)
      refine G_cond_f rfl (decide_eq_false (by omega)) ?_
      refine G_exit (X_then_exit (X_then_exit (X_block_hit (X_then (G_seq (G_region ?_))))))
      refine Gm ?_
      refine Ga ?_
      refine G_end (X_then (G_ret ?_))
      refine G_leaveS (.drop _ (.nil _)) (by exact (.cons (.tmp rfl) (.nil))) rfl ?_ ?_
      · exact (.refl _)
      exact ⟨rfl, rfl⟩
    · refine G_seq ?_
      refine G_seq (G_region ?_)
      refine Gm ?_
      refine Gm ?_
      refine Gv (V_lenS rfl rfl) ?_
      refine Gv (V_lss rfl rfl rfl) ?_
      refine Gm ?_
      refine G.bool_f 23 rfl (decide_eq_false (by omega)) ?_
      refine Gn ?_
      refine Gn ?_
      refine Gv (V_pick_f rfl rfl rfl) ?_
      refine G_end (X_then ?_)
      refine G_cond_f rfl rfl ?_
      refine G_exit (X_then_exit (X_then_exit (X_block_hit (X_then (G_seq (G_region ?_))))))
      refine Gm ?_
      refine Ga ?_
      refine G_end (X_then (G_ret ?_))
      refine G_leaveS (.drop _ (.nil _)) (by exact (.cons (.tmp rfl) (.nil))) rfl ?_ ?_
      · exact (.refl _)
      exact ⟨rfl, rfl⟩
  rw [if_neg h0]
  have h1 : gcheck g = 0 := by omega
  have hl16 := lefts16 h1
  by_cases h64 : 64 < l.length
  · rw [if_pos h64]
    refine CallS.toV (CallS.intro (l := [_, _]) _ Tryz.func16 rfl Tryz.ntmps16 rfl ?_)
    refine G_seq (G_region ?_)
    (refine G_boxA rfl rfl rfl rfl (.none rfl) ?_; intro b2)
    refine Ga ?_
    refine G_end (X_then (G_seq (G_region ?_)))
    refine Gv (V_loadA rfl rfl (Cells.own (.head _)) rfl) ?_
    refine G_callv (k := 47) (.mk rfl rfl rfl rfl) rfl rfl (.none rfl) (GCheckR_call _ _ _ g hg0 hl) ?_
    rw [h1]
    refine Ga ?_
    refine G_end (X_then (G_seq (G_seq (G_region ?_))))
    refine Gm ?_
    refine Gv (V_eql rfl rfl rfl) ?_
    refine Gm ?_
    refine G.bool_t 14 rfl (by kernel_rfl) ?_
    refine Gy (V_move rfl rfl) ?_
    refine Gy (V_lenS rfl rfl) ?_
    refine Gy (V_gtr rfl rfl rfl) ?_
    refine Gv (V_pick_t rfl rfl rfl) ?_
    refine G_end (X_then ?_)
    refine G_cond_t rfl (decide_eq_true (by omega)) ?_
    refine G_region ?_
    refine Ga ?_
    refine G_end (X_then (G_seq (G_seq (G_region ?_))))
    refine Ga ?_
    refine G_end (X_then (G_block ?_))
    refine G_loop (α := Unit) (fun _ => [(1, .slice p l.length c), (5, .int .i64 21), (6, .int .i64 0)]) (fun _ => E) (fun _ => GB b2 g tp tc np nc pp pc :: L) (fun _ => True) (fun _ => 0) () trivial ⟨rfl, rfl, rfl, trivial⟩ rfl rfl ?_
    rintro i hi
    refine G_seq (G_seq (G_region ?_))
    refine Gm ?_
    refine Gm ?_
    refine Gv (V_lenS rfl rfl) ?_
    refine Gv (V_lss rfl rfl rfl) ?_
    refine Gm ?_
    refine G.bool_t 23 rfl (decide_eq_true (by omega)) ?_
    refine Gy (V_move rfl rfl) ?_
    refine Gy (V_eql rfl rfl rfl) ?_
    refine Gv (V_pick_t rfl rfl rfl) ?_
    refine G_end (X_then ?_)
    refine G_cond_f rfl (by kernel_rfl) ?_
    refine G_exit (X_then_exit (X_then_exit (X_block_hit (X_then (G_seq (G_region ?_))))))
    refine Gm ?_
    refine Ga ?_
    refine G_end (X_then (G_ret ?_))
    refine G_leaveS (.drop _ (.nil _)) (by exact (.cons (.tmp rfl) (.nil))) rfl ?_ ?_
    · exact (.refl _)
    exact ⟨(by kernel_rfl), rfl⟩
  rw [if_neg h64]
  refine CallS.toV (CallS.intro (l := [_, _]) _ Tryz.func16 rfl Tryz.ntmps16 rfl ?_)
  refine G_seq (G_region ?_)
  (refine G_boxA rfl rfl rfl rfl (.none rfl) ?_; intro b2)
  refine Ga ?_
  refine G_end (X_then (G_seq (G_region ?_)))
  refine Gv (V_loadA rfl rfl (Cells.own (.head _)) rfl) ?_
  refine G_callv (k := 47) (.mk rfl rfl rfl rfl) rfl rfl (.none rfl) (GCheckR_call _ _ _ g hg0 hl) ?_
  rw [h1]
  refine Ga ?_
  refine G_end (X_then (G_seq (G_seq (G_region ?_))))
  refine Gm ?_
  refine Gv (V_eql rfl rfl rfl) ?_
  refine Gm ?_
  refine G.bool_t 14 rfl (by kernel_rfl) ?_
  refine Gy (V_move rfl rfl) ?_
  refine Gy (V_lenS rfl rfl) ?_
  refine Gy (V_gtr rfl rfl rfl) ?_
  refine Gv (V_pick_t rfl rfl rfl) ?_
  refine G_end (X_then ?_)
  refine G_cond_f rfl (decide_eq_false (by omega)) ?_
  refine G_skip (X_then (G_seq (G_seq (G_region ?_))))
  refine Ga ?_
  refine G_end (X_then (G_block ?_))
  refine G_loop (α := Nat) (fun i => [(1, .slice p l.length c), (2, .pointer (some ⟨b2, 0, none⟩)), (5, .int .i64 0), (6, .int .i64 (i : Nat))]) (fun _ => E) (fun _ => GB b2 g tp tc np nc pp pc :: L)
    (fun i => i ≤ l.length ∧ stk g.prods g.start l = stk g.prods (wantS g.prods g.start l i) (l.drop i) ∧ ∀ j s, j < i → l[j]? = some s → ¬ outS g.prods s) (fun i => l.length - i) 0 ⟨Nat.zero_le _, rfl, fun j s hj => by omega⟩ ⟨rfl, rfl, rfl, rfl, trivial⟩ rfl rfl ?_
  rintro i ⟨hi, hst, hall⟩
  by_cases hlt : i < l.length
  · obtain ⟨⟨sp, sd⟩, hx⟩ : ∃ s, l[i]? = some s := ⟨_, List.getElem?_eq_getElem hlt⟩
    rw [wantS_drop hx] at hst
    have y1 := spC_get hx
    by_cases ho1 : sp < 0
    · rw [if_pos (by simp only [outS]; omega)] at hst
      rw [hst]
      refine G_seq (G_seq (G_region ?_))
      refine Gm ?_
      refine Gm ?_
      refine Gv (V_lenS rfl rfl) ?_
      refine Gv (V_lss rfl rfl rfl) ?_
      refine Gm ?_
      refine G.bool_t 23 rfl (decide_eq_true (by omega)) ?_
      refine Gy (V_move rfl rfl) ?_
      refine Gy (V_eql rfl rfl rfl) ?_
      refine Gv (V_pick_t rfl rfl rfl) ?_
      refine G_end (X_then ?_)
      refine G_cond_t rfl (by kernel_rfl) ?_
      refine G_skip (X_then (G_seq (G_block (G_seq (G_region ?_)))))
      refine Gm ?_
      refine Gm ?_
      refine Gv (V_idxAddr rfl rfl rfl (SlE.rd (by assumption)) (by omega) (by omega)) ?_
      refine Gv (V_loadAS rfl rfl (SlE.rd (by assumption)) (by assumption) (by simp) (by rfl)) ?_
      (refine G_alloc rfl rfl rfl (.none rfl) ?_; intro b7)
      refine G_storeA rfl rfl rfl rfl (by simp [Value.oneCell']) rfl (.none rfl) (.head _ _ _) rfl ?_
      refine G_end (X_then (G_seq (G_seq ?_)))
      refine G_draw mixed (by kernel_rfl) ?_
      refine Q_val (V_fieldAddr rfl rfl (by decide)) rfl rfl (.none rfl) ?_
      refine Q_val (V_load rfl rfl (Cell.own (.head _) rfl)) rfl rfl (.none rfl) ?_
      refine Q_val (V_lss rfl rfl rfl) rfl rfl (.none rfl) ?_
      refine Q_val (V_move rfl rfl) rfl rfl (.none rfl) ?_
      refine Q_bool_t 36 rfl (decide_eq_true (by omega)) ?_
      refine Q_stay (.no rfl rfl rfl rfl) rfl rfl ?_
      refine Q_stay (.no rfl rfl rfl rfl) rfl rfl ?_
      refine Q_stay (.no rfl rfl rfl rfl) rfl rfl ?_
      refine Q_stay (.no rfl rfl rfl rfl) rfl rfl ?_
      refine Q_stay (.no rfl rfl rfl rfl) rfl rfl ?_
      refine Q_stay (.no rfl rfl rfl rfl) rfl rfl ?_
      refine Q_val (V_pick_t rfl rfl rfl) rfl rfl (.none rfl) ?_
      refine Q_val (V_move rfl rfl) rfl rfl (.none rfl) ?_
      refine Q_stay (.no rfl rfl rfl rfl) rfl rfl ?_
      refine Q_stay (.no rfl rfl rfl rfl) rfl rfl ?_
      refine Q_stay (.no rfl rfl rfl rfl) rfl rfl ?_
      refine Q_val (V_pick_t rfl rfl rfl) rfl rfl (.none rfl) ?_
      refine Q_val (V_move rfl rfl) rfl rfl (.none rfl) ?_
      refine Q_stay (.no rfl rfl rfl rfl) rfl rfl ?_
      refine Q_stay (.no rfl rfl rfl rfl) rfl rfl ?_
      refine Q_stay (.no rfl rfl rfl rfl) rfl rfl ?_
      refine Q_stay (.no rfl rfl rfl rfl) rfl rfl ?_
      refine Q_stay (.no rfl rfl rfl rfl) rfl rfl ?_
      refine Q_stay (.no rfl rfl rfl rfl) rfl rfl ?_
      refine Q_stay (.no rfl rfl rfl rfl) rfl rfl ?_
      refine Q_stay (.no rfl rfl rfl rfl) rfl rfl ?_
      refine Q_stay (.no rfl rfl rfl rfl) rfl rfl ?_
      refine Q_stay (.no rfl rfl rfl rfl) rfl rfl ?_
      refine Q_stay (.no rfl rfl rfl rfl) rfl rfl ?_
      refine Q_val (V_pick_t rfl rfl rfl) rfl rfl (.none rfl) ?_
      refine Q_end ?_
      refine X_then ?_
      refine G_cond_t rfl rfl ?_
      refine G_seq (G_region ?_)
      refine Ga ?_
      refine G_end (X_then (G_ret (X_then_ret (X_block_ret (X_then_ret (X_then_ret (X_block_ret (X_then_ret ?_))))))))
      refine G_leaveS (.drop _ (.drop _ (.nil _))) (by exact (.cons (.tmp rfl) (.nil))) rfl ?_ ?_
      · exact (.refl _)
      exact ⟨(by kernel_rfl), rfl⟩
    by_cases ho2 : (g.prods.length : Int) ≤ sp
    · rw [if_pos (by simp only [outS]; omega)] at hst
      rw [hst]
      refine G_seq (G_seq (G_region ?_))
      refine Gm ?_
      refine Gm ?_
      refine Gv (V_lenS rfl rfl) ?_
      refine Gv (V_lss rfl rfl rfl) ?_
      refine Gm ?_
      refine G.bool_t 23 rfl (decide_eq_true (by omega)) ?_
      refine Gy (V_move rfl rfl) ?_
      refine Gy (V_eql rfl rfl rfl) ?_
      refine Gv (V_pick_t rfl rfl rfl) ?_
      refine G_end (X_then ?_)
      refine G_cond_t rfl (by kernel_rfl) ?_
      refine G_skip (X_then (G_seq (G_block (G_seq (G_region ?_)))))
      refine Gm ?_
      refine Gm ?_
      refine Gv (V_idxAddr rfl rfl rfl (SlE.rd (by assumption)) (by omega) (by omega)) ?_
      refine Gv (V_loadAS rfl rfl (SlE.rd (by assumption)) (by assumption) (by simp) (by rfl)) ?_
      (refine G_alloc rfl rfl rfl (.none rfl) ?_; intro b7)
      refine G_storeA rfl rfl rfl rfl (by simp [Value.oneCell']) rfl (.none rfl) (.head _ _ _) rfl ?_
      refine G_end (X_then (G_seq (G_seq ?_)))
      refine G_draw mixed (by kernel_rfl) ?_
      refine Q_val (V_fieldAddr rfl rfl (by decide)) rfl rfl (.none rfl) ?_
      refine Q_val (V_load rfl rfl (Cell.own (.head _) rfl)) rfl rfl (.none rfl) ?_
      refine Q_val (V_lss rfl rfl rfl) rfl rfl (.none rfl) ?_
      refine Q_val (V_move rfl rfl) rfl rfl (.none rfl) ?_
      refine Q_bool_f 36 rfl (decide_eq_false (by omega)) ?_
      refine Q_val (V_fieldAddr rfl rfl (by decide)) rfl rfl (.yes rfl rfl rfl rfl) ?_
      refine Q_val (V_load rfl rfl (Cell.own (.head _) rfl)) rfl rfl (.yes rfl rfl rfl rfl) ?_
      refine Q_val (V_fieldAddr rfl rfl (by decide)) rfl rfl (.yes rfl rfl rfl rfl) ?_
      refine Q_val (V_load rfl rfl (Cell.own (.tail _ (.head _)) rfl)) rfl rfl (.yes rfl rfl rfl rfl) ?_
      refine Q_val (V_lenS rfl rfl) rfl rfl (.yes rfl rfl rfl rfl) ?_
      refine Q_val (V_geq rfl rfl rfl) rfl rfl (.yes rfl rfl rfl rfl) ?_
      refine Q_val (V_pick_f rfl rfl rfl) rfl rfl (.none rfl) ?_
      refine Q_val (V_move rfl rfl) rfl rfl (.none rfl) ?_
      refine Q_bool_t 44 rfl (decide_eq_true (by omega)) ?_
      refine Q_stay (.no rfl rfl rfl rfl) rfl rfl ?_
      refine Q_stay (.no rfl rfl rfl rfl) rfl rfl ?_
      refine Q_stay (.no rfl rfl rfl rfl) rfl rfl ?_
      refine Q_val (V_pick_t rfl rfl rfl) rfl rfl (.none rfl) ?_
      refine Q_val (V_move rfl rfl) rfl rfl (.none rfl) ?_
      refine Q_stay (.no rfl rfl rfl rfl) rfl rfl ?_
      refine Q_stay (.no rfl rfl rfl rfl) rfl rfl ?_
      refine Q_stay (.no rfl rfl rfl rfl) rfl rfl ?_
      refine Q_stay (.no rfl rfl rfl rfl) rfl rfl ?_
      refine Q_stay (.no rfl rfl rfl rfl) rfl rfl ?_
      refine Q_stay (.no rfl rfl rfl rfl) rfl rfl ?_
      refine Q_stay (.no rfl rfl rfl rfl) rfl rfl ?_
      refine Q_stay (.no rfl rfl rfl rfl) rfl rfl ?_
      refine Q_stay (.no rfl rfl rfl rfl) rfl rfl ?_
      refine Q_stay (.no rfl rfl rfl rfl) rfl rfl ?_
      refine Q_stay (.no rfl rfl rfl rfl) rfl rfl ?_
      refine Q_val (V_pick_t rfl rfl rfl) rfl rfl (.none rfl) ?_
      refine Q_end ?_
      refine X_then ?_
      refine G_cond_t rfl rfl ?_
      refine G_seq (G_region ?_)
      refine Ga ?_
      refine G_end (X_then (G_ret (X_then_ret (X_block_ret (X_then_ret (X_then_ret (X_block_ret (X_then_ret ?_))))))))
      refine G_leaveS (.drop _ (.drop _ (.nil _))) (by exact (.cons (.tmp rfl) (.nil))) rfl ?_ ?_
      · exact (.refl _)
      exact ⟨(by kernel_rfl), rfl⟩
    by_cases ho3 : sd < 0
    · rw [if_pos (by simp only [outS]; omega)] at hst
      rw [hst]
      refine G_seq (G_seq (G_region ?_))
      refine Gm ?_
      refine Gm ?_
      refine Gv (V_lenS rfl rfl) ?_
      refine Gv (V_lss rfl rfl rfl) ?_
      refine Gm ?_
      refine G.bool_t 23 rfl (decide_eq_true (by omega)) ?_
      refine Gy (V_move rfl rfl) ?_
      refine Gy (V_eql rfl rfl rfl) ?_
      refine Gv (V_pick_t rfl rfl rfl) ?_
      refine G_end (X_then ?_)
      refine G_cond_t rfl (by kernel_rfl) ?_
      refine G_skip (X_then (G_seq (G_block (G_seq (G_region ?_)))))
      refine Gm ?_
      refine Gm ?_
      refine Gv (V_idxAddr rfl rfl rfl (SlE.rd (by assumption)) (by omega) (by omega)) ?_
      refine Gv (V_loadAS rfl rfl (SlE.rd (by assumption)) (by assumption) (by simp) (by rfl)) ?_
      (refine G_alloc rfl rfl rfl (.none rfl) ?_; intro b7)
      refine G_storeA rfl rfl rfl rfl (by simp [Value.oneCell']) rfl (.none rfl) (.head _ _ _) rfl ?_
      refine G_end (X_then (G_seq (G_seq ?_)))
      refine G_draw mixed (by kernel_rfl) ?_
      refine Q_val (V_fieldAddr rfl rfl (by decide)) rfl rfl (.none rfl) ?_
      refine Q_val (V_load rfl rfl (Cell.own (.head _) rfl)) rfl rfl (.none rfl) ?_
      refine Q_val (V_lss rfl rfl rfl) rfl rfl (.none rfl) ?_
      refine Q_val (V_move rfl rfl) rfl rfl (.none rfl) ?_
      refine Q_bool_f 36 rfl (decide_eq_false (by omega)) ?_
      refine Q_val (V_fieldAddr rfl rfl (by decide)) rfl rfl (.yes rfl rfl rfl rfl) ?_
      refine Q_val (V_load rfl rfl (Cell.own (.head _) rfl)) rfl rfl (.yes rfl rfl rfl rfl) ?_
      refine Q_val (V_fieldAddr rfl rfl (by decide)) rfl rfl (.yes rfl rfl rfl rfl) ?_
      refine Q_val (V_load rfl rfl (Cell.own (.tail _ (.head _)) rfl)) rfl rfl (.yes rfl rfl rfl rfl) ?_
      refine Q_val (V_lenS rfl rfl) rfl rfl (.yes rfl rfl rfl rfl) ?_
      refine Q_val (V_geq rfl rfl rfl) rfl rfl (.yes rfl rfl rfl rfl) ?_
      refine Q_val (V_pick_f rfl rfl rfl) rfl rfl (.none rfl) ?_
      refine Q_val (V_move rfl rfl) rfl rfl (.none rfl) ?_
      refine Q_bool_f 44 rfl (decide_eq_false (by omega)) ?_
      refine Q_val (V_fieldAddr rfl rfl (by decide)) rfl rfl (.yes rfl rfl rfl rfl) ?_
      refine Q_val (V_load rfl rfl (Cell.own (.head _) rfl)) rfl rfl (.yes rfl rfl rfl rfl) ?_
      refine Q_val (V_lss rfl rfl rfl) rfl rfl (.yes rfl rfl rfl rfl) ?_
      refine Q_val (V_pick_f rfl rfl rfl) rfl rfl (.none rfl) ?_
      refine Q_val (V_move rfl rfl) rfl rfl (.none rfl) ?_
      refine Q_bool_t 49 rfl (decide_eq_true (by omega)) ?_
      refine Q_stay (.no rfl rfl rfl rfl) rfl rfl ?_
      refine Q_stay (.no rfl rfl rfl rfl) rfl rfl ?_
      refine Q_stay (.no rfl rfl rfl rfl) rfl rfl ?_
      refine Q_stay (.no rfl rfl rfl rfl) rfl rfl ?_
      refine Q_stay (.no rfl rfl rfl rfl) rfl rfl ?_
      refine Q_stay (.no rfl rfl rfl rfl) rfl rfl ?_
      refine Q_stay (.no rfl rfl rfl rfl) rfl rfl ?_
      refine Q_stay (.no rfl rfl rfl rfl) rfl rfl ?_
      refine Q_stay (.no rfl rfl rfl rfl) rfl rfl ?_
      refine Q_stay (.no rfl rfl rfl rfl) rfl rfl ?_
      refine Q_stay (.no rfl rfl rfl rfl) rfl rfl ?_
      refine Q_val (V_pick_t rfl rfl rfl) rfl rfl (.none rfl) ?_
      refine Q_end ?_
      refine X_then ?_
      refine G_cond_t rfl rfl ?_
      refine G_seq (G_region ?_)
      refine Ga ?_
      refine G_end (X_then (G_ret (X_then_ret (X_block_ret (X_then_ret (X_then_ret (X_block_ret (X_then_ret ?_))))))))
      refine G_leaveS (.drop _ (.drop _ (.nil _))) (by exact (.cons (.tmp rfl) (.nil))) rfl ?_ ?_
      · exact (.refl _)
      exact ⟨(by kernel_rfl), rfl⟩
    obtain ⟨k, rfl⟩ : ∃ k : Nat, sp = k := ⟨sp.toNat, by omega⟩
    obtain ⟨d, rfl⟩ : ∃ d : Nat, sd = d := ⟨sd.toNat, by omega⟩
    have hk : k < rows.length := by omega
    have hrow := List.getElem?_eq_getElem hk
    have hpk : g.prods[k]? = some rows[k].2.2 := by rw [← hrows, List.getElem?_map, hrow]; rfl
    have hlf := leftP_eq hpk
    have hrt := rightP_eq hpk
    have x1 := prows_left hrow
    have x2 := prows_right hrow
    have x3 := prows_get hrow
    have x4 := hre.get hrow
    have hr8 : rows[k].2.2.2.length ≤ 8 := hl.ps rows[k].2.2 (List.mem_of_getElem? hpk)
    have hl16k := hl16 _ (List.mem_of_getElem? hpk)
    by_cases ho4 : (rows[k].2.2.2.length : Int) < d
    · rw [if_pos (by simp only [outS]; rw [hrt]; omega)] at hst
      rw [hst]
      refine G_seq (G_seq (G_region ?_))
      refine Gm ?_
      refine Gm ?_
      refine Gv (V_lenS rfl rfl) ?_
      refine Gv (V_lss rfl rfl rfl) ?_
      refine Gm ?_
      refine G.bool_t 23 rfl (decide_eq_true (by omega)) ?_
      refine Gy (V_move rfl rfl) ?_
      refine Gy (V_eql rfl rfl rfl) ?_
      refine Gv (V_pick_t rfl rfl rfl) ?_
      refine G_end (X_then ?_)
      refine G_cond_t rfl (by kernel_rfl) ?_
      refine G_skip (X_then (G_seq (G_block (G_seq (G_region ?_)))))
      refine Gm ?_
      refine Gm ?_
      refine Gv (V_idxAddr rfl rfl rfl (SlE.rd (by assumption)) (by omega) (by omega)) ?_
      refine Gv (V_loadAS rfl rfl (SlE.rd (by assumption)) (by assumption) (by simp) (by rfl)) ?_
      (refine G_alloc rfl rfl rfl (.none rfl) ?_; intro b7)
      refine G_storeA rfl rfl rfl rfl (by simp [Value.oneCell']) rfl (.none rfl) (.head _ _ _) rfl ?_
      refine G_end (X_then (G_seq (G_seq ?_)))
      refine G_draw mixed (by kernel_rfl) ?_
      refine Q_val (V_fieldAddr rfl rfl (by decide)) rfl rfl (.none rfl) ?_
      refine Q_val (V_load rfl rfl (Cell.own (.head _) rfl)) rfl rfl (.none rfl) ?_
      refine Q_val (V_lss rfl rfl rfl) rfl rfl (.none rfl) ?_
      refine Q_val (V_move rfl rfl) rfl rfl (.none rfl) ?_
      refine Q_bool_f 36 rfl (decide_eq_false (by omega)) ?_
      refine Q_val (V_fieldAddr rfl rfl (by decide)) rfl rfl (.yes rfl rfl rfl rfl) ?_
      refine Q_val (V_load rfl rfl (Cell.own (.head _) rfl)) rfl rfl (.yes rfl rfl rfl rfl) ?_
      refine Q_val (V_fieldAddr rfl rfl (by decide)) rfl rfl (.yes rfl rfl rfl rfl) ?_
      refine Q_val (V_load rfl rfl (Cell.own (.tail _ (.head _)) rfl)) rfl rfl (.yes rfl rfl rfl rfl) ?_
      refine Q_val (V_lenS rfl rfl) rfl rfl (.yes rfl rfl rfl rfl) ?_
      refine Q_val (V_geq rfl rfl rfl) rfl rfl (.yes rfl rfl rfl rfl) ?_
      refine Q_val (V_pick_f rfl rfl rfl) rfl rfl (.none rfl) ?_
      refine Q_val (V_move rfl rfl) rfl rfl (.none rfl) ?_
      refine Q_bool_f 44 rfl (decide_eq_false (by omega)) ?_
      refine Q_val (V_fieldAddr rfl rfl (by decide)) rfl rfl (.yes rfl rfl rfl rfl) ?_
      refine Q_val (V_load rfl rfl (Cell.own (.head _) rfl)) rfl rfl (.yes rfl rfl rfl rfl) ?_
      refine Q_val (V_lss rfl rfl rfl) rfl rfl (.yes rfl rfl rfl rfl) ?_
      refine Q_val (V_pick_f rfl rfl rfl) rfl rfl (.none rfl) ?_
      refine Q_val (V_move rfl rfl) rfl rfl (.none rfl) ?_
      refine Q_bool_f 49 rfl (decide_eq_false (by omega)) ?_
      refine Q_val (V_fieldAddr rfl rfl (by decide)) rfl rfl (.yes rfl rfl rfl rfl) ?_
      refine Q_val (V_load rfl rfl (Cell.own (.head _) rfl)) rfl rfl (.yes rfl rfl rfl rfl) ?_
      refine Q_val (V_fieldAddr rfl rfl (by decide)) rfl rfl (.yes rfl rfl rfl rfl) ?_
      refine Q_val (V_load rfl rfl (Cell.own (.tail _ (.head _)) rfl)) rfl rfl (.yes rfl rfl rfl rfl) ?_
      refine Q_val (V_fieldAddr rfl rfl (by decide)) rfl rfl (.yes rfl rfl rfl rfl) ?_
      refine Q_val (V_load rfl rfl (Cell.own (.head _) rfl)) rfl rfl (.yes rfl rfl rfl rfl) ?_
      refine Q_val (V_idxAddr rfl rfl rfl (SlE.rd (by assumption)) (by omega) (by omega)) rfl rfl (.yes rfl rfl rfl rfl) ?_
      refine Q_val (V_fieldAddrE rfl rfl (by assumption) (by omega) (by decide)) rfl rfl (.yes rfl rfl rfl rfl) ?_
      refine Q_val (V_loadS rfl rfl (SlE.rd (by assumption)) (by assumption) (by simp)) rfl rfl (.yes rfl rfl rfl rfl) ?_
      refine Q_val (V_lenS rfl rfl) rfl rfl (.yes rfl rfl rfl rfl) ?_
      refine Q_val (V_gtr rfl rfl rfl) rfl rfl (.yes rfl rfl rfl rfl) ?_
      refine Q_val (V_pick_f rfl rfl rfl) rfl rfl (.none rfl) ?_
      refine Q_end ?_
      refine X_then ?_
      refine G_cond_t rfl (decide_eq_true (by omega)) ?_
      refine G_seq (G_region ?_)
      refine Ga ?_
      refine G_end (X_then (G_ret (X_then_ret (X_block_ret (X_then_ret (X_then_ret (X_block_ret (X_then_ret ?_))))))))
      refine G_leaveS (.drop _ (.drop _ (.nil _))) (by exact (.cons (.tmp rfl) (.nil))) rfl ?_ ?_
      · exact (.refl _)
      exact ⟨(by kernel_rfl), rfl⟩
    have hno : ¬ outS g.prods ((k : Int), (d : Int)) := by simp only [outS]; rw [hrt]; omega
    rw [if_neg hno, hlf] at hst
    have hall' : ∀ j s, j < i + 1 → l[j]? = some s → ¬ outS g.prods s := fun j s hj hs1 => by
      by_cases e : j = i
      · subst e
        rw [hx] at hs1
        rw [← Option.some.inj hs1]
        exact hno
      · exact hall j s (by omega) hs1
    by_cases hi0 : i = 0
    · subst hi0
      rw [show wantS g.prods g.start l 0 = g.start from rfl] at hst
      by_cases hw : rows[k].2.2.1 ≠ g.start
      · rw [if_pos hw] at hst
        rw [hst]
        refine G_seq (G_seq (G_region ?_))
        refine Gm ?_
        refine Gm ?_
        refine Gv (V_lenS rfl rfl) ?_
        refine Gv (V_lss rfl rfl rfl) ?_
        refine Gm ?_
        refine G.bool_t 23 rfl (decide_eq_true (by omega)) ?_
        refine Gy (V_move rfl rfl) ?_
        refine Gy (V_eql rfl rfl rfl) ?_
        refine Gv (V_pick_t rfl rfl rfl) ?_
        refine G_end (X_then ?_)
        refine G_cond_t rfl (by kernel_rfl) ?_
        refine G_skip (X_then (G_seq (G_block (G_seq (G_region ?_)))))
        refine Gm ?_
        refine Gm ?_
        refine Gv (V_idxAddr rfl rfl rfl (SlE.rd (by assumption)) (by omega) (by omega)) ?_
        refine Gv (V_loadAS rfl rfl (SlE.rd (by assumption)) (by assumption) (by simp) (by rfl)) ?_
        (refine G_alloc rfl rfl rfl (.none rfl) ?_; intro b7)
        refine G_storeA rfl rfl rfl rfl (by simp [Value.oneCell']) rfl (.none rfl) (.head _ _ _) rfl ?_
        refine G_end (X_then (G_seq (G_seq ?_)))
        refine G_draw mixed (by kernel_rfl) ?_
        refine Q_val (V_fieldAddr rfl rfl (by decide)) rfl rfl (.none rfl) ?_
        refine Q_val (V_load rfl rfl (Cell.own (.head _) rfl)) rfl rfl (.none rfl) ?_
        refine Q_val (V_lss rfl rfl rfl) rfl rfl (.none rfl) ?_
        refine Q_val (V_move rfl rfl) rfl rfl (.none rfl) ?_
        refine Q_bool_f 36 rfl (decide_eq_false (by omega)) ?_
        refine Q_val (V_fieldAddr rfl rfl (by decide)) rfl rfl (.yes rfl rfl rfl rfl) ?_
        refine Q_val (V_load rfl rfl (Cell.own (.head _) rfl)) rfl rfl (.yes rfl rfl rfl rfl) ?_
        refine Q_val (V_fieldAddr rfl rfl (by decide)) rfl rfl (.yes rfl rfl rfl rfl) ?_
        refine Q_val (V_load rfl rfl (Cell.own (.tail _ (.head _)) rfl)) rfl rfl (.yes rfl rfl rfl rfl) ?_
        refine Q_val (V_lenS rfl rfl) rfl rfl (.yes rfl rfl rfl rfl) ?_
        refine Q_val (V_geq rfl rfl rfl) rfl rfl (.yes rfl rfl rfl rfl) ?_
        refine Q_val (V_pick_f rfl rfl rfl) rfl rfl (.none rfl) ?_
        refine Q_val (V_move rfl rfl) rfl rfl (.none rfl) ?_
        refine Q_bool_f 44 rfl (decide_eq_false (by omega)) ?_
        refine Q_val (V_fieldAddr rfl rfl (by decide)) rfl rfl (.yes rfl rfl rfl rfl) ?_
        refine Q_val (V_load rfl rfl (Cell.own (.head _) rfl)) rfl rfl (.yes rfl rfl rfl rfl) ?_
        refine Q_val (V_lss rfl rfl rfl) rfl rfl (.yes rfl rfl rfl rfl) ?_
        refine Q_val (V_pick_f rfl rfl rfl) rfl rfl (.none rfl) ?_
        refine Q_val (V_move rfl rfl) rfl rfl (.none rfl) ?_
        refine Q_bool_f 49 rfl (decide_eq_false (by omega)) ?_
        refine Q_val (V_fieldAddr rfl rfl (by decide)) rfl rfl (.yes rfl rfl rfl rfl) ?_
        refine Q_val (V_load rfl rfl (Cell.own (.head _) rfl)) rfl rfl (.yes rfl rfl rfl rfl) ?_
        refine Q_val (V_fieldAddr rfl rfl (by decide)) rfl rfl (.yes rfl rfl rfl rfl) ?_
        refine Q_val (V_load rfl rfl (Cell.own (.tail _ (.head _)) rfl)) rfl rfl (.yes rfl rfl rfl rfl) ?_
        refine Q_val (V_fieldAddr rfl rfl (by decide)) rfl rfl (.yes rfl rfl rfl rfl) ?_
        refine Q_val (V_load rfl rfl (Cell.own (.head _) rfl)) rfl rfl (.yes rfl rfl rfl rfl) ?_
        refine Q_val (V_idxAddr rfl rfl rfl (SlE.rd (by assumption)) (by omega) (by omega)) rfl rfl (.yes rfl rfl rfl rfl) ?_
        refine Q_val (V_fieldAddrE rfl rfl (by assumption) (by omega) (by decide)) rfl rfl (.yes rfl rfl rfl rfl) ?_
        refine Q_val (V_loadS rfl rfl (SlE.rd (by assumption)) (by assumption) (by simp)) rfl rfl (.yes rfl rfl rfl rfl) ?_
        refine Q_val (V_lenS rfl rfl) rfl rfl (.yes rfl rfl rfl rfl) ?_
        refine Q_val (V_gtr rfl rfl rfl) rfl rfl (.yes rfl rfl rfl rfl) ?_
        refine Q_val (V_pick_f rfl rfl rfl) rfl rfl (.none rfl) ?_
        refine Q_end ?_
        refine X_then ?_
        refine G_cond_f rfl (decide_eq_false (by omega)) ?_
        refine G_skip (X_then (G_seq (G_region ?_)))
        refine Gv (V_fieldAddr rfl rfl (by decide)) ?_
        refine Gv (V_load rfl rfl (Cell.own (.tail _ (.head _)) rfl)) ?_
        refine Ga ?_
        refine G_end (X_then (G_seq (G_seq (G_region ?_))))
        refine Gm ?_
        refine Gv (V_gtr rfl rfl rfl) ?_
        refine G_end (X_then ?_)
        refine G_cond_f rfl (by kernel_rfl) ?_
        refine G_skip (X_then (G_seq (G_region ?_)))
        refine Gv (V_fieldAddr rfl rfl (by decide)) ?_
        refine Gv (V_load rfl rfl (Cell.own (.tail _ (.head _)) rfl)) ?_
        refine Gv (V_fieldAddr rfl rfl (by decide)) ?_
        refine Gv (V_load rfl rfl (Cell.own (.head _) rfl)) ?_
        refine Gv (V_idxAddr rfl rfl rfl (SlE.rd (by assumption)) (by omega) (by omega)) ?_
        refine Gv (V_fieldAddrE rfl rfl (by assumption) (by omega) (by decide)) ?_
        refine Gv (V_loadS rfl rfl (SlE.rd (by assumption)) x1 (by simp)) ?_
        refine Gm ?_
        refine Gv (V_neq rfl rfl rfl) ?_
        refine G_end (X_then ?_)
        refine G_cond_t rfl (decide_eq_true (by omega)) ?_
        refine G_seq (G_region ?_)
        refine Ga ?_
        refine G_end (X_then (G_ret (X_block_ret (X_then_ret (X_then_ret (X_block_ret (X_then_ret ?_)))))))
        refine G_leaveS (.drop _ (.drop _ (.nil _))) (by exact (.cons (.tmp rfl) (.nil))) rfl ?_ ?_
        · exact (.refl _)
        exact ⟨(by kernel_rfl), rfl⟩
      · rw [if_neg hw] at hst
        refine G_seq (G_seq (G_region ?_))
        refine Gm ?_
        refine Gm ?_
        refine Gv (V_lenS rfl rfl) ?_
        refine Gv (V_lss rfl rfl rfl) ?_
        refine Gm ?_
        refine G.bool_t 23 rfl (decide_eq_true (by omega)) ?_
        refine Gy (V_move rfl rfl) ?_
        refine Gy (V_eql rfl rfl rfl) ?_
        refine Gv (V_pick_t rfl rfl rfl) ?_
        refine G_end (X_then ?_)
        refine G_cond_t rfl (by kernel_rfl) ?_
        refine G_skip (X_then (G_seq (G_block (G_seq (G_region ?_)))))
        refine Gm ?_
        refine Gm ?_
        refine Gv (V_idxAddr rfl rfl rfl (SlE.rd (by assumption)) (by omega) (by omega)) ?_
        refine Gv (V_loadAS rfl rfl (SlE.rd (by assumption)) (by assumption) (by simp) (by rfl)) ?_
        (refine G_alloc rfl rfl rfl (.none rfl) ?_; intro b7)
        refine G_storeA rfl rfl rfl rfl (by simp [Value.oneCell']) rfl (.none rfl) (.head _ _ _) rfl ?_
        refine G_end (X_then (G_seq (G_seq ?_)))
        refine G_draw mixed (by kernel_rfl) ?_
        refine Q_val (V_fieldAddr rfl rfl (by decide)) rfl rfl (.none rfl) ?_
        refine Q_val (V_load rfl rfl (Cell.own (.head _) rfl)) rfl rfl (.none rfl) ?_
        refine Q_val (V_lss rfl rfl rfl) rfl rfl (.none rfl) ?_
        refine Q_val (V_move rfl rfl) rfl rfl (.none rfl) ?_
        refine Q_bool_f 36 rfl (decide_eq_false (by omega)) ?_
        refine Q_val (V_fieldAddr rfl rfl (by decide)) rfl rfl (.yes rfl rfl rfl rfl) ?_
        refine Q_val (V_load rfl rfl (Cell.own (.head _) rfl)) rfl rfl (.yes rfl rfl rfl rfl) ?_
        refine Q_val (V_fieldAddr rfl rfl (by decide)) rfl rfl (.yes rfl rfl rfl rfl) ?_
        refine Q_val (V_load rfl rfl (Cell.own (.tail _ (.head _)) rfl)) rfl rfl (.yes rfl rfl rfl rfl) ?_
        refine Q_val (V_lenS rfl rfl) rfl rfl (.yes rfl rfl rfl rfl) ?_
        refine Q_val (V_geq rfl rfl rfl) rfl rfl (.yes rfl rfl rfl rfl) ?_
        refine Q_val (V_pick_f rfl rfl rfl) rfl rfl (.none rfl) ?_
        refine Q_val (V_move rfl rfl) rfl rfl (.none rfl) ?_
        refine Q_bool_f 44 rfl (decide_eq_false (by omega)) ?_
        refine Q_val (V_fieldAddr rfl rfl (by decide)) rfl rfl (.yes rfl rfl rfl rfl) ?_
        refine Q_val (V_load rfl rfl (Cell.own (.head _) rfl)) rfl rfl (.yes rfl rfl rfl rfl) ?_
        refine Q_val (V_lss rfl rfl rfl) rfl rfl (.yes rfl rfl rfl rfl) ?_
        refine Q_val (V_pick_f rfl rfl rfl) rfl rfl (.none rfl) ?_
        refine Q_val (V_move rfl rfl) rfl rfl (.none rfl) ?_
        refine Q_bool_f 49 rfl (decide_eq_false (by omega)) ?_
        refine Q_val (V_fieldAddr rfl rfl (by decide)) rfl rfl (.yes rfl rfl rfl rfl) ?_
        refine Q_val (V_load rfl rfl (Cell.own (.head _) rfl)) rfl rfl (.yes rfl rfl rfl rfl) ?_
        refine Q_val (V_fieldAddr rfl rfl (by decide)) rfl rfl (.yes rfl rfl rfl rfl) ?_
        refine Q_val (V_load rfl rfl (Cell.own (.tail _ (.head _)) rfl)) rfl rfl (.yes rfl rfl rfl rfl) ?_
        refine Q_val (V_fieldAddr rfl rfl (by decide)) rfl rfl (.yes rfl rfl rfl rfl) ?_
        refine Q_val (V_load rfl rfl (Cell.own (.head _) rfl)) rfl rfl (.yes rfl rfl rfl rfl) ?_
        refine Q_val (V_idxAddr rfl rfl rfl (SlE.rd (by assumption)) (by omega) (by omega)) rfl rfl (.yes rfl rfl rfl rfl) ?_
        refine Q_val (V_fieldAddrE rfl rfl (by assumption) (by omega) (by decide)) rfl rfl (.yes rfl rfl rfl rfl) ?_
        refine Q_val (V_loadS rfl rfl (SlE.rd (by assumption)) (by assumption) (by simp)) rfl rfl (.yes rfl rfl rfl rfl) ?_
        refine Q_val (V_lenS rfl rfl) rfl rfl (.yes rfl rfl rfl rfl) ?_
        refine Q_val (V_gtr rfl rfl rfl) rfl rfl (.yes rfl rfl rfl rfl) ?_
        refine Q_val (V_pick_f rfl rfl rfl) rfl rfl (.none rfl) ?_
        refine Q_end ?_
        refine X_then ?_
        refine G_cond_f rfl (decide_eq_false (by omega)) ?_
        refine G_skip (X_then (G_seq (G_region ?_)))
        refine Gv (V_fieldAddr rfl rfl (by decide)) ?_
        refine Gv (V_load rfl rfl (Cell.own (.tail _ (.head _)) rfl)) ?_
        refine Ga ?_
        refine G_end (X_then (G_seq (G_seq (G_region ?_))))
        refine Gm ?_
        refine Gv (V_gtr rfl rfl rfl) ?_
        refine G_end (X_then ?_)
        refine G_cond_f rfl (by kernel_rfl) ?_
        refine G_skip (X_then (G_seq (G_region ?_)))
        refine Gv (V_fieldAddr rfl rfl (by decide)) ?_
        refine Gv (V_load rfl rfl (Cell.own (.tail _ (.head _)) rfl)) ?_
        refine Gv (V_fieldAddr rfl rfl (by decide)) ?_
        refine Gv (V_load rfl rfl (Cell.own (.head _) rfl)) ?_
        refine Gv (V_idxAddr rfl rfl rfl (SlE.rd (by assumption)) (by omega) (by omega)) ?_
        refine Gv (V_fieldAddrE rfl rfl (by assumption) (by omega) (by decide)) ?_
        refine Gv (V_loadS rfl rfl (SlE.rd (by assumption)) x1 (by simp)) ?_
        refine Gm ?_
        refine Gv (V_neq rfl rfl rfl) ?_
        refine G_end (X_then ?_)
        refine G_cond_f rfl (decide_eq_false (by omega)) ?_
        refine G_skip (X_block (X_then (G_region ?_)))
        refine Gm ?_
        refine Gv (V_add_i64 rfl rfl rfl (by omega) (by omega)) ?_
        refine Ga ?_
        refine G_end (X_then ?_)
        refine G.drop ?_
        exact G_again 1 ⟨hlt, by rw [wantS_succ hx]; exact hst, hall'⟩ (by omega) ⟨rfl, rfl, rfl, rfl, trivial⟩ rfl rfl
    · obtain ⟨i', rfl⟩ : ∃ i', i = i' + 1 := ⟨i - 1, by omega⟩
      obtain ⟨⟨bp, bd⟩, hb⟩ : ∃ s, l[i']? = some s := ⟨_, List.getElem?_eq_getElem (by omega)⟩
      have hbo := hall i' _ (by omega) hb
      simp only [outS, not_or, Int.not_lt, Int.not_le] at hbo
      obtain ⟨e1, e2, e3, e4⟩ := hbo
      obtain ⟨kb, rfl⟩ : ∃ k : Nat, bp = k := ⟨bp.toNat, by omega⟩
      obtain ⟨db, rfl⟩ : ∃ d : Nat, bd = d := ⟨bd.toNat, by omega⟩
      have hkb : kb < rows.length := by omega
      have hrowb := List.getElem?_eq_getElem hkb
      have hpb : g.prods[kb]? = some rows[kb].2.2 := by rw [← hrows, List.getElem?_map, hrowb]; rfl
      have hrtb := rightP_eq hpb
      rw [hrtb] at e4
      have hr8b : rows[kb].2.2.2.length ≤ 8 := hl.ps rows[kb].2.2 (List.mem_of_getElem? hpb)
      have hnx : nextS g.prods ((kb : Int), (db : Int)) = if 0 < (db : Int) then (rows[kb].2.2.2[((db : Int) - 1).toNat]?).getD 0 else -1 := by
        unfold nextS
        rw [hrtb]
      rw [wantS_succ hb] at hst
      refine G_seq (G_seq (G_region ?_))
      refine Gm ?_
      refine Gm ?_
      refine Gv (V_lenS rfl rfl) ?_
      refine Gv (V_lss rfl rfl rfl) ?_
      refine Gm ?_
      refine G.bool_t 23 rfl (decide_eq_true (by omega)) ?_
      refine Gy (V_move rfl rfl) ?_
      refine Gy (V_eql rfl rfl rfl) ?_
      refine Gv (V_pick_t rfl rfl rfl) ?_
      refine G_end (X_then ?_)
      refine G_cond_t rfl (by kernel_rfl) ?_
      refine G_skip (X_then (G_seq (G_block (G_seq (G_region ?_)))))
      refine Gm ?_
      refine Gm ?_
      refine Gv (V_idxAddr rfl rfl rfl (SlE.rd (by assumption)) (by omega) (by omega)) ?_
      refine Gv (V_loadAS rfl rfl (SlE.rd (by assumption)) (by assumption) (by simp) (by rfl)) ?_
      (refine G_alloc rfl rfl rfl (.none rfl) ?_; intro b7)
      refine G_storeA rfl rfl rfl rfl (by simp [Value.oneCell']) rfl (.none rfl) (.head _ _ _) rfl ?_
      refine G_end (X_then (G_seq (G_seq ?_)))
      refine G_draw mixed (by kernel_rfl) ?_
      refine Q_val (V_fieldAddr rfl rfl (by decide)) rfl rfl (.none rfl) ?_
      refine Q_val (V_load rfl rfl (Cell.own (.head _) rfl)) rfl rfl (.none rfl) ?_
      refine Q_val (V_lss rfl rfl rfl) rfl rfl (.none rfl) ?_
      refine Q_val (V_move rfl rfl) rfl rfl (.none rfl) ?_
      refine Q_bool_f 36 rfl (decide_eq_false (by omega)) ?_
      refine Q_val (V_fieldAddr rfl rfl (by decide)) rfl rfl (.yes rfl rfl rfl rfl) ?_
      refine Q_val (V_load rfl rfl (Cell.own (.head _) rfl)) rfl rfl (.yes rfl rfl rfl rfl) ?_
      refine Q_val (V_fieldAddr rfl rfl (by decide)) rfl rfl (.yes rfl rfl rfl rfl) ?_
      refine Q_val (V_load rfl rfl (Cell.own (.tail _ (.head _)) rfl)) rfl rfl (.yes rfl rfl rfl rfl) ?_
      refine Q_val (V_lenS rfl rfl) rfl rfl (.yes rfl rfl rfl rfl) ?_
      refine Q_val (V_geq rfl rfl rfl) rfl rfl (.yes rfl rfl rfl rfl) ?_
      refine Q_val (V_pick_f rfl rfl rfl) rfl rfl (.none rfl) ?_
      refine Q_val (V_move rfl rfl) rfl rfl (.none rfl) ?_
      refine Q_bool_f 44 rfl (decide_eq_false (by omega)) ?_
      refine Q_val (V_fieldAddr rfl rfl (by decide)) rfl rfl (.yes rfl rfl rfl rfl) ?_
      refine Q_val (V_load rfl rfl (Cell.own (.head _) rfl)) rfl rfl (.yes rfl rfl rfl rfl) ?_
      refine Q_val (V_lss rfl rfl rfl) rfl rfl (.yes rfl rfl rfl rfl) ?_
      refine Q_val (V_pick_f rfl rfl rfl) rfl rfl (.none rfl) ?_
      refine Q_val (V_move rfl rfl) rfl rfl (.none rfl) ?_
      refine Q_bool_f 49 rfl (decide_eq_false (by omega)) ?_
      refine Q_val (V_fieldAddr rfl rfl (by decide)) rfl rfl (.yes rfl rfl rfl rfl) ?_
      refine Q_val (V_load rfl rfl (Cell.own (.head _) rfl)) rfl rfl (.yes rfl rfl rfl rfl) ?_
      refine Q_val (V_fieldAddr rfl rfl (by decide)) rfl rfl (.yes rfl rfl rfl rfl) ?_
      refine Q_val (V_load rfl rfl (Cell.own (.tail _ (.head _)) rfl)) rfl rfl (.yes rfl rfl rfl rfl) ?_
      refine Q_val (V_fieldAddr rfl rfl (by decide)) rfl rfl (.yes rfl rfl rfl rfl) ?_
      refine Q_val (V_load rfl rfl (Cell.own (.head _) rfl)) rfl rfl (.yes rfl rfl rfl rfl) ?_
      refine Q_val (V_idxAddr rfl rfl rfl (SlE.rd (by assumption)) (by omega) (by omega)) rfl rfl (.yes rfl rfl rfl rfl) ?_
      refine Q_val (V_fieldAddrE rfl rfl (by assumption) (by omega) (by decide)) rfl rfl (.yes rfl rfl rfl rfl) ?_
      refine Q_val (V_loadS rfl rfl (SlE.rd (by assumption)) (by assumption) (by simp)) rfl rfl (.yes rfl rfl rfl rfl) ?_
      refine Q_val (V_lenS rfl rfl) rfl rfl (.yes rfl rfl rfl rfl) ?_
      refine Q_val (V_gtr rfl rfl rfl) rfl rfl (.yes rfl rfl rfl rfl) ?_
      refine Q_val (V_pick_f rfl rfl rfl) rfl rfl (.none rfl) ?_
      refine Q_end ?_
      refine X_then ?_
      refine G_cond_f rfl (decide_eq_false (by omega)) ?_
      refine G_skip (X_then (G_seq (G_region ?_)))
      refine Gv (V_fieldAddr rfl rfl (by decide)) ?_
      refine Gv (V_load rfl rfl (Cell.own (.tail _ (.head _)) rfl)) ?_
      refine Ga ?_
      refine G_end (X_then (G_seq (G_seq (G_region ?_))))
      refine Gm ?_
      refine Gv (V_gtr rfl rfl rfl) ?_
      refine G_end (X_then ?_)
      refine G_cond_t rfl (decide_eq_true (by omega)) ?_
      refine G_seq (G_region ?_)
      refine Gm ?_
      refine Gm ?_
      refine Gv (V_sub_i64 rfl rfl rfl (by omega) (by omega)) ?_
      refine Gv (V_idxAddr rfl rfl rfl (SlE.rd (by assumption)) (by omega) (by omega)) ?_
      have z1 : ((spC l).drop ((((i' + 1 : Nat) : Int) - 1).toNat * 2)).take 2 = [.int .i64 (kb : Int), .int .i64 (db : Int)] := by
        rw [show (((i' + 1 : Nat) : Int) - 1).toNat = i' by omega]
        exact spC_get hb
      clear y1
      by_cases hd0 : db = 0
      · have hnx0 : nextS g.prods ((kb : Int), (db : Int)) = -1 := by rw [hnx]; exact if_neg (by omega)
        rw [hnx0, if_pos (by omega)] at hst
        rw [hst]
        refine Gv (V_loadAS rfl rfl (SlE.rd (by assumption)) (by assumption) (by simp) (by rfl)) ?_
        (refine G_alloc rfl rfl rfl (.none rfl) ?_; intro b9)
        refine G_storeA rfl rfl rfl rfl (by simp [Value.oneCell']) rfl (.none rfl) (.head _ _ _) rfl ?_
        refine G_end (X_then (G_seq (G_seq (G_region ?_))))
        refine Gv (V_fieldAddr rfl rfl (by decide)) ?_
        refine Gv (V_load rfl rfl (Cell.own (.head _) rfl)) ?_
        refine Gv (V_eql rfl rfl rfl) ?_
        refine G_end (X_then ?_)
        refine G_cond_t rfl (decide_eq_true (by omega)) ?_
        refine G_seq (G_region ?_)
        refine Ga ?_
        refine G_end (X_then (G_ret (X_then_ret (X_then_ret (X_block_ret (X_then_ret (X_then_ret (X_block_ret (X_then_ret ?_)))))))))
        refine G_leaveS (.drop _ (.drop _ (.drop _ (.nil _)))) (by exact (.cons (.tmp rfl) (.nil))) rfl ?_ ?_
        · exact (.refl _)
        exact ⟨(by kernel_rfl), rfl⟩
      · obtain ⟨v, hv⟩ : ∃ v, rows[kb].2.2.2[((db : Int) - 1).toNat]? = some v := ⟨_, List.getElem?_eq_getElem (l := rows[kb].2.2.2) (i := ((db : Int) - 1).toNat) (by omega)⟩
        have hnx1 : nextS g.prods ((kb : Int), (db : Int)) = v := by rw [hnx, if_pos (by omega), hv]; rfl
        rw [hnx1] at hst
        have w2 := prows_right hrowb
        have w4 := hre.get hrowb
        have w5 := i64s_get hv
        clear x1 x2 x3 x4
        refine Gv (V_loadAS rfl rfl (SlE.rd (by assumption)) (by assumption) (by simp) (by rfl)) ?_
        (refine G_alloc rfl rfl rfl (.none rfl) ?_; intro b9)
        refine G_storeA rfl rfl rfl rfl (by simp [Value.oneCell']) rfl (.none rfl) (.head _ _ _) rfl ?_
        refine G_end (X_then (G_seq (G_seq (G_region ?_))))
        refine Gv (V_fieldAddr rfl rfl (by decide)) ?_
        refine Gv (V_load rfl rfl (Cell.own (.head _) rfl)) ?_
        refine Gv (V_eql rfl rfl rfl) ?_
        refine G_end (X_then ?_)
        refine G_cond_f rfl (decide_eq_false (by omega)) ?_
        refine G_skip (X_then ?_)
        refine G_draw mixed (by kernel_rfl) ?_
        refine Q_val (V_fieldAddr rfl rfl (by decide)) rfl rfl (.none rfl) ?_
        refine Q_val (V_load rfl rfl (Cell.own (.tail _ (.tail _ (.head _))) rfl)) rfl rfl (.none rfl) ?_
        refine Q_val (V_fieldAddr rfl rfl (by decide)) rfl rfl (.none rfl) ?_
        refine Q_val (V_load rfl rfl (Cell.own (.head _) rfl)) rfl rfl (.none rfl) ?_
        refine Q_val (V_idxAddr rfl rfl rfl (SlE.rd (by assumption)) (by omega) (by omega)) rfl rfl (.none rfl) ?_
        refine Q_val (V_fieldAddrE rfl rfl (by assumption) (by omega) (by decide)) rfl rfl (.none rfl) ?_
        refine Q_val (V_loadS rfl rfl (SlE.rd (by assumption)) (by assumption) (by simp)) rfl rfl (.none rfl) ?_
        refine Q_val (V_fieldAddr rfl rfl (by decide)) rfl rfl (.none rfl) ?_
        refine Q_val (V_load rfl rfl (Cell.own (.head _) rfl)) rfl rfl (.none rfl) ?_
        refine Q_val (V_sub_i64 rfl rfl rfl (by omega) (by omega)) rfl rfl (.none rfl) ?_
        refine Q_val (V_idxAddr rfl rfl rfl (SlE.rd (by assumption)) (by omega) (by omega)) rfl rfl (.none rfl) ?_
        refine Q_val (V_loadS rfl rfl (SlE.rd (by assumption)) (by assumption) (by simp)) rfl rfl (.none rfl) ?_
        refine Q_val (V_assign rfl rfl) rfl rfl (.none rfl) ?_
        refine Q_end ?_
        refine X_then (G_seq (G_region ?_))
        refine Gv (V_fieldAddr rfl rfl (by decide)) ?_
        refine Gv (V_load rfl rfl (Cell.own (.tail _ (.tail _ (.head _))) rfl)) ?_
        refine Gv (V_fieldAddr rfl rfl (by decide)) ?_
        refine Gv (V_load rfl rfl (Cell.own (.tail _ (.head _)) rfl)) ?_
        refine Gv (V_idxAddr rfl rfl rfl (SlE.rd (by assumption)) (by omega) (by omega)) ?_
        refine Gv (V_fieldAddrE rfl rfl (by assumption) (by omega) (by decide)) ?_
        have x1 := prows_left hrow
        clear w2 w4 w5
        by_cases hw : rows[k].2.2.1 ≠ v
        · rw [if_pos hw] at hst
          rw [hst]
          refine Gv (V_loadS rfl rfl (SlE.rd (by assumption)) (by assumption) (by simp)) ?_
          refine Gm ?_
          refine Gv (V_neq rfl rfl rfl) ?_
          refine G_end (X_then ?_)
          refine G_cond_t rfl (decide_eq_true (by omega)) ?_
          refine G_seq (G_region ?_)
          refine Ga ?_
          refine G_end (X_then (G_ret (X_block_ret (X_then_ret (X_then_ret (X_block_ret (X_then_ret ?_)))))))
          refine G_leaveS (.drop _ (.drop _ (.drop _ (.nil _)))) (by exact (.cons (.tmp rfl) (.nil))) rfl ?_ ?_
          · exact (.refl _)
          exact ⟨(by kernel_rfl), rfl⟩
        · rw [if_neg hw] at hst
          refine Gv (V_loadS rfl rfl (SlE.rd (by assumption)) (by assumption) (by simp)) ?_
          refine Gm ?_
          refine Gv (V_neq rfl rfl rfl) ?_
          refine G_end (X_then ?_)
          refine G_cond_f rfl (decide_eq_false (by omega)) ?_
          refine G_skip (X_block (X_then (G_region ?_)))
          refine Gm ?_
          refine Gv (V_add_i64 rfl rfl rfl (by omega) (by omega)) ?_
          refine Ga ?_
          refine G_end (X_then ?_)
          refine G.drop (G.drop ?_)
          exact G_again (i' + 1 + 1) ⟨hlt, by rw [wantS_succ hx]; exact hst, hall'⟩ (by omega) ⟨rfl, rfl, rfl, rfl, trivial⟩ rfl rfl
  · obtain rfl : i = l.length := by omega
    rw [List.drop_length] at hst
    rw [hst]
    refine G_seq (G_seq (G_region ?_))
    refine Gm ?_
    refine Gm ?_
    refine Gv (V_lenS rfl rfl) ?_
    refine Gv (V_lss rfl rfl rfl) ?_
    refine Gm ?_
    refine G.bool_f 23 rfl (decide_eq_false (by omega)) ?_
    refine Gn ?_
    refine Gn ?_
    refine Gv (V_pick_f rfl rfl rfl) ?_
    refine G_end (X_then ?_)
    refine G_cond_f rfl rfl ?_
    refine G_exit (X_then_exit (X_then_exit (X_block_hit (X_then (G_seq (G_region ?_))))))
    refine Gm ?_
    refine Ga ?_
    refine G_end (X_then (G_ret ?_))
    refine G_leaveS (.drop _ (.nil _)) (by exact (.cons (.tmp rfl) (.nil))) rfl ?_ ?_
    · exact (.refl _)
    exact ⟨rfl, rfl⟩
end
end Go.Proofs.YtiegoiadbklgjaaGreatDoor
set_option linter.unusedSimpArgs false
set_option linter.unusedVariables false
set_option maxHeartbeats 2000000
set_option maxRecDepth 20000
namespace Go.Proofs.YtiegoiadbklgjaaGreatDoor
open Go.RowKit
/-! stack.Awaits. -/
theorem awS_kind (ps : List Pr) (l : List Spt) : 0 ≤ (awS ps l).1 ∧ (awS ps l).1 ≤ 3 := by
  unfold awS
  split
  · simp
  · split
    · simp
    · split <;> simp
section
variable (E : Env) (L : List Res)
theorem Awaits_call (gv : Value) (g : Gr) (hg : GrE E gv g) (hl : Light g) (p : Option Addr) (n c : Nat) (l : List Spt) (hs : SlE E 2 p n (spC l)) (hn : n ≤ 9223372036854775807) :
    CallV Tryz.prog 13 #[gv, .slice p n c] E L (.tuple #[.int .i64 (awaitM g l).1, .int .i64 (awaitM g l).2.1, .int .i64 (awaitM g l).2.2]) := by
  have hc := fun L0 => SCheck_call E L0 gv g hg hl p n c l hs hn
  have en := hs.nSp
  unfold awaitM
  by_cases h : chkS g l ≠ 0
  · rw [if_pos h]
    generalize chkS g l = r at *
    obtain ⟨tp, tc, np, nc, pp, pc, rfl, ht, hn', _, k1, k2, k3⟩ := hg
    refine CallS.toV (CallS.intro (l := [_, _]) _ Tryz.func13 rfl Tryz.ntmps13 rfl ?_)
    refine G_seq (G_region ?_)
    (refine G_boxA rfl rfl rfl rfl (.none rfl) ?_; intro b2)
    refine Ga ?_
    refine Ga ?_
    refine Ga ?_
    refine G_end (X_then (G_seq (G_seq (G_region ?_))))
    refine Gv (V_loadA rfl rfl (Cells.own (.head _)) rfl) ?_
    refine Gm ?_
    refine G_callv (k := 15) (.mk rfl rfl rfl rfl) rfl rfl (.none rfl) (hc _) ?_
    refine Ga ?_
    refine G_end (X_then (G_seq (G_region ?_)))
    refine Gm ?_
    refine Gv (V_neq rfl rfl rfl) ?_
    refine G_end (X_then ?_)
    refine G_cond_t rfl (decide_eq_true (by omega)) ?_
    refine G_seq (G_region ?_)
    refine Gm ?_
    refine Ga ?_
    refine Ga ?_
    refine Ga ?_
    refine G_end (X_then (G_ret (X_then_ret ?_)))
    refine G_leaveS (.drop _ (.nil _)) (by exact (.cons (.tmp rfl) (.cons (.tmp rfl) (.cons (.tmp rfl) (.nil))))) rfl ?_ ?_
    · exact (.refl _)
    exact ⟨rfl, rfl⟩
  · have h0 : chkS g l = 0 := by omega
    rw [if_neg h]
    have hok := chkS_ok h0
    have ha := fun L0 => awaits_call E L0 gv g hg hl p n c l hs (by omega) (chkS_in h0)
    have hk := awS_kind g.prods l
    rw [h0] at hc
    generalize awS g.prods l = r at *
    obtain ⟨tp, tc, np, nc, pp, pc, rfl, ht, hn', _, k1, k2, k3⟩ := hg
    refine CallS.toV (CallS.intro (l := [_, _]) _ Tryz.func13 rfl Tryz.ntmps13 rfl ?_)
    refine G_seq (G_region ?_)
    (refine G_boxA rfl rfl rfl rfl (.none rfl) ?_; intro b2)
    refine Ga ?_
    refine Ga ?_
    refine Ga ?_
    refine G_end (X_then (G_seq (G_seq (G_region ?_))))
    refine Gv (V_loadA rfl rfl (Cells.own (.head _)) rfl) ?_
    refine Gm ?_
    refine G_callv (k := 15) (.mk rfl rfl rfl rfl) rfl rfl (.none rfl) (hc _) ?_
    refine Ga ?_
    refine G_end (X_then (G_seq (G_region ?_)))
    refine Gm ?_
    refine Gv (V_neq rfl rfl rfl) ?_
    refine G_end (X_then ?_)
    refine G_cond_f rfl (by kernel_rfl) ?_
    refine G_skip (X_then (G_seq (G_region ?_)))
    refine Gv (V_loadA rfl rfl (Cells.own (.head _)) rfl) ?_
    refine Gm ?_
    refine G_callv (k := 42) (.mk rfl rfl rfl rfl) rfl rfl (.none rfl) (ha _) ?_
    refine Gm ?_
    refine Gv (V_extract rfl rfl rfl) ?_
    refine Gv (V_extract rfl rfl rfl) ?_
    refine Ga ?_
    refine Ga ?_
    refine G_end (X_then (G_seq (G_region ?_)))
    refine Gm ?_
    refine G_callv (k := 43) (.mk rfl rfl rfl rfl) rfl rfl (.none rfl) (kind_call _ _ _ (by assumption)) ?_
    refine Gm ?_
    refine Ga ?_
    refine Ga ?_
    refine Ga ?_
    refine G_end (X_then (G_ret ?_))
    refine G_leaveS (.drop _ (.nil _)) (by exact (.cons (.tmp rfl) (.cons (.tmp rfl) (.cons (.tmp rfl) (.nil))))) rfl ?_ ?_
    · exact (.refl _)
    exact ⟨rfl, rfl⟩
end
end Go.Proofs.YtiegoiadbklgjaaGreatDoor
set_option linter.unusedSimpArgs false
set_option linter.unusedVariables false
set_option maxHeartbeats 2000000
set_option maxRecDepth 20000
namespace Go.Proofs.YtiegoiadbklgjaaGreatDoor
open Go.RowKit
/-! The top dot one further; a clone. -/
theorem bump_snoc (l : List Spt) (q d : Int) : bump (l ++ [(q, d)]) = l ++ [(q, d + 1)] := by
  simp [bump]
section
variable (E : Env) (L : List Res)
theorem moved_call (p : Option Addr) (n c : Nat) (l : List Spt) (q d : Int) (hs : SlE E 2 p n (spC (l ++ [(q, d)]))) (hn : n ≤ 64) (hc : n ≤ c) (hd : 0 ≤ d ∧ d ≤ 1000) :
    CallS Tryz.prog 48 #[.slice p n c] E L (fun r E' L' => ∃ a c', r = .slice a n c' ∧ SlE E' 2 a n (spC (l ++ [(q, d + 1)])) ∧ n ≤ c' ∧ L' = L) := by
  have en := hs.nSp
  rw [List.length_append, List.length_singleton] at en
  subst en
  have x6 : ((spC (l ++ [(q, d)])).drop ((((l.length + 1 : Nat) : Int) - 1).toNat * 2)).take 2 = [.int .i64 q, .int .i64 d] := by
    rw [show (((l.length + 1 : Nat) : Int) - 1).toNat = l.length by omega]
    exact spC_get (show (l ++ [(q, d)])[l.length]? = some (q, d) by simp)
  have hap := spC_append l [(q, d + 1)]
  have hs0 : SlE E 2 p l.length (spC l) := by
    have := hs.head (i := l.length) (by omega)
    rw [spC_append, show l.length * 2 = (spC l).length by rw [spC_len], List.take_left] at this
    exact this
  -- the loads take the first fact that fits
  replace hs := hs
  refine CallS.intro (l := [_]) _ Tryz.func48 rfl Tryz.ntmps48 rfl ?_
  refine G_seq (G_region ?_)
  refine Ga ?_
  refine G_end (X_then (G_seq (G_region ?_)))
  refine Gm ?_
  refine Gv (V_lenS rfl rfl) ?_
  refine Gv (V_sub_i64 rfl rfl rfl (by omega) (by omega)) ?_
  refine Ga ?_
  refine G_end (X_then (G_seq (G_region ?_)))
  refine Gm ?_
  refine Gm ?_
  refine Gv (V_idxAddr rfl rfl rfl (SlE.rd (by assumption)) (by omega) (by omega)) ?_
  refine Gv (V_loadAS rfl rfl (SlE.rd (by assumption)) (by assumption) (by simp) (by rfl)) ?_
  (refine G_alloc rfl rfl rfl (.none rfl) ?_; intro b4)
  refine G_storeA rfl rfl rfl rfl (by simp [Value.oneCell']) rfl (.none rfl) (.head _ _ _) rfl ?_
  refine G_end (X_then (G_seq (G_region ?_)))
  refine Gv (V_fieldAddr rfl rfl (by decide)) ?_
  refine Gv (V_load rfl rfl (Cell.own (.head _) rfl)) ?_
  refine Gv (V_add_i64 rfl rfl rfl (by omega) (by omega)) ?_
  refine Gv (V_fieldAddr rfl rfl (by decide)) ?_
  refine G_storeAt rfl rfl rfl rfl rfl rfl (.none rfl) (.head _ _ _) (Nat.le_of_ble_eq_true rfl) (by simp only [putAll, Nat.zero_add, Nat.reduceAdd, List.setIfInBounds_toArray, List.set_cons_succ, List.set_cons_zero]; rfl) ?_
  refine G_end (X_then (G_seq ?_))
  refine G_drawX 6 [(0, 0), (1, 0), (2, 0), (3, 0), (4, 1), (5, 2)] mixed (by kernel_rfl) ?_
  refine F_pure rfl (fun _ _ => V_move rfl rfl) rfl rfl (.none rfl) ?_
  refine F_pure rfl (fun _ _ => V_move rfl rfl) rfl rfl (.none rfl) ?_
  refine F_pure rfl (fun _ _ => V_move rfl rfl) rfl rfl (.none rfl) ?_
  refine F_pure rfl (fun _ _ => V_sl3 rfl rfl rfl rfl (by omega) (by omega) (by omega)) rfl rfl (.none rfl) ?_
  refine F_load rfl (.head _) (V_loadA rfl rfl (Cells.own (.head _)) rfl) rfl rfl (.none rfl) ?_
  (refine F_litZ rfl rfl rfl (by decide) (by simp [fillS, zeros, setLs, setL, Value.cells, List.range, List.range.loop]; rfl) (by rfl) rfl rfl (.none rfl) ?_; intro b21 E21 hE21 hs21)
  replace hs0 := hs0.mono hE21
  replace hs := hs.mono hE21
  (refine F_end (.nil _) ?_; dsimp only [List.drop])
  rw [show (((l.length + 1 : Nat) : Int) - 1).toNat = l.length by omega]
  refine G_appendZ rfl rfl rfl hs0 hs21 (by omega) (by omega) rfl rfl (.none rfl) ?_
  intro a' c' E9 hE9 hap' hc'
  rw [hap]
  refine Ga ?_
  refine G_end (X_then (G_ret ?_))
  refine G_leaveS (.drop _ (.nil _)) (by exact (.cons (.tmp rfl) (.nil))) rfl ?_ ?_
  · exact (hE21.trans hE9)
  exact ⟨_, ⟨_, ⟨rfl, ⟨(by assumption), ⟨(by assumption), rfl⟩⟩⟩⟩⟩
theorem CloneSp_call (p : Option Addr) (c : Nat) (l : List Spt) (hl : SlE E 2 p l.length (spC l)) (hn : l.length ≤ 1000) :
    CallS Tryz.prog 50 #[.slice p l.length c] E L (fun r E' L' => ∃ a c', r = .slice a l.length c' ∧ SlE E' 2 a l.length (spC l) ∧ l.length ≤ c' ∧ L' = L) := by
  refine CallS.intro (l := [_]) _ Tryz.func50 rfl Tryz.ntmps50 rfl ?_
  cases p with
  | none =>
    have hn0 : l.length = 0 := by
      rcases hl.2 with ⟨_, h⟩ | ⟨q, h, _⟩
      · exact h
      · cases h
    have hle : l = [] := List.eq_nil_of_length_eq_zero hn0
    subst hle
    have hnil : SlE E 2 none 0 (spC []) := SlE.nil
    refine G_seq (G_region ?_)
    refine Ga ?_
    refine G_end (X_then (G_seq (G_seq (G_region ?_))))
    refine Gm ?_
    refine Gv (V_eqlN rfl rfl rfl) ?_
    refine G_end (X_then ?_)
    refine G_cond_t rfl (by kernel_rfl) ?_
    refine G_seq (G_region ?_)
    refine Ga ?_
    refine G_end (X_then (G_ret (X_then_ret ?_)))
    refine G_leaveS (.nil _) (by exact (.cons (.tmp rfl) (.nil))) rfl ?_ ?_
    · exact (.refl _)
    exact ⟨_, ⟨_, ⟨rfl, ⟨(by assumption), ⟨(by omega), rfl⟩⟩⟩⟩⟩
  | some q =>
    refine G_seq (G_region ?_)
    refine Ga ?_
    refine G_end (X_then (G_seq (G_seq (G_region ?_))))
    refine Gm ?_
    refine Gv (V_eqlN rfl rfl rfl) ?_
    refine G_end (X_then ?_)
    refine G_cond_f rfl (by simp [*]; done) ?_
    refine G_skip (X_then (G_seq (G_region ?_)))
    (refine G_lit0z rfl rfl rfl (.none rfl) ?_; intro b5)
    refine Gm ?_
    refine G_append rfl rfl rfl (SlE.rd hl) (spC_one l) (by omega) (by omega) rfl rfl (.none rfl) (fun _ _ => .head _ _ _) ?_
    intro a7 c7
    refine G.freezeSl (.head _ _) ?_
    intro E1 hE1 hal hc
    simp only [Nat.zero_add, List.nil_append] at hal hc ⊢
    refine Ga ?_
    refine G_end (X_then (G_ret ?_))
    refine G_leaveS (.nil _) (by exact (.cons (.tmp rfl) (.nil))) rfl ?_ ?_
    · exact hE1
    exact ⟨_, ⟨_, ⟨rfl, ⟨(by assumption), ⟨(by assumption), rfl⟩⟩⟩⟩⟩
end
theorem chkS_64 {g : Gr} {l : List Spt} (h : chkS g l = 0) : l.length ≤ 64 := by
  unfold chkS at h
  split at h
  · omega
  · split at h
    · omega
    · omega
theorem awS_nil (ps : List Pr) : awS ps [] = (0, 0) := rfl
theorem awS_some (ps : List Pr) (l : List Spt) (s : Spt) : (awS ps (l ++ [s])).1 ≠ 0 := by
  unfold awS
  rw [List.getLast?_concat]
  simp only
  split
  · simp
  · split <;> simp
end Go.Proofs.YtiegoiadbklgjaaGreatDoor
set_option linter.unusedSimpArgs false
set_option linter.unusedVariables false
set_option maxHeartbeats 2000000
set_option maxRecDepth 20000
namespace Go.Proofs.YtiegoiadbklgjaaGreatDoor
open Go.RowKit
/-! The reference: own, awaits, Awaits. -/
section
variable (E : Env) (L : List Res)
theorem Rown_call (p : Option Addr) (n c : Nat) (l : List Spt) (hs : SlE E 2 p n (spC l)) (hn : n ≤ 1000) :
    CallS Tryz.prog 49 #[.slice p n c] E L (fun r E' L' => ∃ a c', r = .slice a n c' ∧ E = E' ∧ L' = .sl 58 2 a n c' (spC l) :: L) := by
  have h1 := spC_one l
  refine CallS.intro (l := [_]) _ Tryz.func49 rfl Tryz.ntmps49 rfl ?_
  refine G_seq (G_region ?_)
  refine Ga ?_
  refine G_end (X_then (G_seq (G_region ?_)))
  (refine G_lit0z rfl rfl rfl (.none rfl) ?_; intro b3)
  refine Gm ?_
  refine G_append rfl rfl rfl (SlE.rd hs) (spC_one l) (by omega) (by omega) rfl rfl (.none rfl) (fun _ _ => .head _ _ _) ?_
  intro a c
  simp only [Nat.zero_add, List.nil_append]
  refine Ga ?_
  refine G_end (X_then (G_ret ?_))
  refine G_leaveS (.keep _ (.nil _)) (by exact (.cons (.tmp rfl) (.nil))) rfl ?_ ?_
  · exact (.refl _)
  exact ⟨_, ⟨_, ⟨rfl, ⟨rfl, rfl⟩⟩⟩⟩
theorem Lown_call (p : Option Addr) (n c : Nat) (l : List Spt) (hs : SlE E 2 p n (spC l)) (hn : n ≤ 1000) :
    CallS Tryz.prog 12 #[.slice p n c] E L (fun r E' L' => ∃ a c', r = .slice a n c' ∧ SlE E' 2 a n (spC l) ∧ n ≤ c' ∧ L' = L) := by
  have h1 := spC_one l
  refine CallS.intro (l := [_]) _ Tryz.func12 rfl Tryz.ntmps12 rfl ?_
  refine G_seq (G_region ?_)
  refine Ga ?_
  refine G_end (X_then (G_seq (G_region ?_)))
  (refine G_lit0z rfl rfl rfl (.none rfl) ?_; intro b3)
  refine Gm ?_
  refine G_append rfl rfl rfl (SlE.rd hs) (spC_one l) (by omega) (by omega) rfl rfl (.none rfl) (fun _ _ => .head _ _ _) ?_
  intro a c
  refine G.freezeSl (.head _ _) ?_
  intro E1 hE1 hal hc
  simp only [Nat.zero_add, List.nil_append] at hal hc ⊢
  refine Ga ?_
  refine G_end (X_then (G_ret ?_))
  refine G_leaveS (.nil _) (by exact (.cons (.tmp rfl) (.nil))) rfl ?_ ?_
  · exact hE1
  exact ⟨_, ⟨_, ⟨rfl, ⟨(by assumption), ⟨(by assumption), rfl⟩⟩⟩⟩⟩
theorem Rawaits_call (gv : Value) (g : Gr) (hg : GrE E gv g) (hl : Light g) (p : Option Addr) (n c : Nat) (l : List Spt) (hs : SlE E 2 p n (spC l)) (hn : n ≤ 64) (hin : ∀ s, s ∈ l → ¬ outS g.prods s) :
    CallV Tryz.prog 44 #[gv, .slice p n c] E L (.tuple #[.int .i64 (awS g.prods l).1, .int .i64 (awS g.prods l).2]) := by
  have en := hs.nSp
  obtain ⟨tp, tc, np, nc, pp, pc, rfl, ht, hn', ⟨rows, hrows, hps, hre⟩, k1, k2, k3⟩ := hg
  have hlen : g.prods.length = rows.length := by rw [← hrows]; simp
  have q3 := hl.p
  rcases List.eq_nil_or_concat l with rfl | ⟨l', s, rfl⟩
  · obtain rfl : n = 0 := en
    refine CallS.toV (CallS.intro (l := [_, _]) _ Tryz.func44 rfl Tryz.ntmps44 rfl ?_)
    refine G_seq (G_region ?_)
    (refine G_boxA rfl rfl rfl rfl (.none rfl) ?_; intro b2)
    refine Ga ?_
    refine Ga ?_
    refine G_end (X_then (G_seq (G_seq (G_region ?_))))
    refine Gm ?_
    refine Gv (V_lenS rfl rfl) ?_
    refine Gv (V_eql rfl rfl rfl) ?_
    refine G_end (X_then ?_)
    refine G_cond_t rfl (by kernel_rfl) ?_
    refine G_seq (G_region ?_)
    refine Ga ?_
    refine Ga ?_
    refine G_end (X_then (G_ret (X_then_ret ?_)))
    refine G_leaveS (.drop _ (.nil _)) (by exact (.cons (.tmp rfl) (.cons (.tmp rfl) (.nil)))) rfl ?_ ?_
    · exact (.refl _)
    exact ⟨rfl, rfl⟩
  rw [List.concat_eq_append] at *
  obtain ⟨sp, sd⟩ := s
  have ho := hin (sp, sd) (by simp)
  simp only [outS, not_or, Int.not_lt, Int.not_le] at ho
  obtain ⟨ho1, ho2, ho3, ho4⟩ := ho
  obtain ⟨k, rfl⟩ : ∃ k : Nat, sp = k := ⟨sp.toNat, by omega⟩
  obtain ⟨d, rfl⟩ : ∃ d : Nat, sd = d := ⟨sd.toNat, by omega⟩
  have hk : k < rows.length := by omega
  have hrow := List.getElem?_eq_getElem hk
  have hpk : g.prods[k]? = some rows[k].2.2 := by rw [← hrows, List.getElem?_map, hrow]; rfl
  have hrt := rightP_eq hpk
  rw [hrt] at ho4
  have x1 := prows_left hrow
  have x2 := prows_right hrow
  have x3 := prows_get hrow
  have x4 := hre.get hrow
  have hr8 : rows[k].2.2.2.length ≤ 8 := hl.ps rows[k].2.2 (List.mem_of_getElem? hpk)
  rw [awS_top hpk]
  obtain rfl : n = l'.length + 1 := by rw [en, List.length_append]; rfl
  have htop : (l' ++ [((k : Int), (d : Int))])[l'.length]? = some ((k : Int), (d : Int)) := by simp
  have x6 : ((spC (l' ++ [((k : Int), (d : Int))])).drop ((((l'.length + 1 : Nat) : Int) - 1).toNat * 2)).take 2 = [.int .i64 (k : Int), .int .i64 (d : Int)] := by
    rw [show (((l'.length + 1 : Nat) : Int) - 1).toNat = l'.length by omega]
    exact spC_get htop
  by_cases hd : d = rows[k].2.2.2.length
  · rw [List.getElem?_eq_none (by omega)]
    refine CallS.toV (CallS.intro (l := [_, _]) _ Tryz.func44 rfl Tryz.ntmps44 rfl ?_)
    refine G_seq (G_region ?_)
    (refine G_boxA rfl rfl rfl rfl (.none rfl) ?_; intro b2)
    refine Ga ?_
    refine Ga ?_
    refine G_end (X_then (G_seq (G_seq (G_region ?_))))
    refine Gm ?_
    refine Gv (V_lenS rfl rfl) ?_
    refine Gv (V_eql rfl rfl rfl) ?_
    refine G_end (X_then ?_)
    refine G_cond_f rfl (decide_eq_false (by omega)) ?_
    refine G_skip (X_then (G_seq (G_region ?_)))
    refine Gm ?_
    refine Gm ?_
    refine Gv (V_lenS rfl rfl) ?_
    refine Gv (V_sub_i64 rfl rfl rfl (by omega) (by omega)) ?_
    refine Gv (V_idxAddr rfl rfl rfl (SlE.rd (by assumption)) (by omega) (by omega)) ?_
    refine Gv (V_loadAS rfl rfl (SlE.rd (by assumption)) (by assumption) (by simp) (by rfl)) ?_
    (refine G_alloc rfl rfl rfl (.none rfl) ?_; intro b6)
    refine G_storeA rfl rfl rfl rfl (by simp [Value.oneCell']) rfl (.none rfl) (.head _ _ _) rfl ?_
    refine G_end (X_then (G_seq (G_region ?_)))
    refine Gv (V_fieldAddr rfl rfl (by decide)) ?_
    refine Gv (V_load rfl rfl (Cell.own (.tail _ (.head _)) rfl)) ?_
    refine Gv (V_fieldAddr rfl rfl (by decide)) ?_
    refine Gv (V_load rfl rfl (Cell.own (.head _) rfl)) ?_
    refine Gv (V_idxAddr rfl rfl rfl (SlE.rd (by assumption)) (by omega) (by omega)) ?_
    refine Gv (V_loadAS rfl rfl (SlE.rd (by assumption)) (by assumption) (by simp) (by rfl)) ?_
    (refine G_alloc rfl rfl rfl (.none rfl) ?_; intro b7)
    refine G_storeA rfl rfl rfl rfl (by simp [Value.oneCell']) rfl (.none rfl) (.head _ _ _) rfl ?_
    refine G_end (X_then (G_seq (G_block (G_seq (G_region ?_)))))
    refine Gv (V_fieldAddr rfl rfl (by decide)) ?_
    refine Gv (V_load rfl rfl (Cell.own (.tail _ (.head _)) rfl)) ?_
    refine Gv (V_fieldAddr rfl rfl (by decide)) ?_
    refine Gv (V_load rfl rfl (Cell.own (.head _) rfl)) ?_
    refine Gv (V_lenS rfl rfl) ?_
    refine Gv (V_eql rfl rfl rfl) ?_
    refine Ga ?_
    refine G_end (X_then ?_)
    refine G_cond_t rfl (decide_eq_true (by omega)) ?_
    refine G_seq ?_
    refine G_draw mixed (by kernel_rfl) ?_
    refine Q_val (V_fieldAddr rfl rfl (by decide)) rfl rfl (.none rfl) ?_
    refine Q_val (V_load rfl rfl (Cell.own (.head _) rfl)) rfl rfl (.none rfl) ?_
    refine Q_val (V_assign rfl rfl) rfl rfl (.none rfl) ?_
    refine Q_val (V_assign rfl rfl) rfl rfl (.none rfl) ?_
    refine Q_end ?_
    refine X_then (G_ret (X_block_ret (X_then_ret ?_)))
    refine G_leaveS (.drop _ (.drop _ (.drop _ (.nil _)))) (by exact (.cons (.tmp rfl) (.cons (.tmp rfl) (.nil)))) rfl ?_ ?_
    · exact (.refl _)
    exact ⟨rfl, rfl⟩
  · obtain ⟨v, hv⟩ : ∃ v, rows[k].2.2.2[d]? = some v := ⟨_, List.getElem?_eq_getElem (l := rows[k].2.2.2) (i := d) (by omega)⟩
    have x5 := i64s_get hv
    rw [hv]
    simp only
    by_cases h16 : 16 ≤ v
    · rw [if_pos h16]
      refine CallS.toV (CallS.intro (l := [_, _]) _ Tryz.func44 rfl Tryz.ntmps44 rfl ?_)
      refine G_seq (G_region ?_)
      (refine G_boxA rfl rfl rfl rfl (.none rfl) ?_; intro b2)
      refine Ga ?_
      refine Ga ?_
      refine G_end (X_then (G_seq (G_seq (G_region ?_))))
      refine Gm ?_
      refine Gv (V_lenS rfl rfl) ?_
      refine Gv (V_eql rfl rfl rfl) ?_
      refine G_end (X_then ?_)
      refine G_cond_f rfl (decide_eq_false (by omega)) ?_
      refine G_skip (X_then (G_seq (G_region ?_)))
      refine Gm ?_
      refine Gm ?_
      refine Gv (V_lenS rfl rfl) ?_
      refine Gv (V_sub_i64 rfl rfl rfl (by omega) (by omega)) ?_
      refine Gv (V_idxAddr rfl rfl rfl (SlE.rd (by assumption)) (by omega) (by omega)) ?_
      refine Gv (V_loadAS rfl rfl (SlE.rd (by assumption)) (by assumption) (by simp) (by rfl)) ?_
      (refine G_alloc rfl rfl rfl (.none rfl) ?_; intro b6)
      refine G_storeA rfl rfl rfl rfl (by simp [Value.oneCell']) rfl (.none rfl) (.head _ _ _) rfl ?_
      refine G_end (X_then (G_seq (G_region ?_)))
      refine Gv (V_fieldAddr rfl rfl (by decide)) ?_
      refine Gv (V_load rfl rfl (Cell.own (.tail _ (.head _)) rfl)) ?_
      refine Gv (V_fieldAddr rfl rfl (by decide)) ?_
      refine Gv (V_load rfl rfl (Cell.own (.head _) rfl)) ?_
      refine Gv (V_idxAddr rfl rfl rfl (SlE.rd (by assumption)) (by omega) (by omega)) ?_
      refine Gv (V_loadAS rfl rfl (SlE.rd (by assumption)) (by assumption) (by simp) (by rfl)) ?_
      (refine G_alloc rfl rfl rfl (.none rfl) ?_; intro b7)
      refine G_storeA rfl rfl rfl rfl (by simp [Value.oneCell']) rfl (.none rfl) (.head _ _ _) rfl ?_
      refine G_end (X_then (G_seq (G_block (G_seq (G_region ?_)))))
      refine Gv (V_fieldAddr rfl rfl (by decide)) ?_
      refine Gv (V_load rfl rfl (Cell.own (.tail _ (.head _)) rfl)) ?_
      refine Gv (V_fieldAddr rfl rfl (by decide)) ?_
      refine Gv (V_load rfl rfl (Cell.own (.head _) rfl)) ?_
      refine Gv (V_lenS rfl rfl) ?_
      refine Gv (V_eql rfl rfl rfl) ?_
      refine Ga ?_
      refine G_end (X_then ?_)
      refine G_cond_f rfl (decide_eq_false (by omega)) ?_
      refine G_seq (G_region ?_)
      refine Gv (V_fieldAddr rfl rfl (by decide)) ?_
      refine Gv (V_load rfl rfl (Cell.own (.head _) rfl)) ?_
      refine Gv (V_fieldAddr rfl rfl (by decide)) ?_
      refine Gv (V_load rfl rfl (Cell.own (.tail _ (.head _)) rfl)) ?_
      refine Gv (V_idxAddr rfl rfl rfl (SlE.rd (by assumption)) (by omega) (by omega)) ?_
      refine Gv (V_loadS rfl rfl (SlE.rd (by assumption)) (by assumption) (by simp)) ?_
      refine Gv (V_lss rfl rfl rfl) ?_
      refine Ga ?_
      refine G_end (X_then ?_)
      refine G_cond_f rfl (decide_eq_false (by omega)) ?_
      refine G_skip (X_block (X_then (G_seq ?_)))
      refine G_draw mixed (by kernel_rfl) ?_
      refine Q_val (V_fieldAddr rfl rfl (by decide)) rfl rfl (.none rfl) ?_
      refine Q_val (V_load rfl rfl (Cell.own (.head _) rfl)) rfl rfl (.none rfl) ?_
      refine Q_val (V_fieldAddr rfl rfl (by decide)) rfl rfl (.none rfl) ?_
      refine Q_val (V_load rfl rfl (Cell.own (.tail _ (.head _)) rfl)) rfl rfl (.none rfl) ?_
      refine Q_val (V_idxAddr rfl rfl rfl (SlE.rd (by assumption)) (by omega) (by omega)) rfl rfl (.none rfl) ?_
      refine Q_val (V_loadS rfl rfl (SlE.rd (by assumption)) (by assumption) (by simp)) rfl rfl (.none rfl) ?_
      refine Q_val (V_assign rfl rfl) rfl rfl (.none rfl) ?_
      refine Q_val (V_assign rfl rfl) rfl rfl (.none rfl) ?_
      refine Q_end ?_
      refine X_then (G_ret ?_)
      refine G_leaveS (.drop _ (.drop _ (.drop _ (.nil _)))) (by exact (.cons (.tmp rfl) (.cons (.tmp rfl) (.nil)))) rfl ?_ ?_
      · exact (.refl _)
      exact ⟨rfl, rfl⟩
    · rw [if_neg h16]
      refine CallS.toV (CallS.intro (l := [_, _]) _ Tryz.func44 rfl Tryz.ntmps44 rfl ?_)
      refine G_seq (G_region ?_)
      (refine G_boxA rfl rfl rfl rfl (.none rfl) ?_; intro b2)
      refine Ga ?_
      refine Ga ?_
      refine G_end (X_then (G_seq (G_seq (G_region ?_))))
      refine Gm ?_
      refine Gv (V_lenS rfl rfl) ?_
      refine Gv (V_eql rfl rfl rfl) ?_
      refine G_end (X_then ?_)
      refine G_cond_f rfl (decide_eq_false (by omega)) ?_
      refine G_skip (X_then (G_seq (G_region ?_)))
      refine Gm ?_
      refine Gm ?_
      refine Gv (V_lenS rfl rfl) ?_
      refine Gv (V_sub_i64 rfl rfl rfl (by omega) (by omega)) ?_
      refine Gv (V_idxAddr rfl rfl rfl (SlE.rd (by assumption)) (by omega) (by omega)) ?_
      refine Gv (V_loadAS rfl rfl (SlE.rd (by assumption)) (by assumption) (by simp) (by rfl)) ?_
      (refine G_alloc rfl rfl rfl (.none rfl) ?_; intro b6)
      refine G_storeA rfl rfl rfl rfl (by simp [Value.oneCell']) rfl (.none rfl) (.head _ _ _) rfl ?_
      refine G_end (X_then (G_seq (G_region ?_)))
      refine Gv (V_fieldAddr rfl rfl (by decide)) ?_
      refine Gv (V_load rfl rfl (Cell.own (.tail _ (.head _)) rfl)) ?_
      refine Gv (V_fieldAddr rfl rfl (by decide)) ?_
      refine Gv (V_load rfl rfl (Cell.own (.head _) rfl)) ?_
      refine Gv (V_idxAddr rfl rfl rfl (SlE.rd (by assumption)) (by omega) (by omega)) ?_
      refine Gv (V_loadAS rfl rfl (SlE.rd (by assumption)) (by assumption) (by simp) (by rfl)) ?_
      (refine G_alloc rfl rfl rfl (.none rfl) ?_; intro b7)
      refine G_storeA rfl rfl rfl rfl (by simp [Value.oneCell']) rfl (.none rfl) (.head _ _ _) rfl ?_
      refine G_end (X_then (G_seq (G_block (G_seq (G_region ?_)))))
      refine Gv (V_fieldAddr rfl rfl (by decide)) ?_
      refine Gv (V_load rfl rfl (Cell.own (.tail _ (.head _)) rfl)) ?_
      refine Gv (V_fieldAddr rfl rfl (by decide)) ?_
      refine Gv (V_load rfl rfl (Cell.own (.head _) rfl)) ?_
      refine Gv (V_lenS rfl rfl) ?_
      refine Gv (V_eql rfl rfl rfl) ?_
      refine Ga ?_
      refine G_end (X_then ?_)
      refine G_cond_f rfl (decide_eq_false (by omega)) ?_
      refine G_seq (G_region ?_)
      refine Gv (V_fieldAddr rfl rfl (by decide)) ?_
      refine Gv (V_load rfl rfl (Cell.own (.head _) rfl)) ?_
      refine Gv (V_fieldAddr rfl rfl (by decide)) ?_
      refine Gv (V_load rfl rfl (Cell.own (.tail _ (.head _)) rfl)) ?_
      refine Gv (V_idxAddr rfl rfl rfl (SlE.rd (by assumption)) (by omega) (by omega)) ?_
      refine Gv (V_loadS rfl rfl (SlE.rd (by assumption)) (by assumption) (by simp)) ?_
      refine Gv (V_lss rfl rfl rfl) ?_
      refine Ga ?_
      refine G_end (X_then ?_)
      refine G_cond_t rfl (decide_eq_true (by omega)) ?_
      refine G_seq ?_
      refine G_draw mixed (by kernel_rfl) ?_
      refine Q_val (V_fieldAddr rfl rfl (by decide)) rfl rfl (.none rfl) ?_
      refine Q_val (V_load rfl rfl (Cell.own (.head _) rfl)) rfl rfl (.none rfl) ?_
      refine Q_val (V_fieldAddr rfl rfl (by decide)) rfl rfl (.none rfl) ?_
      refine Q_val (V_load rfl rfl (Cell.own (.tail _ (.head _)) rfl)) rfl rfl (.none rfl) ?_
      refine Q_val (V_idxAddr rfl rfl rfl (SlE.rd (by assumption)) (by omega) (by omega)) rfl rfl (.none rfl) ?_
      refine Q_val (V_loadS rfl rfl (SlE.rd (by assumption)) (by assumption) (by simp)) rfl rfl (.none rfl) ?_
      refine Q_val (V_assign rfl rfl) rfl rfl (.none rfl) ?_
      refine Q_val (V_assign rfl rfl) rfl rfl (.none rfl) ?_
      refine Q_end ?_
      refine X_then (G_ret (X_block_ret (X_then_ret ?_)))
      refine G_leaveS (.drop _ (.drop _ (.drop _ (.nil _)))) (by exact (.cons (.tmp rfl) (.cons (.tmp rfl) (.nil)))) rfl ?_ ?_
      · exact (.refl _)
      exact ⟨rfl, rfl⟩
theorem RAwaits_call (gv : Value) (g : Gr) (hg : GrE E gv g) (hl : Light g) (p : Option Addr) (n c : Nat) (l : List Spt) (hs : SlE E 2 p n (spC l)) (hn : n ≤ 9223372036854775807) :
    CallV Tryz.prog 14 #[gv, .slice p n c] E L (.tuple #[.int .i64 (awaitM g l).1, .int .i64 (awaitM g l).2.1, .int .i64 (awaitM g l).2.2]) := by
  have hc := fun L0 => RSCheck_call E L0 gv g hg hl p n c l hs hn
  have en := hs.nSp
  unfold awaitM
  by_cases h : chkS g l ≠ 0
  · rw [if_pos h]
    generalize chkS g l = r at *
    obtain ⟨tp, tc, np, nc, pp, pc, rfl, ht, hn', _, k1, k2, k3⟩ := hg
    refine CallS.toV (CallS.intro (l := [_, _]) _ Tryz.func14 rfl Tryz.ntmps14 rfl ?_)
    refine G_seq (G_region ?_)
    (refine G_boxA rfl rfl rfl rfl (.none rfl) ?_; intro b2)
    refine Ga ?_
    refine Ga ?_
    refine Ga ?_
    refine G_end (X_then (G_seq (G_region ?_)))
    refine Gv (V_loadA rfl rfl (Cells.own (.head _)) rfl) ?_
    refine Gm ?_
    refine G_callv (k := 16) (.mk rfl rfl rfl rfl) rfl rfl (.none rfl) (hc _) ?_
    refine Ga ?_
    refine G_end (X_then (G_seq (G_seq (G_region ?_))))
    refine Gm ?_
    refine Gv (V_neq rfl rfl rfl) ?_
    refine G_end (X_then ?_)
    refine G_cond_t rfl (decide_eq_true (by omega)) ?_
    refine G_seq (G_region ?_)
    refine Gm ?_
    refine Ga ?_
    refine Ga ?_
    refine Ga ?_
    refine G_end (X_then (G_ret (X_then_ret ?_)))
    refine G_leaveS (.drop _ (.nil _)) (by exact (.cons (.tmp rfl) (.cons (.tmp rfl) (.cons (.tmp rfl) (.nil))))) rfl ?_ ?_
    · exact (.refl _)
    exact ⟨rfl, rfl⟩
  · have h0 : chkS g l = 0 := by omega
    rw [if_neg h]
    have hok := chkS_ok h0
    have ha := fun L0 => Rawaits_call E L0 gv g hg hl p n c l hs (by omega) (chkS_in h0)
    have hk := awS_kind g.prods l
    rw [h0] at hc
    generalize awS g.prods l = r at *
    obtain ⟨tp, tc, np, nc, pp, pc, rfl, ht, hn', _, k1, k2, k3⟩ := hg
    refine CallS.toV (CallS.intro (l := [_, _]) _ Tryz.func14 rfl Tryz.ntmps14 rfl ?_)
    refine G_seq (G_region ?_)
    (refine G_boxA rfl rfl rfl rfl (.none rfl) ?_; intro b2)
    refine Ga ?_
    refine Ga ?_
    refine Ga ?_
    refine G_end (X_then (G_seq (G_region ?_)))
    refine Gv (V_loadA rfl rfl (Cells.own (.head _)) rfl) ?_
    refine Gm ?_
    refine G_callv (k := 16) (.mk rfl rfl rfl rfl) rfl rfl (.none rfl) (hc _) ?_
    refine Ga ?_
    refine G_end (X_then (G_seq (G_seq (G_region ?_))))
    refine Gm ?_
    refine Gv (V_neq rfl rfl rfl) ?_
    refine G_end (X_then ?_)
    refine G_cond_f rfl (by kernel_rfl) ?_
    refine G_skip (X_then (G_seq (G_region ?_)))
    refine Gv (V_loadA rfl rfl (Cells.own (.head _)) rfl) ?_
    refine Gm ?_
    refine G_callv (k := 44) (.mk rfl rfl rfl rfl) rfl rfl (.none rfl) (ha _) ?_
    refine Gm ?_
    refine Gv (V_extract rfl rfl rfl) ?_
    refine Gv (V_extract rfl rfl rfl) ?_
    refine Ga ?_
    refine Ga ?_
    refine G_end (X_then (G_seq (G_region ?_)))
    refine Gm ?_
    refine Gm ?_
    refine Ga ?_
    refine Ga ?_
    refine Ga ?_
    refine G_end (X_then (G_ret ?_))
    refine G_leaveS (.drop _ (.nil _)) (by exact (.cons (.tmp rfl) (.cons (.tmp rfl) (.cons (.tmp rfl) (.nil))))) rfl ?_ ?_
    · exact (.refl _)
    exact ⟨rfl, rfl⟩
end
end Go.Proofs.YtiegoiadbklgjaaGreatDoor
namespace Go.Proofs.YtiegoiadbklgjaaGreatDoor
open Go.RowKit
section
variable {n : Nat} {ds : List Deferred} {fs : List (Nat × Value)} {E : Env} {L : List Res} {X : Act → World → Prop}
theorem G.slOpen {e : TypeId} {sz k c : Nat} {a : Option Addr} {xs : List Value} (hk : 0 < k) (h : ∀ b tl, a = some ⟨b, 0, none⟩ → k ≤ c → c ≤ maxLen → xs.length = k * sz → (xs ++ tl).length = c * sz → G n ds fs E (.blk b (.cells (xs ++ tl).toArray e (0, 0)) :: L) X) : G n ds fs E (.sl e sz a k c xs :: L) X := by
  intro act w ha hw
  have h0 := hw.own _ (.head _)
  obtain ⟨h1, h2⟩ := h0
  rcases h2 with ⟨_, _, h3⟩ | ⟨g, cur, rfl, e2, e3, e4, e5, e6⟩
  · omega
  · have ec0 : xs ++ cur.toList.drop (k * sz) = cur.toList := by rw [← e6, List.take_append_drop]
    refine h g (cur.toList.drop (k * sz)) rfl e3 e4 h1 (by rw [ec0]; simpa using e5) act w ha ?_
    have ec : (xs ++ cur.toList.drop (k * sz)).toArray = cur := by rw [ec0]
    rw [ec]
    refine ⟨hw.env, fun r hr => ?_, ?_, fun b hb => ?_, hw.os, hw.out, hw.tape⟩
    · rcases List.mem_cons.1 hr with rfl | hr
      · exact e2
      · exact hw.own r (.tail _ hr)
    · have := hw.nodup; simpa [Res.sl, Res.blk] using this
    · refine hw.apart b ?_; simpa [Res.sl, Res.blk] using hb
theorem G.slClose {b k c sz : Nat} {e : TypeId} {ys tl : List Value} (hl : ys.length = k * sz) (ht : (ys ++ tl).length = c * sz) (hk : k ≤ c) (hc : c ≤ maxLen) (h : G n ds fs E (.sl e sz (some ⟨b, 0, none⟩) k c ys :: L) X) : G n ds fs E (.blk b (.cells (ys ++ tl).toArray e (0, 0)) :: L) X := fun a w ha hw => by
  refine h a w ha ⟨hw.env, fun r hr => ?_, hw.nodup, hw.apart, hw.os, hw.out, hw.tape⟩
  rcases List.mem_cons.1 hr with rfl | hr
  · have := hw.own _ (.head _)
    exact ⟨hl, .inr ⟨b, (ys ++ tl).toArray, rfl, this, hk, hc, by simpa using ht, by rw [← hl]; simp⟩⟩
  · exact hw.own r (.tail _ hr)
end
end Go.Proofs.YtiegoiadbklgjaaGreatDoor
set_option linter.unusedSimpArgs false
set_option linter.unusedVariables false
set_option maxHeartbeats 2000000
set_option maxRecDepth 20000
namespace Go.Proofs.YtiegoiadbklgjaaGreatDoor
open Go.RowKit
/-! The reference's Push, Move, Pop. -/
theorem spot_off (us0 : List Spt) (q d : Int) : (((us0 ++ [(q, d)]).length : Int) - 1).toNat * 2 + 1 = (spC us0).length + 1 := by
  have hlen : (us0 ++ [(q, d)]).length = us0.length + 1 := by simp
  rw [spC_len]; omega
theorem spot_get (us0 : List Spt) (q d : Int) (tl : List Value) : (spC (us0 ++ [(q, d)]) ++ tl)[(((us0 ++ [(q, d)]).length : Int) - 1).toNat * 2 + 1]? = some (.int .i64 d) := by
  rw [spot_off, spC_append, List.append_assoc, List.getElem?_append_right (by omega)]; simp [spC]
theorem spot_set (us0 : List Spt) (q d : Int) (tl : List Value) : (spC (us0 ++ [(q, d)]) ++ tl).set ((((us0 ++ [(q, d)]).length : Int) - 1).toNat * 2 + 1) (.int .i64 (d + 1)) = spC (us0 ++ [(q, d + 1)]) ++ tl := by
  rw [spot_off, spC_append, spC_append, List.append_assoc, List.append_assoc, List.set_append_right _ _ (by omega)]; simp [spC]
section
variable (E : Env) (L : List Res) (gv : Value) (g : Gr) (hg : GrE E gv g) (hl : Light g) (p : Option Addr) (n c : Nat) (l : List Spt) (hs : SlE E 2 p n (spC l)) (hn : n ≤ 9223372036854775807) (hc : n ≤ c)
include hg hl hs hn hc
theorem RMove_call : CallS Tryz.prog 21 #[gv, .slice p n c] E L (fun r E' L' => (∃ a n' c', r = .tuple #[.slice a n' c', .int .i64 (moveM g l).2] ∧ SlE E' 2 a n' (spC (moveM g l).1) ∧ n' ≤ c' ∧ n' ≤ 1000) ∧ L' = L) := by
  have hch := fun L0 => RAwaits_call E L0 gv g hg hl p n c l hs hn
  have hnil : SlE E 2 none 0 (spC []) := SlE.nil
  have en := hs.nSp
  unfold moveM
  unfold awaitM at hch
  by_cases h : chkS g l ≠ 0
  · simp only [if_pos h] at hch
    rw [if_pos h]
    generalize chkS g l = r at *
    obtain ⟨tp, tc, np, nc, pp, pc, rfl, ht, hn', _, k1, k2, k3⟩ := hg
    refine CallS.intro (l := [_, _]) _ Tryz.func21 rfl Tryz.ntmps21 rfl ?_
    refine G_seq (G_region ?_)
    (refine G_boxA rfl rfl rfl rfl (.none rfl) ?_; intro b2)
    refine Ga ?_
    refine Ga ?_
    refine G_end (X_then (G_seq (G_region ?_)))
    refine Gv (V_loadA rfl rfl (Cells.own (.head _)) rfl) ?_
    refine Gm ?_
    refine G_callv (k := 14) (.mk rfl rfl rfl rfl) rfl rfl (.none rfl) (hch _) ?_
    refine Gm ?_
    refine Gv (V_extract rfl rfl rfl) ?_
    refine Gv (V_extract rfl rfl rfl) ?_
    refine Gv (V_extract rfl rfl rfl) ?_
    refine Ga ?_
    refine Ga ?_
    refine Ga ?_
    refine G_end (X_then (G_seq (G_seq (G_region ?_))))
    refine Gm ?_
    refine Gv (V_eql rfl rfl rfl) ?_
    refine Gm ?_
    refine G.bool_f 19 rfl (decide_eq_false (by omega)) ?_
    refine Gn ?_
    refine Gn ?_
    refine Gv (V_pick_f rfl rfl rfl) ?_
    refine G_end (X_then ?_)
    refine G_cond_f rfl rfl ?_
    refine G_skip (X_then (G_seq (G_seq (G_region ?_))))
    refine Gm ?_
    refine Gv (V_neq rfl rfl rfl) ?_
    refine G_end (X_then ?_)
    refine G_cond_t rfl (decide_eq_true (by omega)) ?_
    refine G_seq (G_region ?_)
    refine Gm ?_
    refine Ga ?_
    refine Ga ?_
    refine G_end (X_then (G_ret (X_then_ret ?_)))
    refine G_leaveS (.drop _ (.nil _)) (by exact (.cons (.tmp rfl) (.cons (.tmp rfl) (.nil)))) rfl ?_ ?_
    · exact (.refl _)
    exact ⟨⟨_, ⟨_, ⟨_, ⟨rfl, ⟨(by assumption), ⟨(by omega), (by omega)⟩⟩⟩⟩⟩⟩, rfl⟩
  simp only [if_neg h] at hch
  have h0 : chkS g l = 0 := by omega
  have h64 := chkS_64 h0
  rw [if_neg h]
  have hin := chkS_in h0
  have hk3 := awS_kind g.prods l
  by_cases h1 : (awS g.prods l).1 ≠ 1
  · rw [if_pos h1]
    generalize awS g.prods l = r at *
    obtain ⟨tp, tc, np, nc, pp, pc, rfl, ht, hn', _, k1, k2, k3⟩ := hg
    refine CallS.intro (l := [_, _]) _ Tryz.func21 rfl Tryz.ntmps21 rfl ?_
    refine G_seq (G_region ?_)
    (refine G_boxA rfl rfl rfl rfl (.none rfl) ?_; intro b2)
    refine Ga ?_
    refine Ga ?_
    refine G_end (X_then (G_seq (G_region ?_)))
    refine Gv (V_loadA rfl rfl (Cells.own (.head _)) rfl) ?_
    refine Gm ?_
    refine G_callv (k := 14) (.mk rfl rfl rfl rfl) rfl rfl (.none rfl) (hch _) ?_
    refine Gm ?_
    refine Gv (V_extract rfl rfl rfl) ?_
    refine Gv (V_extract rfl rfl rfl) ?_
    refine Gv (V_extract rfl rfl rfl) ?_
    refine Ga ?_
    refine Ga ?_
    refine Ga ?_
    refine G_end (X_then (G_seq (G_seq (G_region ?_))))
    refine Gm ?_
    refine Gv (V_eql rfl rfl rfl) ?_
    refine Gm ?_
    refine G.bool_t 19 rfl (by kernel_rfl) ?_
    refine Gy (V_move rfl rfl) ?_
    refine Gy (V_neq rfl rfl rfl) ?_
    refine Gv (V_pick_t rfl rfl rfl) ?_
    refine G_end (X_then ?_)
    refine G_cond_t rfl (decide_eq_true (by omega)) ?_
    refine G_region ?_
    refine Ga ?_
    refine G_end (X_then (G_seq (G_seq (G_region ?_))))
    refine Gm ?_
    refine Gv (V_neq rfl rfl rfl) ?_
    refine G_end (X_then ?_)
    refine G_cond_t rfl (by kernel_rfl) ?_
    refine G_seq (G_region ?_)
    refine Gm ?_
    refine Ga ?_
    refine Ga ?_
    refine G_end (X_then (G_ret (X_then_ret ?_)))
    refine G_leaveS (.drop _ (.nil _)) (by exact (.cons (.tmp rfl) (.cons (.tmp rfl) (.nil)))) rfl ?_ ?_
    · exact (.refl _)
    exact ⟨⟨_, ⟨_, ⟨_, ⟨rfl, ⟨(by assumption), ⟨(by omega), (by omega)⟩⟩⟩⟩⟩⟩, rfl⟩
  rw [if_neg h1]
  have h1' : (awS g.prods l).1 = 1 := by omega
  rcases List.eq_nil_or_concat l with rfl | ⟨l', s, rfl⟩
  · rw [awS_nil] at h1'; cases h1'
  rw [List.concat_eq_append] at *
  obtain ⟨q, d⟩ := s
  have hq := hin (q, d) (by simp)
  simp only [outS, not_or, Int.not_lt, Int.not_le] at hq
  obtain ⟨q1, q2, q4, q5⟩ := hq
  have hr8 : (rightP g.prods q).length ≤ 8 := by
    obtain ⟨qn, rfl⟩ : ∃ k : Nat, q = k := ⟨q.toNat, by omega⟩
    have hqn : g.prods[qn]? = some g.prods[qn] := List.getElem?_eq_getElem (by omega)
    rw [rightP_eq hqn]
    exact hl.ps _ (List.mem_of_getElem? hqn)
  rw [bump_snoc]
  generalize awS g.prods (l' ++ [(q, d)]) = r at *
  have hlen : (l' ++ [(q, d)]).length = l'.length + 1 := by simp
  subst en
  obtain ⟨tp, tc, np, nc, pp, pc, rfl, ht, hn', _, k1, k2, k3⟩ := hg
  refine CallS.intro (l := [_, _]) _ Tryz.func21 rfl Tryz.ntmps21 rfl ?_
  refine G_seq (G_region ?_)
  (refine G_boxA rfl rfl rfl rfl (.none rfl) ?_; intro b2)
  refine Ga ?_
  refine Ga ?_
  refine G_end (X_then (G_seq (G_region ?_)))
  refine Gv (V_loadA rfl rfl (Cells.own (.head _)) rfl) ?_
  refine Gm ?_
  refine G_callv (k := 14) (.mk rfl rfl rfl rfl) rfl rfl (.none rfl) (hch _) ?_
  rw [h1']
  refine Gm ?_
  refine Gv (V_extract rfl rfl rfl) ?_
  refine Gv (V_extract rfl rfl rfl) ?_
  refine Gv (V_extract rfl rfl rfl) ?_
  refine Ga ?_
  refine Ga ?_
  refine Ga ?_
  refine G_end (X_then (G_seq (G_seq (G_region ?_))))
  refine Gm ?_
  refine Gv (V_eql rfl rfl rfl) ?_
  refine Gm ?_
  refine G.bool_t 19 rfl (by kernel_rfl) ?_
  refine Gy (V_move rfl rfl) ?_
  refine Gy (V_neq rfl rfl rfl) ?_
  refine Gv (V_pick_t rfl rfl rfl) ?_
  refine G_end (X_then ?_)
  refine G_cond_f rfl (by kernel_rfl) ?_
  refine G_skip (X_then (G_seq (G_seq (G_region ?_))))
  refine Gm ?_
  refine Gv (V_neq rfl rfl rfl) ?_
  refine G_end (X_then ?_)
  refine G_cond_f rfl (by kernel_rfl) ?_
  refine G_skip (X_then (G_seq (G_region ?_)))
  refine Gm ?_
  refine G_call (k := 49) (.mk rfl rfl rfl rfl) rfl rfl (.none rfl) (Rown_call _ _ p _ c _ hs (by omega)) ?_
  rintro x3 E3 L3 hE3 ⟨a, c3, rfl, rfl, rfl⟩
  refine G.slOpen (by omega) ?_
  rintro b0 tl rfl hc1 hc2 hl1 hl2
  have e1 := spot_get l' q d tl
  have e2 := spot_set l' q d tl
  have hl3 : PLift ((spC (l' ++ [(q, d)]) ++ tl).length = c3 * 2) := ⟨hl2⟩
  clear hl2
  refine Ga ?_
  refine G_end (X_then (G_seq (G_region ?_)))
  refine Gm ?_
  refine Gm ?_
  refine Gv (V_lenS rfl rfl) ?_
  refine Gv (V_sub_i64 rfl rfl rfl (by omega) (by omega)) ?_
  refine Gv (V_idxB rfl rfl rfl (by omega) (by omega)) ?_
  refine Gv (V_fieldAddr rfl rfl (by decide)) ?_
  refine Gv (V_load rfl rfl (Cell.own (.head _) (by assumption))) ?_
  refine Gv (V_add_i64 rfl rfl rfl (by omega) (by omega)) ?_
  refine Gv (V_idxB rfl rfl rfl (by omega) (by omega)) ?_
  refine Gv (V_fieldAddr rfl rfl (by decide)) ?_
  refine G_storeB rfl rfl rfl rfl rfl rfl (.none rfl) (.head _ _ _) (by have := hl3.down; omega) ?_
  rw [e2]
  refine G.slClose (sz := 2) (k := (l' ++ [(q, d)]).length) (by rw [spC_len]; simp) (by have h := hl3.down; rw [List.length_append, spC_len] at h ⊢; simpa using h) hc1 hc2 ?_
  refine G.freezeSl (.head _ _) ?_
  intro E4 hE4 hs4 hc4
  refine G_end (X_then (G_seq (G_region ?_)))
  refine Gm ?_
  refine Ga ?_
  refine Ga ?_
  refine G_end (X_then (G_ret ?_))
  refine G_leaveS (.drop _ (.nil _)) (by exact (.cons (.tmp rfl) (.cons (.tmp rfl) (.nil)))) rfl ?_ ?_
  · exact hE4
  exact ⟨⟨_, ⟨_, ⟨_, ⟨rfl, ⟨(by assumption), ⟨(by assumption), (by omega)⟩⟩⟩⟩⟩⟩, rfl⟩
theorem RPop_call : CallS Tryz.prog 23 #[gv, .slice p n c] E L (fun r E' L' => (∃ a n' c', r = .tuple #[.slice a n' c', .int .i64 (popM g l).2] ∧ SlE E' 2 a n' (spC (popM g l).1) ∧ n' ≤ c' ∧ n' ≤ 1000) ∧ L' = L) := by
  have hch := fun L0 => RAwaits_call E L0 gv g hg hl p n c l hs hn
  have hnil : SlE E 2 none 0 (spC []) := SlE.nil
  have en := hs.nSp
  unfold popM
  unfold awaitM at hch
  by_cases h : chkS g l ≠ 0
  · simp only [if_pos h] at hch
    rw [if_pos h]
    generalize chkS g l = r at *
    obtain ⟨tp, tc, np, nc, pp, pc, rfl, ht, hn', _, k1, k2, k3⟩ := hg
    refine CallS.intro (l := [_, _]) _ Tryz.func23 rfl Tryz.ntmps23 rfl ?_
    refine G_seq (G_region ?_)
    (refine G_boxA rfl rfl rfl rfl (.none rfl) ?_; intro b2)
    refine Ga ?_
    refine Ga ?_
    refine G_end (X_then (G_seq (G_region ?_)))
    refine Gv (V_loadA rfl rfl (Cells.own (.head _)) rfl) ?_
    refine Gm ?_
    refine G_callv (k := 14) (.mk rfl rfl rfl rfl) rfl rfl (.none rfl) (hch _) ?_
    refine Gm ?_
    refine Gv (V_extract rfl rfl rfl) ?_
    refine Gv (V_extract rfl rfl rfl) ?_
    refine Gv (V_extract rfl rfl rfl) ?_
    refine Ga ?_
    refine Ga ?_
    refine Ga ?_
    refine G_end (X_then (G_seq (G_seq (G_region ?_))))
    refine Gm ?_
    refine Gv (V_eql rfl rfl rfl) ?_
    refine Gm ?_
    refine G.bool_f 18 rfl (decide_eq_false (by omega)) ?_
    refine Gn ?_
    refine Gn ?_
    refine Gv (V_pick_f rfl rfl rfl) ?_
    refine G_end (X_then ?_)
    refine G_cond_f rfl rfl ?_
    refine G_skip (X_then (G_seq (G_seq (G_region ?_))))
    refine Gm ?_
    refine Gv (V_neq rfl rfl rfl) ?_
    refine G_end (X_then ?_)
    refine G_cond_t rfl (decide_eq_true (by omega)) ?_
    refine G_seq (G_region ?_)
    refine Gm ?_
    refine Ga ?_
    refine Ga ?_
    refine G_end (X_then (G_ret (X_then_ret ?_)))
    refine G_leaveS (.drop _ (.nil _)) (by exact (.cons (.tmp rfl) (.cons (.tmp rfl) (.nil)))) rfl ?_ ?_
    · exact (.refl _)
    exact ⟨⟨_, ⟨_, ⟨_, ⟨rfl, ⟨(by assumption), ⟨(by omega), (by omega)⟩⟩⟩⟩⟩⟩, rfl⟩
  simp only [if_neg h] at hch
  have h0 : chkS g l = 0 := by omega
  have h64 := chkS_64 h0
  rw [if_neg h]
  have hk3 := awS_kind g.prods l
  by_cases h1 : (awS g.prods l).1 ≠ 3
  · rw [if_pos h1]
    generalize awS g.prods l = r at *
    obtain ⟨tp, tc, np, nc, pp, pc, rfl, ht, hn', _, k1, k2, k3⟩ := hg
    refine CallS.intro (l := [_, _]) _ Tryz.func23 rfl Tryz.ntmps23 rfl ?_
    refine G_seq (G_region ?_)
    (refine G_boxA rfl rfl rfl rfl (.none rfl) ?_; intro b2)
    refine Ga ?_
    refine Ga ?_
    refine G_end (X_then (G_seq (G_region ?_)))
    refine Gv (V_loadA rfl rfl (Cells.own (.head _)) rfl) ?_
    refine Gm ?_
    refine G_callv (k := 14) (.mk rfl rfl rfl rfl) rfl rfl (.none rfl) (hch _) ?_
    refine Gm ?_
    refine Gv (V_extract rfl rfl rfl) ?_
    refine Gv (V_extract rfl rfl rfl) ?_
    refine Gv (V_extract rfl rfl rfl) ?_
    refine Ga ?_
    refine Ga ?_
    refine Ga ?_
    refine G_end (X_then (G_seq (G_seq (G_region ?_))))
    refine Gm ?_
    refine Gv (V_eql rfl rfl rfl) ?_
    refine Gm ?_
    refine G.bool_t 18 rfl (by kernel_rfl) ?_
    refine Gy (V_move rfl rfl) ?_
    refine Gy (V_neq rfl rfl rfl) ?_
    refine Gv (V_pick_t rfl rfl rfl) ?_
    refine G_end (X_then ?_)
    refine G_cond_t rfl (decide_eq_true (by omega)) ?_
    refine G_region ?_
    refine Ga ?_
    refine G_end (X_then (G_seq (G_seq (G_region ?_))))
    refine Gm ?_
    refine Gv (V_neq rfl rfl rfl) ?_
    refine G_end (X_then ?_)
    refine G_cond_t rfl (by kernel_rfl) ?_
    refine G_seq (G_region ?_)
    refine Gm ?_
    refine Ga ?_
    refine Ga ?_
    refine G_end (X_then (G_ret (X_then_ret ?_)))
    refine G_leaveS (.drop _ (.nil _)) (by exact (.cons (.tmp rfl) (.cons (.tmp rfl) (.nil)))) rfl ?_ ?_
    · exact (.refl _)
    exact ⟨⟨_, ⟨_, ⟨_, ⟨rfl, ⟨(by assumption), ⟨(by omega), (by omega)⟩⟩⟩⟩⟩⟩, rfl⟩
  rw [if_neg h1]
  have h1' : (awS g.prods l).1 = 3 := by omega
  rcases List.eq_nil_or_concat l with rfl | ⟨l', s, rfl⟩
  · rw [awS_nil] at h1'; cases h1'
  rw [List.concat_eq_append] at *
  rw [List.length_append, List.length_singleton] at en
  subst en
  rw [List.dropLast_concat]
  have hs0 : SlE E 2 p l'.length (spC l') := by
    have := hs.head (i := l'.length) (by omega)
    rw [spC_append, show l'.length * 2 = (spC l').length by rw [spC_len], List.take_left] at this
    exact this
  have hlen : (l' ++ [s]).length = l'.length + 1 := by simp
  generalize awS g.prods (l' ++ [s]) = r at *
  obtain ⟨tp, tc, np, nc, pp, pc, rfl, ht, hn', _, k1, k2, k3⟩ := hg
  refine CallS.intro (l := [_, _]) _ Tryz.func23 rfl Tryz.ntmps23 rfl ?_
  refine G_seq (G_region ?_)
  (refine G_boxA rfl rfl rfl rfl (.none rfl) ?_; intro b2)
  refine Ga ?_
  refine Ga ?_
  refine G_end (X_then (G_seq (G_region ?_)))
  refine Gv (V_loadA rfl rfl (Cells.own (.head _)) rfl) ?_
  refine Gm ?_
  refine G_callv (k := 14) (.mk rfl rfl rfl rfl) rfl rfl (.none rfl) (hch _) ?_
  rw [h1']
  refine Gm ?_
  refine Gv (V_extract rfl rfl rfl) ?_
  refine Gv (V_extract rfl rfl rfl) ?_
  refine Gv (V_extract rfl rfl rfl) ?_
  refine Ga ?_
  refine Ga ?_
  refine Ga ?_
  refine G_end (X_then (G_seq (G_seq (G_region ?_))))
  refine Gm ?_
  refine Gv (V_eql rfl rfl rfl) ?_
  refine Gm ?_
  refine G.bool_t 18 rfl (by kernel_rfl) ?_
  refine Gy (V_move rfl rfl) ?_
  refine Gy (V_neq rfl rfl rfl) ?_
  refine Gv (V_pick_t rfl rfl rfl) ?_
  refine G_end (X_then ?_)
  refine G_cond_f rfl (by kernel_rfl) ?_
  refine G_skip (X_then (G_seq (G_seq (G_region ?_))))
  refine Gm ?_
  refine Gv (V_neq rfl rfl rfl) ?_
  refine G_end (X_then ?_)
  refine G_cond_f rfl (by kernel_rfl) ?_
  refine G_skip (X_then (G_seq (G_region ?_)))
  refine Gm ?_
  refine Gm ?_
  refine Gv (V_lenS rfl rfl) ?_
  refine Gv (V_sub_i64 rfl rfl rfl (by omega) (by omega)) ?_
  refine Gv (V_slHead rfl rfl rfl (by omega) (by omega)) ?_
  rw [show (((l'.length + 1 : Nat) : Int) - 1).toNat = l'.length by omega]
  refine G_call (k := 49) (.mk rfl rfl rfl rfl) rfl rfl (.none rfl) (Rown_call _ _ p _ c _ hs0 (by omega)) ?_
  rintro x3 E3 L3 hE3 ⟨a, c3, rfl, rfl, rfl⟩
  refine G.freezeSl (.head _ _) ?_
  intro E4 hE4 hs4 hc4
  refine Ga ?_
  refine Ga ?_
  refine G_end (X_then (G_ret ?_))
  refine G_leaveS (.drop _ (.nil _)) (by exact (.cons (.tmp rfl) (.cons (.tmp rfl) (.nil)))) rfl ?_ ?_
  · exact hE4
  exact ⟨⟨_, ⟨_, ⟨_, ⟨rfl, ⟨(by assumption), ⟨(by assumption), (by omega)⟩⟩⟩⟩⟩⟩, rfl⟩
theorem RPush_call (k : Int) : CallS Tryz.prog 18 #[gv, .slice p n c, .int .i64 k] E L (fun r E' L' => (∃ a n' c', r = .tuple #[.slice a n' c', .int .i64 (pushM g l k).2] ∧ SlE E' 2 a n' (spC (pushM g l k).1) ∧ n' ≤ c' ∧ n' ≤ 1000) ∧ L' = L) := by
  have hch := fun L0 => RSCheck_call E L0 gv g hg hl p n c l hs hn
  have hnil : SlE E 2 none 0 (spC []) := SlE.nil
  have en := hs.nSp
  unfold pushM
  by_cases h : chkS g l ≠ 0
  · rw [if_pos h]
    generalize chkS g l = r at *
    obtain ⟨tp, tc, np, nc, pp, pc, rfl, ht, hn', _, k1, k2, k3⟩ := hg
    refine CallS.intro (l := [_, _, _]) _ Tryz.func18 rfl Tryz.ntmps18 rfl ?_
    refine G_seq (G_region ?_)
    (refine G_boxA rfl rfl rfl rfl (.none rfl) ?_; intro b3)
    refine Ga ?_
    refine Ga ?_
    refine G_end (X_then (G_seq (G_region ?_)))
    refine Gv (V_loadA rfl rfl (Cells.own (.head _)) rfl) ?_
    refine Gm ?_
    refine G_callv (k := 16) (.mk rfl rfl rfl rfl) rfl rfl (.none rfl) (hch _) ?_
    refine Ga ?_
    refine G_end (X_then (G_seq (G_seq (G_region ?_))))
    refine Gm ?_
    refine Gv (V_eql rfl rfl rfl) ?_
    refine Gm ?_
    refine G.bool_f 17 rfl (decide_eq_false (by omega)) ?_
    refine Gn ?_
    refine Gn ?_
    refine Gn ?_
    refine G_stay (.un rfl rfl rfl rfl) rfl rfl ?_
    refine G_stay (.un rfl rfl rfl rfl) rfl rfl ?_
    refine G_stay (.un rfl rfl rfl rfl) rfl rfl ?_
    refine G_stay (.un rfl rfl rfl rfl) rfl rfl ?_
    refine G_stay (.un rfl rfl rfl rfl) rfl rfl ?_
    refine Gn ?_
    refine Gv (V_pick_f rfl rfl rfl) ?_
    refine G_end (X_then ?_)
    refine G_cond_f rfl rfl ?_
    refine G_skip (X_then (G_seq (G_seq (G_region ?_))))
    refine Gm ?_
    refine Gv (V_neq rfl rfl rfl) ?_
    refine G_end (X_then ?_)
    refine G_cond_t rfl (decide_eq_true (by omega)) ?_
    refine G_seq (G_region ?_)
    refine Gm ?_
    refine Ga ?_
    refine Ga ?_
    refine G_end (X_then (G_ret (X_then_ret ?_)))
    refine G_leaveS (.drop _ (.nil _)) (by exact (.cons (.tmp rfl) (.cons (.tmp rfl) (.nil)))) rfl ?_ ?_
    · exact (.refl _)
    exact ⟨⟨_, ⟨_, ⟨_, ⟨rfl, ⟨(by assumption), ⟨(by omega), (by omega)⟩⟩⟩⟩⟩⟩, rfl⟩
  have h0 : chkS g l = 0 := by omega
  have h64 := chkS_64 h0
  rw [if_neg h]
  have hin := chkS_in h0
  have ha := fun L0 => Rawaits_call E L0 gv g hg hl p n c l hs (by omega) hin
  rw [h0] at hch
  have hg0 := hg
  obtain ⟨tp, tc, np, nc, pp, pc, rfl, ht, hn', ⟨rows, hrows, hps, hre⟩, k1, k2, k3⟩ := hg
  have hlen : g.prods.length = rows.length := by rw [← hrows]; simp
  have q3 := hl.p
  by_cases hk : k < 0 ∨ (g.prods.length : Int) ≤ k
  · rw [if_pos hk]
    refine CallS.intro (l := [_, _, _]) _ Tryz.func18 rfl Tryz.ntmps18 rfl ?_
    refine G_seq (G_region ?_)
    (refine G_boxA rfl rfl rfl rfl (.none rfl) ?_; intro b3)
    refine Ga ?_
    refine Ga ?_
    refine G_end (X_then (G_seq (G_region ?_)))
    refine Gv (V_loadA rfl rfl (Cells.own (.head _)) rfl) ?_
    refine Gm ?_
    refine G_callv (k := 16) (.mk rfl rfl rfl rfl) rfl rfl (.none rfl) (hch _) ?_
    by_cases hk0 : k < 0
    · refine Ga ?_
      refine G_end (X_then (G_seq (G_seq (G_region ?_))))
      refine Gm ?_
      refine Gv (V_eql rfl rfl rfl) ?_
      refine Gm ?_
      refine G.bool_t 17 rfl (by kernel_rfl) ?_
      refine Gy (V_move rfl rfl) ?_
      refine Gy (V_lss rfl rfl rfl) ?_
      refine Gy (V_move rfl rfl) ?_
      refine G.bool_t 20 rfl (decide_eq_true (by omega)) ?_
      refine Gn ?_
      refine Gn ?_
      refine Gn ?_
      refine Gn ?_
      refine Gn ?_
      refine Gy (V_pick_t rfl rfl rfl) ?_
      refine Gv (V_pick_t rfl rfl rfl) ?_
      refine G_end (X_then ?_)
      refine G_cond_t rfl rfl ?_
      refine G_region ?_
      refine Ga ?_
      refine G_end (X_then (G_seq (G_seq (G_region ?_))))
      refine Gm ?_
      refine Gv (V_neq rfl rfl rfl) ?_
      refine G_end (X_then ?_)
      refine G_cond_t rfl (by kernel_rfl) ?_
      refine G_seq (G_region ?_)
      refine Gm ?_
      refine Ga ?_
      refine Ga ?_
      refine G_end (X_then (G_ret (X_then_ret ?_)))
      refine G_leaveS (.drop _ (.nil _)) (by exact (.cons (.tmp rfl) (.cons (.tmp rfl) (.nil)))) rfl ?_ ?_
      · exact (.refl _)
      exact ⟨⟨_, ⟨_, ⟨_, ⟨rfl, ⟨(by assumption), ⟨(by omega), (by omega)⟩⟩⟩⟩⟩⟩, rfl⟩
    · refine Ga ?_
      refine G_end (X_then (G_seq (G_seq (G_region ?_))))
      refine Gm ?_
      refine Gv (V_eql rfl rfl rfl) ?_
      refine Gm ?_
      refine G.bool_t 17 rfl (by kernel_rfl) ?_
      refine Gy (V_move rfl rfl) ?_
      refine Gy (V_lss rfl rfl rfl) ?_
      refine Gy (V_move rfl rfl) ?_
      refine G.bool_f 20 rfl (decide_eq_false (by omega)) ?_
      refine Gy (V_move rfl rfl) ?_
      refine Gy (V_fieldAddr rfl rfl (by decide)) ?_
      refine Gy (V_load rfl rfl (Cell.own (.head _) rfl)) ?_
      refine Gy (V_lenS rfl rfl) ?_
      refine Gy (V_geq rfl rfl rfl) ?_
      refine Gy (V_pick_f rfl rfl rfl) ?_
      refine Gv (V_pick_t rfl rfl rfl) ?_
      refine G_end (X_then ?_)
      refine G_cond_t rfl (decide_eq_true (by omega)) ?_
      refine G_region ?_
      refine Ga ?_
      refine G_end (X_then (G_seq (G_seq (G_region ?_))))
      refine Gm ?_
      refine Gv (V_neq rfl rfl rfl) ?_
      refine G_end (X_then ?_)
      refine G_cond_t rfl (by kernel_rfl) ?_
      refine G_seq (G_region ?_)
      refine Gm ?_
      refine Ga ?_
      refine Ga ?_
      refine G_end (X_then (G_ret (X_then_ret ?_)))
      refine G_leaveS (.drop _ (.nil _)) (by exact (.cons (.tmp rfl) (.cons (.tmp rfl) (.nil)))) rfl ?_ ?_
      · exact (.refl _)
      exact ⟨⟨_, ⟨_, ⟨_, ⟨rfl, ⟨(by assumption), ⟨(by omega), (by omega)⟩⟩⟩⟩⟩⟩, rfl⟩
  rw [if_neg hk]
  obtain ⟨j, rfl⟩ : ∃ j : Nat, k = j := ⟨k.toNat, by omega⟩
  have hj : j < rows.length := by omega
  have hrow := List.getElem?_eq_getElem hj
  have hpj : g.prods[j]? = some rows[j].2.2 := by rw [← hrows, List.getElem?_map, hrow]; rfl
  have hlf := leftP_eq hpj
  have x1 := prows_left hrow
  rw [hlf]
  generalize rows[j].2.2.1 = lf at *
  rcases List.eq_nil_or_concat l with rfl | ⟨l', s, rfl⟩
  · obtain rfl : n = 0 := en
    rw [awS_nil] at ha ⊢
    by_cases hst : lf = g.start
    · rw [if_neg (by simp; omega), if_neg (by simp)]
      have hb : bump [] ++ [((j : Int), (0 : Int))] = [((j : Int), 0)] := rfl
      have hb2 : spC [((j : Int), (0 : Int))] = [.int .i64 (j : Int), .int .i64 0] := rfl
      rw [hb, hb2]
      refine CallS.intro (l := [_, _, _]) _ Tryz.func18 rfl Tryz.ntmps18 rfl ?_
      refine G_seq (G_region ?_)
      (refine G_boxA rfl rfl rfl rfl (.none rfl) ?_; intro b3)
      refine Ga ?_
      refine Ga ?_
      refine G_end (X_then (G_seq (G_region ?_)))
      refine Gv (V_loadA rfl rfl (Cells.own (.head _)) rfl) ?_
      refine Gm ?_
      refine G_callv (k := 16) (.mk rfl rfl rfl rfl) rfl rfl (.none rfl) (hch _) ?_
      refine Ga ?_
      refine G_end (X_then (G_seq (G_seq (G_region ?_))))
      refine Gm ?_
      refine Gv (V_eql rfl rfl rfl) ?_
      refine Gm ?_
      refine G.bool_t 17 rfl (by kernel_rfl) ?_
      refine Gy (V_move rfl rfl) ?_
      refine Gy (V_lss rfl rfl rfl) ?_
      refine Gy (V_move rfl rfl) ?_
      refine G.bool_f 20 rfl (decide_eq_false (by omega)) ?_
      refine Gy (V_move rfl rfl) ?_
      refine Gy (V_fieldAddr rfl rfl (by decide)) ?_
      refine Gy (V_load rfl rfl (Cell.own (.head _) rfl)) ?_
      refine Gy (V_lenS rfl rfl) ?_
      refine Gy (V_geq rfl rfl rfl) ?_
      refine Gy (V_pick_f rfl rfl rfl) ?_
      refine Gv (V_pick_t rfl rfl rfl) ?_
      refine G_end (X_then ?_)
      refine G_cond_f rfl (decide_eq_false (by omega)) ?_
      refine G_skip (X_then (G_seq (G_seq (G_region ?_))))
      refine Gm ?_
      refine Gv (V_neq rfl rfl rfl) ?_
      refine G_end (X_then ?_)
      refine G_cond_f rfl (by kernel_rfl) ?_
      refine G_skip (X_then (G_seq (G_region ?_)))
      refine Gv (V_loadA rfl rfl (Cells.own (.head _)) rfl) ?_
      refine Gm ?_
      refine G_callv (k := 44) (.mk rfl rfl rfl rfl) rfl rfl (.none rfl) (ha _) ?_
      refine Gm ?_
      refine Gv (V_extract rfl rfl rfl) ?_
      refine Gv (V_extract rfl rfl rfl) ?_
      refine Ga ?_
      refine Ga ?_
      refine G_end (X_then (G_seq (G_seq (G_region ?_))))
      refine Gm ?_
      refine Gv (V_eql rfl rfl rfl) ?_
      refine G_end (X_then ?_)
      refine G_cond_t rfl (by kernel_rfl) ?_
      refine G_region ?_
      refine Gv (V_fieldAddr rfl rfl (by decide)) ?_
      refine Gv (V_load rfl rfl (Cell.own (.head _) rfl)) ?_
      refine Ga ?_
      refine G_end (X_then (G_seq (G_block (G_seq (G_region ?_)))))
      refine Gm ?_
      refine Gv (V_eql rfl rfl rfl) ?_
      refine Gm ?_
      refine G.bool_f 44 rfl (by kernel_rfl) ?_
      refine Gy (V_move rfl rfl) ?_
      refine Gy (V_eql rfl rfl rfl) ?_
      refine Gv (V_pick_f rfl rfl rfl) ?_
      refine Gm ?_
      refine G.bool_f 48 rfl (by kernel_rfl) ?_
      refine Gy (V_fieldAddr rfl rfl (by decide)) ?_
      refine Gy (V_load rfl rfl (Cell.own (.head _) rfl)) ?_
      refine Gy (V_move rfl rfl) ?_
      refine Gy (V_idxAddr rfl rfl rfl (SlE.rd (by assumption)) (by omega) (by omega)) ?_
      refine Gy (V_fieldAddrE rfl rfl (by assumption) (by omega) (by decide)) ?_
      refine Gy (V_loadS rfl rfl (SlE.rd (by assumption)) (by assumption) (by simp)) ?_
      refine Gy (V_move rfl rfl) ?_
      refine Gy (V_neq rfl rfl rfl) ?_
      refine Gv (V_pick_f rfl rfl rfl) ?_
      refine Ga ?_
      refine G_end (X_then ?_)
      refine G_cond_f rfl (decide_eq_false (by omega)) ?_
      refine G_seq (G_region ?_)
      refine Gm ?_
      refine Gv (V_lenS rfl rfl) ?_
      refine Gv (V_eql rfl rfl rfl) ?_
      refine Ga ?_
      refine G_end (X_then ?_)
      refine G_cond_f rfl (by kernel_rfl) ?_
      refine G_skip (X_block (X_then (G_seq (G_region ?_))))
      refine Gm ?_
      refine G_call (k := 49) (.mk rfl rfl rfl rfl) rfl rfl (.none rfl) (Rown_call _ _ p _ c _ hs (by omega)) ?_
      rintro x3 E3 L3 hE3 ⟨a, c3, rfl, rfl, rfl⟩
      refine Ga ?_
      refine G_end (X_then (G_seq (G_seq (G_region ?_))))
      refine Gm ?_
      refine Gv (V_lenS rfl rfl) ?_
      refine Gv (V_gtr rfl rfl rfl) ?_
      refine G_end (X_then ?_)
      refine G_cond_f rfl (by kernel_rfl) ?_
      refine G_skip (X_then (G_seq (G_region ?_)))
      refine Gm ?_
      refine Gm ?_
      refine Gv (V_build rfl rfl (by simp [fillV, setLs, setL, Value.cells]; rfl)) ?_
      (refine G_lit rfl rfl (by decide) (by simp [fillS, zeros, setLs, setL, Value.cells, List.range, List.range.loop]; rfl) rfl rfl (.none rfl) ?_; intro b80)
      (refine G_append rfl rfl rfl (Rd.lit (.head _) rfl) (by simp [Value.oneCell']) (by omega) (by omega) rfl rfl (.none rfl) (fun _ _ => (.tail _ (.head _ _ _))) ?_; intro a81 c81; refine G.rm (.head _ _) ?_)
      refine Ga ?_
      refine Ga ?_
      refine G_end (X_then (G_ret ?_))
      refine G.freezeSl (.head _ _) ?_
      intro E4 hE4 hs4 hc4
      rw [show spC [] ++ [Value.int .i64 (j : Int), .int .i64 0] = [Value.int .i64 (j : Int), .int .i64 0] from rfl] at hs4
      refine G_leaveS (.drop _ (.nil _)) (by exact (.cons (.tmp rfl) (.cons (.tmp rfl) (.nil)))) rfl ?_ ?_
      · exact hE4
      exact ⟨⟨_, ⟨_, ⟨_, ⟨rfl, ⟨(by assumption), ⟨(by assumption), (by omega)⟩⟩⟩⟩⟩⟩, rfl⟩
    · rw [if_pos (by simp; omega)]
      refine CallS.intro (l := [_, _, _]) _ Tryz.func18 rfl Tryz.ntmps18 rfl ?_
      refine G_seq (G_region ?_)
      (refine G_boxA rfl rfl rfl rfl (.none rfl) ?_; intro b3)
      refine Ga ?_
      refine Ga ?_
      refine G_end (X_then (G_seq (G_region ?_)))
      refine Gv (V_loadA rfl rfl (Cells.own (.head _)) rfl) ?_
      refine Gm ?_
      refine G_callv (k := 16) (.mk rfl rfl rfl rfl) rfl rfl (.none rfl) (hch _) ?_
      refine Ga ?_
      refine G_end (X_then (G_seq (G_seq (G_region ?_))))
      refine Gm ?_
      refine Gv (V_eql rfl rfl rfl) ?_
      refine Gm ?_
      refine G.bool_t 17 rfl (by kernel_rfl) ?_
      refine Gy (V_move rfl rfl) ?_
      refine Gy (V_lss rfl rfl rfl) ?_
      refine Gy (V_move rfl rfl) ?_
      refine G.bool_f 20 rfl (decide_eq_false (by omega)) ?_
      refine Gy (V_move rfl rfl) ?_
      refine Gy (V_fieldAddr rfl rfl (by decide)) ?_
      refine Gy (V_load rfl rfl (Cell.own (.head _) rfl)) ?_
      refine Gy (V_lenS rfl rfl) ?_
      refine Gy (V_geq rfl rfl rfl) ?_
      refine Gy (V_pick_f rfl rfl rfl) ?_
      refine Gv (V_pick_t rfl rfl rfl) ?_
      refine G_end (X_then ?_)
      refine G_cond_f rfl (decide_eq_false (by omega)) ?_
      refine G_skip (X_then (G_seq (G_seq (G_region ?_))))
      refine Gm ?_
      refine Gv (V_neq rfl rfl rfl) ?_
      refine G_end (X_then ?_)
      refine G_cond_f rfl (by kernel_rfl) ?_
      refine G_skip (X_then (G_seq (G_region ?_)))
      refine Gv (V_loadA rfl rfl (Cells.own (.head _)) rfl) ?_
      refine Gm ?_
      refine G_callv (k := 44) (.mk rfl rfl rfl rfl) rfl rfl (.none rfl) (ha _) ?_
      refine Gm ?_
      refine Gv (V_extract rfl rfl rfl) ?_
      refine Gv (V_extract rfl rfl rfl) ?_
      refine Ga ?_
      refine Ga ?_
      refine G_end (X_then (G_seq (G_seq (G_region ?_))))
      refine Gm ?_
      refine Gv (V_eql rfl rfl rfl) ?_
      refine G_end (X_then ?_)
      refine G_cond_t rfl (by kernel_rfl) ?_
      refine G_region ?_
      refine Gv (V_fieldAddr rfl rfl (by decide)) ?_
      refine Gv (V_load rfl rfl (Cell.own (.head _) rfl)) ?_
      refine Ga ?_
      refine G_end (X_then (G_seq (G_block (G_seq (G_region ?_)))))
      refine Gm ?_
      refine Gv (V_eql rfl rfl rfl) ?_
      refine Gm ?_
      refine G.bool_f 44 rfl (by kernel_rfl) ?_
      refine Gy (V_move rfl rfl) ?_
      refine Gy (V_eql rfl rfl rfl) ?_
      refine Gv (V_pick_f rfl rfl rfl) ?_
      refine Gm ?_
      refine G.bool_f 48 rfl (by kernel_rfl) ?_
      refine Gy (V_fieldAddr rfl rfl (by decide)) ?_
      refine Gy (V_load rfl rfl (Cell.own (.head _) rfl)) ?_
      refine Gy (V_move rfl rfl) ?_
      refine Gy (V_idxAddr rfl rfl rfl (SlE.rd (by assumption)) (by omega) (by omega)) ?_
      refine Gy (V_fieldAddrE rfl rfl (by assumption) (by omega) (by decide)) ?_
      refine Gy (V_loadS rfl rfl (SlE.rd (by assumption)) (by assumption) (by simp)) ?_
      refine Gy (V_move rfl rfl) ?_
      refine Gy (V_neq rfl rfl rfl) ?_
      refine Gv (V_pick_f rfl rfl rfl) ?_
      refine Ga ?_
      refine G_end (X_then ?_)
      refine G_cond_t rfl (decide_eq_true (by omega)) ?_
      refine G_seq (G_region ?_)
      refine Ga ?_
      refine Ga ?_
      refine G_end (X_then (G_ret (X_block_ret (X_then_ret ?_))))
      refine G_leaveS (.drop _ (.nil _)) (by exact (.cons (.tmp rfl) (.cons (.tmp rfl) (.nil)))) rfl ?_ ?_
      · exact (.refl _)
      exact ⟨⟨_, ⟨_, ⟨_, ⟨rfl, ⟨(by assumption), ⟨(by omega), (by omega)⟩⟩⟩⟩⟩⟩, rfl⟩
  rw [List.concat_eq_append] at *
  obtain ⟨q, d⟩ := s
  have hq := hin (q, d) (by simp)
  simp only [outS, not_or, Int.not_lt, Int.not_le] at hq
  obtain ⟨q1, q2, q4, q5⟩ := hq
  have hr8 : (rightP g.prods q).length ≤ 8 := by
    obtain ⟨qn, rfl⟩ : ∃ k : Nat, q = k := ⟨q.toNat, by omega⟩
    have hqn : g.prods[qn]? = some g.prods[qn] := List.getElem?_eq_getElem (by omega)
    rw [rightP_eq hqn]
    exact hl.ps _ (List.mem_of_getElem? hqn)
  have hne := awS_some g.prods l' (q, d)
  have hkd := awS_kind g.prods (l' ++ [(q, d)])
  rw [bump_snoc]
  generalize awS g.prods (l' ++ [(q, d)]) = r at *
  rw [if_neg hne]
  have hlen1 : (l' ++ [(q, d)]).length = l'.length + 1 := by simp
  by_cases h1 : r.1 = 1 ∨ r.1 = 3 ∨ lf ≠ r.2
  · rw [if_pos h1]
    by_cases h11 : r.1 = 1
    · refine CallS.intro (l := [_, _, _]) _ Tryz.func18 rfl Tryz.ntmps18 rfl ?_
      refine G_seq (G_region ?_)
      (refine G_boxA rfl rfl rfl rfl (.none rfl) ?_; intro b3)
      refine Ga ?_
      refine Ga ?_
      refine G_end (X_then (G_seq (G_region ?_)))
      refine Gv (V_loadA rfl rfl (Cells.own (.head _)) rfl) ?_
      refine Gm ?_
      refine G_callv (k := 16) (.mk rfl rfl rfl rfl) rfl rfl (.none rfl) (hch _) ?_
      refine Ga ?_
      refine G_end (X_then (G_seq (G_seq (G_region ?_))))
      refine Gm ?_
      refine Gv (V_eql rfl rfl rfl) ?_
      refine Gm ?_
      refine G.bool_t 17 rfl (by kernel_rfl) ?_
      refine Gy (V_move rfl rfl) ?_
      refine Gy (V_lss rfl rfl rfl) ?_
      refine Gy (V_move rfl rfl) ?_
      refine G.bool_f 20 rfl (decide_eq_false (by omega)) ?_
      refine Gy (V_move rfl rfl) ?_
      refine Gy (V_fieldAddr rfl rfl (by decide)) ?_
      refine Gy (V_load rfl rfl (Cell.own (.head _) rfl)) ?_
      refine Gy (V_lenS rfl rfl) ?_
      refine Gy (V_geq rfl rfl rfl) ?_
      refine Gy (V_pick_f rfl rfl rfl) ?_
      refine Gv (V_pick_t rfl rfl rfl) ?_
      refine G_end (X_then ?_)
      refine G_cond_f rfl (decide_eq_false (by omega)) ?_
      refine G_skip (X_then (G_seq (G_seq (G_region ?_))))
      refine Gm ?_
      refine Gv (V_neq rfl rfl rfl) ?_
      refine G_end (X_then ?_)
      refine G_cond_f rfl (by kernel_rfl) ?_
      refine G_skip (X_then (G_seq (G_region ?_)))
      refine Gv (V_loadA rfl rfl (Cells.own (.head _)) rfl) ?_
      refine Gm ?_
      refine G_callv (k := 44) (.mk rfl rfl rfl rfl) rfl rfl (.none rfl) (ha _) ?_
      refine Gm ?_
      refine Gv (V_extract rfl rfl rfl) ?_
      refine Gv (V_extract rfl rfl rfl) ?_
      refine Ga ?_
      refine Ga ?_
      refine G_end (X_then (G_seq (G_seq (G_region ?_))))
      refine Gm ?_
      refine Gv (V_eql rfl rfl rfl) ?_
      refine G_end (X_then ?_)
      refine G_cond_f rfl (decide_eq_false (by omega)) ?_
      refine G_skip (X_then (G_seq (G_block (G_seq (G_region ?_)))))
      refine Gm ?_
      refine Gv (V_eql rfl rfl rfl) ?_
      refine Gm ?_
      refine G.bool_t 44 rfl (decide_eq_true (by omega)) ?_
      refine Gn ?_
      refine Gn ?_
      refine Gv (V_pick_t rfl rfl rfl) ?_
      refine Gm ?_
      refine Gn ?_
      refine Gn ?_
      refine Gn ?_
      refine Gn ?_
      refine Gn ?_
      refine Gn ?_
      refine Gn ?_
      refine Gn ?_
      refine Gv (V_pick_t rfl rfl rfl) ?_
      refine Ga ?_
      refine G_end (X_then ?_)
      refine G_cond_t rfl rfl ?_
      refine G_seq (G_region ?_)
      refine Ga ?_
      refine Ga ?_
      refine G_end (X_then (G_ret (X_block_ret (X_then_ret ?_))))
      refine G_leaveS (.drop _ (.nil _)) (by exact (.cons (.tmp rfl) (.cons (.tmp rfl) (.nil)))) rfl ?_ ?_
      · exact (.refl _)
      exact ⟨⟨_, ⟨_, ⟨_, ⟨rfl, ⟨(by assumption), ⟨(by omega), (by omega)⟩⟩⟩⟩⟩⟩, rfl⟩
    · by_cases h13 : r.1 = 3
      · refine CallS.intro (l := [_, _, _]) _ Tryz.func18 rfl Tryz.ntmps18 rfl ?_
        refine G_seq (G_region ?_)
        (refine G_boxA rfl rfl rfl rfl (.none rfl) ?_; intro b3)
        refine Ga ?_
        refine Ga ?_
        refine G_end (X_then (G_seq (G_region ?_)))
        refine Gv (V_loadA rfl rfl (Cells.own (.head _)) rfl) ?_
        refine Gm ?_
        refine G_callv (k := 16) (.mk rfl rfl rfl rfl) rfl rfl (.none rfl) (hch _) ?_
        refine Ga ?_
        refine G_end (X_then (G_seq (G_seq (G_region ?_))))
        refine Gm ?_
        refine Gv (V_eql rfl rfl rfl) ?_
        refine Gm ?_
        refine G.bool_t 17 rfl (by kernel_rfl) ?_
        refine Gy (V_move rfl rfl) ?_
        refine Gy (V_lss rfl rfl rfl) ?_
        refine Gy (V_move rfl rfl) ?_
        refine G.bool_f 20 rfl (decide_eq_false (by omega)) ?_
        refine Gy (V_move rfl rfl) ?_
        refine Gy (V_fieldAddr rfl rfl (by decide)) ?_
        refine Gy (V_load rfl rfl (Cell.own (.head _) rfl)) ?_
        refine Gy (V_lenS rfl rfl) ?_
        refine Gy (V_geq rfl rfl rfl) ?_
        refine Gy (V_pick_f rfl rfl rfl) ?_
        refine Gv (V_pick_t rfl rfl rfl) ?_
        refine G_end (X_then ?_)
        refine G_cond_f rfl (decide_eq_false (by omega)) ?_
        refine G_skip (X_then (G_seq (G_seq (G_region ?_))))
        refine Gm ?_
        refine Gv (V_neq rfl rfl rfl) ?_
        refine G_end (X_then ?_)
        refine G_cond_f rfl (by kernel_rfl) ?_
        refine G_skip (X_then (G_seq (G_region ?_)))
        refine Gv (V_loadA rfl rfl (Cells.own (.head _)) rfl) ?_
        refine Gm ?_
        refine G_callv (k := 44) (.mk rfl rfl rfl rfl) rfl rfl (.none rfl) (ha _) ?_
        refine Gm ?_
        refine Gv (V_extract rfl rfl rfl) ?_
        refine Gv (V_extract rfl rfl rfl) ?_
        refine Ga ?_
        refine Ga ?_
        refine G_end (X_then (G_seq (G_seq (G_region ?_))))
        refine Gm ?_
        refine Gv (V_eql rfl rfl rfl) ?_
        refine G_end (X_then ?_)
        refine G_cond_f rfl (decide_eq_false (by omega)) ?_
        refine G_skip (X_then (G_seq (G_block (G_seq (G_region ?_)))))
        refine Gm ?_
        refine Gv (V_eql rfl rfl rfl) ?_
        refine Gm ?_
        refine G.bool_f 44 rfl (decide_eq_false (by omega)) ?_
        refine Gy (V_move rfl rfl) ?_
        refine Gy (V_eql rfl rfl rfl) ?_
        refine Gv (V_pick_f rfl rfl rfl) ?_
        refine Gm ?_
        refine G.bool_t 48 rfl (decide_eq_true (by omega)) ?_
        refine Gn ?_
        refine Gn ?_
        refine Gn ?_
        refine Gn ?_
        refine Gn ?_
        refine Gn ?_
        refine Gn ?_
        refine Gn ?_
        refine Gv (V_pick_t rfl rfl rfl) ?_
        refine Ga ?_
        refine G_end (X_then ?_)
        refine G_cond_t rfl rfl ?_
        refine G_seq (G_region ?_)
        refine Ga ?_
        refine Ga ?_
        refine G_end (X_then (G_ret (X_block_ret (X_then_ret ?_))))
        refine G_leaveS (.drop _ (.nil _)) (by exact (.cons (.tmp rfl) (.cons (.tmp rfl) (.nil)))) rfl ?_ ?_
        · exact (.refl _)
        exact ⟨⟨_, ⟨_, ⟨_, ⟨rfl, ⟨(by assumption), ⟨(by omega), (by omega)⟩⟩⟩⟩⟩⟩, rfl⟩
      · have h14 : lf ≠ r.2 := by omega
        refine CallS.intro (l := [_, _, _]) _ Tryz.func18 rfl Tryz.ntmps18 rfl ?_
        refine G_seq (G_region ?_)
        (refine G_boxA rfl rfl rfl rfl (.none rfl) ?_; intro b3)
        refine Ga ?_
        refine Ga ?_
        refine G_end (X_then (G_seq (G_region ?_)))
        refine Gv (V_loadA rfl rfl (Cells.own (.head _)) rfl) ?_
        refine Gm ?_
        refine G_callv (k := 16) (.mk rfl rfl rfl rfl) rfl rfl (.none rfl) (hch _) ?_
        refine Ga ?_
        refine G_end (X_then (G_seq (G_seq (G_region ?_))))
        refine Gm ?_
        refine Gv (V_eql rfl rfl rfl) ?_
        refine Gm ?_
        refine G.bool_t 17 rfl (by kernel_rfl) ?_
        refine Gy (V_move rfl rfl) ?_
        refine Gy (V_lss rfl rfl rfl) ?_
        refine Gy (V_move rfl rfl) ?_
        refine G.bool_f 20 rfl (decide_eq_false (by omega)) ?_
        refine Gy (V_move rfl rfl) ?_
        refine Gy (V_fieldAddr rfl rfl (by decide)) ?_
        refine Gy (V_load rfl rfl (Cell.own (.head _) rfl)) ?_
        refine Gy (V_lenS rfl rfl) ?_
        refine Gy (V_geq rfl rfl rfl) ?_
        refine Gy (V_pick_f rfl rfl rfl) ?_
        refine Gv (V_pick_t rfl rfl rfl) ?_
        refine G_end (X_then ?_)
        refine G_cond_f rfl (decide_eq_false (by omega)) ?_
        refine G_skip (X_then (G_seq (G_seq (G_region ?_))))
        refine Gm ?_
        refine Gv (V_neq rfl rfl rfl) ?_
        refine G_end (X_then ?_)
        refine G_cond_f rfl (by kernel_rfl) ?_
        refine G_skip (X_then (G_seq (G_region ?_)))
        refine Gv (V_loadA rfl rfl (Cells.own (.head _)) rfl) ?_
        refine Gm ?_
        refine G_callv (k := 44) (.mk rfl rfl rfl rfl) rfl rfl (.none rfl) (ha _) ?_
        refine Gm ?_
        refine Gv (V_extract rfl rfl rfl) ?_
        refine Gv (V_extract rfl rfl rfl) ?_
        refine Ga ?_
        refine Ga ?_
        refine G_end (X_then (G_seq (G_seq (G_region ?_))))
        refine Gm ?_
        refine Gv (V_eql rfl rfl rfl) ?_
        refine G_end (X_then ?_)
        refine G_cond_f rfl (decide_eq_false (by omega)) ?_
        refine G_skip (X_then (G_seq (G_block (G_seq (G_region ?_)))))
        refine Gm ?_
        refine Gv (V_eql rfl rfl rfl) ?_
        refine Gm ?_
        refine G.bool_f 44 rfl (decide_eq_false (by omega)) ?_
        refine Gy (V_move rfl rfl) ?_
        refine Gy (V_eql rfl rfl rfl) ?_
        refine Gv (V_pick_f rfl rfl rfl) ?_
        refine Gm ?_
        refine G.bool_f 48 rfl (decide_eq_false (by omega)) ?_
        refine Gy (V_fieldAddr rfl rfl (by decide)) ?_
        refine Gy (V_load rfl rfl (Cell.own (.head _) rfl)) ?_
        refine Gy (V_move rfl rfl) ?_
        refine Gy (V_idxAddr rfl rfl rfl (SlE.rd (by assumption)) (by omega) (by omega)) ?_
        refine Gy (V_fieldAddrE rfl rfl (by assumption) (by omega) (by decide)) ?_
        refine Gy (V_loadS rfl rfl (SlE.rd (by assumption)) (by assumption) (by simp)) ?_
        refine Gy (V_move rfl rfl) ?_
        refine Gy (V_neq rfl rfl rfl) ?_
        refine Gv (V_pick_f rfl rfl rfl) ?_
        refine Ga ?_
        refine G_end (X_then ?_)
        refine G_cond_t rfl (decide_eq_true (by omega)) ?_
        refine G_seq (G_region ?_)
        refine Ga ?_
        refine Ga ?_
        refine G_end (X_then (G_ret (X_block_ret (X_then_ret ?_))))
        refine G_leaveS (.drop _ (.nil _)) (by exact (.cons (.tmp rfl) (.cons (.tmp rfl) (.nil)))) rfl ?_ ?_
        · exact (.refl _)
        exact ⟨⟨_, ⟨_, ⟨_, ⟨rfl, ⟨(by assumption), ⟨(by omega), (by omega)⟩⟩⟩⟩⟩⟩, rfl⟩
  rw [if_neg h1]
  have h2 : r.1 = 2 := by omega
  have h3 : lf = r.2 := by omega
  by_cases h6 : (l' ++ [(q, d)]).length = 64
  · rw [if_pos h6]
    refine CallS.intro (l := [_, _, _]) _ Tryz.func18 rfl Tryz.ntmps18 rfl ?_
    refine G_seq (G_region ?_)
    (refine G_boxA rfl rfl rfl rfl (.none rfl) ?_; intro b3)
    refine Ga ?_
    refine Ga ?_
    refine G_end (X_then (G_seq (G_region ?_)))
    refine Gv (V_loadA rfl rfl (Cells.own (.head _)) rfl) ?_
    refine Gm ?_
    refine G_callv (k := 16) (.mk rfl rfl rfl rfl) rfl rfl (.none rfl) (hch _) ?_
    refine Ga ?_
    refine G_end (X_then (G_seq (G_seq (G_region ?_))))
    refine Gm ?_
    refine Gv (V_eql rfl rfl rfl) ?_
    refine Gm ?_
    refine G.bool_t 17 rfl (by kernel_rfl) ?_
    refine Gy (V_move rfl rfl) ?_
    refine Gy (V_lss rfl rfl rfl) ?_
    refine Gy (V_move rfl rfl) ?_
    refine G.bool_f 20 rfl (decide_eq_false (by omega)) ?_
    refine Gy (V_move rfl rfl) ?_
    refine Gy (V_fieldAddr rfl rfl (by decide)) ?_
    refine Gy (V_load rfl rfl (Cell.own (.head _) rfl)) ?_
    refine Gy (V_lenS rfl rfl) ?_
    refine Gy (V_geq rfl rfl rfl) ?_
    refine Gy (V_pick_f rfl rfl rfl) ?_
    refine Gv (V_pick_t rfl rfl rfl) ?_
    refine G_end (X_then ?_)
    refine G_cond_f rfl (decide_eq_false (by omega)) ?_
    refine G_skip (X_then (G_seq (G_seq (G_region ?_))))
    refine Gm ?_
    refine Gv (V_neq rfl rfl rfl) ?_
    refine G_end (X_then ?_)
    refine G_cond_f rfl (by kernel_rfl) ?_
    refine G_skip (X_then (G_seq (G_region ?_)))
    refine Gv (V_loadA rfl rfl (Cells.own (.head _)) rfl) ?_
    refine Gm ?_
    refine G_callv (k := 44) (.mk rfl rfl rfl rfl) rfl rfl (.none rfl) (ha _) ?_
    refine Gm ?_
    refine Gv (V_extract rfl rfl rfl) ?_
    refine Gv (V_extract rfl rfl rfl) ?_
    refine Ga ?_
    refine Ga ?_
    refine G_end (X_then (G_seq (G_seq (G_region ?_))))
    refine Gm ?_
    refine Gv (V_eql rfl rfl rfl) ?_
    refine G_end (X_then ?_)
    refine G_cond_f rfl (decide_eq_false (by omega)) ?_
    refine G_skip (X_then (G_seq (G_block (G_seq (G_region ?_)))))
    refine Gm ?_
    refine Gv (V_eql rfl rfl rfl) ?_
    refine Gm ?_
    refine G.bool_f 44 rfl (decide_eq_false (by omega)) ?_
    refine Gy (V_move rfl rfl) ?_
    refine Gy (V_eql rfl rfl rfl) ?_
    refine Gv (V_pick_f rfl rfl rfl) ?_
    refine Gm ?_
    refine G.bool_f 48 rfl (decide_eq_false (by omega)) ?_
    refine Gy (V_fieldAddr rfl rfl (by decide)) ?_
    refine Gy (V_load rfl rfl (Cell.own (.head _) rfl)) ?_
    refine Gy (V_move rfl rfl) ?_
    refine Gy (V_idxAddr rfl rfl rfl (SlE.rd (by assumption)) (by omega) (by omega)) ?_
    refine Gy (V_fieldAddrE rfl rfl (by assumption) (by omega) (by decide)) ?_
    refine Gy (V_loadS rfl rfl (SlE.rd (by assumption)) (by assumption) (by simp)) ?_
    refine Gy (V_move rfl rfl) ?_
    refine Gy (V_neq rfl rfl rfl) ?_
    refine Gv (V_pick_f rfl rfl rfl) ?_
    refine Ga ?_
    refine G_end (X_then ?_)
    refine G_cond_f rfl (decide_eq_false (by omega)) ?_
    refine G_seq (G_region ?_)
    refine Gm ?_
    refine Gv (V_lenS rfl rfl) ?_
    refine Gv (V_eql rfl rfl rfl) ?_
    refine Ga ?_
    refine G_end (X_then ?_)
    refine G_cond_t rfl (decide_eq_true (by omega)) ?_
    refine G_seq (G_region ?_)
    refine Ga ?_
    refine Ga ?_
    refine G_end (X_then (G_ret (X_block_ret (X_then_ret ?_))))
    refine G_leaveS (.drop _ (.nil _)) (by exact (.cons (.tmp rfl) (.cons (.tmp rfl) (.nil)))) rfl ?_ ?_
    · exact (.refl _)
    exact ⟨⟨_, ⟨_, ⟨_, ⟨rfl, ⟨(by assumption), ⟨(by omega), (by omega)⟩⟩⟩⟩⟩⟩, rfl⟩
  · rw [if_neg h6]
    have hap := spC_append (l' ++ [(q, d + 1)]) [((j : Int), 0)]
    subst en
    refine CallS.intro (l := [_, _, _]) _ Tryz.func18 rfl Tryz.ntmps18 rfl ?_
    refine G_seq (G_region ?_)
    (refine G_boxA rfl rfl rfl rfl (.none rfl) ?_; intro b3)
    refine Ga ?_
    refine Ga ?_
    refine G_end (X_then (G_seq (G_region ?_)))
    refine Gv (V_loadA rfl rfl (Cells.own (.head _)) rfl) ?_
    refine Gm ?_
    refine G_callv (k := 16) (.mk rfl rfl rfl rfl) rfl rfl (.none rfl) (hch _) ?_
    refine Ga ?_
    refine G_end (X_then (G_seq (G_seq (G_region ?_))))
    refine Gm ?_
    refine Gv (V_eql rfl rfl rfl) ?_
    refine Gm ?_
    refine G.bool_t 17 rfl (by kernel_rfl) ?_
    refine Gy (V_move rfl rfl) ?_
    refine Gy (V_lss rfl rfl rfl) ?_
    refine Gy (V_move rfl rfl) ?_
    refine G.bool_f 20 rfl (decide_eq_false (by omega)) ?_
    refine Gy (V_move rfl rfl) ?_
    refine Gy (V_fieldAddr rfl rfl (by decide)) ?_
    refine Gy (V_load rfl rfl (Cell.own (.head _) rfl)) ?_
    refine Gy (V_lenS rfl rfl) ?_
    refine Gy (V_geq rfl rfl rfl) ?_
    refine Gy (V_pick_f rfl rfl rfl) ?_
    refine Gv (V_pick_t rfl rfl rfl) ?_
    refine G_end (X_then ?_)
    refine G_cond_f rfl (decide_eq_false (by omega)) ?_
    refine G_skip (X_then (G_seq (G_seq (G_region ?_))))
    refine Gm ?_
    refine Gv (V_neq rfl rfl rfl) ?_
    refine G_end (X_then ?_)
    refine G_cond_f rfl (by kernel_rfl) ?_
    refine G_skip (X_then (G_seq (G_region ?_)))
    refine Gv (V_loadA rfl rfl (Cells.own (.head _)) rfl) ?_
    refine Gm ?_
    refine G_callv (k := 44) (.mk rfl rfl rfl rfl) rfl rfl (.none rfl) (ha _) ?_
    refine Gm ?_
    refine Gv (V_extract rfl rfl rfl) ?_
    refine Gv (V_extract rfl rfl rfl) ?_
    refine Ga ?_
    refine Ga ?_
    refine G_end (X_then (G_seq (G_seq (G_region ?_))))
    refine Gm ?_
    refine Gv (V_eql rfl rfl rfl) ?_
    refine G_end (X_then ?_)
    refine G_cond_f rfl (decide_eq_false (by omega)) ?_
    refine G_skip (X_then (G_seq (G_block (G_seq (G_region ?_)))))
    refine Gm ?_
    refine Gv (V_eql rfl rfl rfl) ?_
    refine Gm ?_
    refine G.bool_f 44 rfl (decide_eq_false (by omega)) ?_
    refine Gy (V_move rfl rfl) ?_
    refine Gy (V_eql rfl rfl rfl) ?_
    refine Gv (V_pick_f rfl rfl rfl) ?_
    refine Gm ?_
    refine G.bool_f 48 rfl (decide_eq_false (by omega)) ?_
    refine Gy (V_fieldAddr rfl rfl (by decide)) ?_
    refine Gy (V_load rfl rfl (Cell.own (.head _) rfl)) ?_
    refine Gy (V_move rfl rfl) ?_
    refine Gy (V_idxAddr rfl rfl rfl (SlE.rd (by assumption)) (by omega) (by omega)) ?_
    refine Gy (V_fieldAddrE rfl rfl (by assumption) (by omega) (by decide)) ?_
    refine Gy (V_loadS rfl rfl (SlE.rd (by assumption)) (by assumption) (by simp)) ?_
    refine Gy (V_move rfl rfl) ?_
    refine Gy (V_neq rfl rfl rfl) ?_
    refine Gv (V_pick_f rfl rfl rfl) ?_
    refine Ga ?_
    refine G_end (X_then ?_)
    refine G_cond_f rfl (decide_eq_false (by omega)) ?_
    refine G_seq (G_region ?_)
    refine Gm ?_
    refine Gv (V_lenS rfl rfl) ?_
    refine Gv (V_eql rfl rfl rfl) ?_
    refine Ga ?_
    refine G_end (X_then ?_)
    refine G_cond_f rfl (decide_eq_false (by omega)) ?_
    refine G_skip (X_block (X_then (G_seq (G_region ?_))))
    refine Gm ?_
    refine G_call (k := 49) (.mk rfl rfl rfl rfl) rfl rfl (.none rfl) (Rown_call _ _ _ _ _ _ (by assumption) (by omega)) ?_
    rintro r1 E2 L3 hE4 ⟨z5, ⟨z6, ⟨rfl, ⟨rfl, rfl⟩⟩⟩⟩
    replace hnil := hnil.mono hE4
    replace hg0 := hg0.mono hE4
    replace ht := ht.mono hE4
    replace hn' := hn'.mono hE4
    replace hps := hps.mono hE4
    replace hre := hre.mono hE4
    replace hs := hs.mono hE4
    refine Ga ?_
    refine G_end (X_then (G_seq (G_seq (G_region ?_))))
    refine Gm ?_
    refine Gv (V_lenS rfl rfl) ?_
    refine Gv (V_gtr rfl rfl rfl) ?_
    refine G_end (X_then ?_)
    refine G_cond_t rfl (decide_eq_true (by omega)) ?_
    refine G_region ?_
    refine Gm ?_
    refine Gm ?_
    refine Gv (V_lenS rfl rfl) ?_
    refine Gv (V_sub_i64 rfl rfl rfl (by omega) (by omega)) ?_
    refine G.slOpen (by omega) ?_
    rintro b0 tl rfl hc1 hc2 hl1 hl2
    have e1 := spot_get l' q d tl
    have e2 := spot_set l' q d tl
    have hl3 : PLift ((spC (l' ++ [(q, d)]) ++ tl).length = z6 * 2) := ⟨hl2⟩
    clear hl2
    refine Gv (V_idxB rfl rfl rfl (by omega) (by omega)) ?_
    refine Gv (V_fieldAddr rfl rfl (by decide)) ?_
    refine Gv (V_load rfl rfl (Cell.own (.head _) (by assumption))) ?_
    refine Gv (V_add_i64 rfl rfl rfl (by omega) (by omega)) ?_
    refine Gv (V_idxB rfl rfl rfl (by omega) (by omega)) ?_
    refine Gv (V_fieldAddr rfl rfl (by decide)) ?_
    refine G_storeB rfl rfl rfl rfl rfl rfl (.none rfl) (.head _ _ _) (by have := hl3.down; omega) ?_
    rw [e2]
    refine G.slClose (sz := 2) (k := (l' ++ [(q, d)]).length) (by rw [spC_len]; simp) (by have h := hl3.down; rw [List.length_append, spC_len] at h ⊢; simpa using h) hc1 hc2 ?_
    refine G_end (X_then (G_seq (G_region ?_)))
    refine Gm ?_
    refine Gm ?_
    refine Gv (V_build rfl rfl (by simp [fillV, setLs, setL, Value.cells]; rfl)) ?_
    (refine G_lit rfl rfl (by decide) (by simp [fillS, zeros, setLs, setL, Value.cells, List.range, List.range.loop]; rfl) rfl rfl (.none rfl) ?_; intro b80)
    (refine G_append rfl rfl rfl (Rd.lit (.head _) rfl) (by simp [Value.oneCell']) (by omega) (by omega) rfl rfl (.none rfl) (fun _ _ => (.tail _ (.head _ _ _))) ?_; intro a81 c81; refine G.rm (.head _ _) ?_)
    refine Ga ?_
    refine Ga ?_
    refine G_end (X_then (G_ret ?_))
    trace_state
    refine G.freezeSl (.head _ _) ?_
    intro E4 hE4 hs4 hc4
    rw [hap]
    refine G_leaveS (.drop _ (.nil _)) (by exact (.cons (.tmp rfl) (.cons (.tmp rfl) (.nil)))) rfl ?_ ?_
    · exact hE4
    exact ⟨⟨_, ⟨_, ⟨_, ⟨rfl, ⟨(by assumption), ⟨(by assumption), (by omega)⟩⟩⟩⟩⟩⟩, rfl⟩
end
end Go.Proofs.YtiegoiadbklgjaaGreatDoor
set_option linter.unusedSimpArgs false
set_option linter.unusedVariables false
set_option maxHeartbeats 2000000
set_option maxRecDepth 20000
namespace Go.Proofs.YtiegoiadbklgjaaGreatDoor
open Go.RowKit
/-! Whether stacks are equal. -/
theorem spt_ne {a b : Spt} (h : a ≠ b) : ¬ (a.1 = b.1 ∧ a.2 = b.2) := fun ⟨h1, h2⟩ => h (Prod.ext h1 h2)
section
variable (E : Env) (L : List Res)
theorem Same25_call (p q : Option Addr) (n m c d : Nat) (xs ys : List Spt) (hx : SlE E 2 p n (spC xs)) (hy : SlE E 2 q m (spC ys)) (hn : n ≤ 1000000) (hm : m ≤ 1000000) :
    CallV Tryz.prog 19 #[.slice p n c, .slice q m d] E L (.bool (decide (xs = ys))) := by
  have e1 := hx.nSp; have e2 := hy.nSp; subst e1 e2
  refine CallS.toV (CallS.intro (l := [_, _]) _ Tryz.func19 rfl Tryz.ntmps19 rfl ?_)
  by_cases hlen : xs.length ≠ ys.length
  · have hne : xs ≠ ys := fun h => hlen (congrArg List.length h)
    refine G_seq (G_region ?_)
    refine Ga ?_
    refine G_end (X_then (G_seq (G_seq (G_region ?_))))
    refine Gm ?_
    refine Gv (V_lenS rfl rfl) ?_
    refine Gm ?_
    refine Gv (V_lenS rfl rfl) ?_
    refine Gv (V_neq rfl rfl rfl) ?_
    refine G_end (X_then ?_)
    refine G_cond_t rfl (decide_eq_true (by omega)) ?_
    refine G_seq (G_region ?_)
    refine Ga ?_
    refine G_end (X_then (G_ret (X_then_ret ?_)))
    refine G_leaveS (.nil _) (by exact (.cons (.tmp rfl) (.nil))) rfl ?_ ?_
    · exact (.refl _)
    exact ⟨(by (simp [resVal, *]; done)), (by rfl)⟩
  refine G_seq (G_region ?_)
  refine Ga ?_
  refine G_end (X_then (G_seq (G_seq (G_region ?_))))
  refine Gm ?_
  refine Gv (V_lenS rfl rfl) ?_
  refine Gm ?_
  refine Gv (V_lenS rfl rfl) ?_
  refine Gv (V_neq rfl rfl rfl) ?_
  refine G_end (X_then ?_)
  refine G_cond_f rfl (decide_eq_false (by omega)) ?_
  refine G_skip (X_then (G_seq (G_seq (G_region ?_))))
  refine Ga ?_
  refine G_end (X_then (G_block ?_))
  refine G_loop (α := Nat) (fun k => [(0, .slice p xs.length c), (1, .slice q ys.length d), (5, .int .i64 k)]) (fun _ => E) (fun _ => L)
    (fun k => k ≤ xs.length ∧ xs.take k = ys.take k) (fun k => xs.length - k) 0 ⟨Nat.zero_le _, by simp⟩ ⟨rfl, rfl, rfl, trivial⟩ rfl rfl ?_
  rintro k ⟨hk, hall⟩
  by_cases hlt : k < xs.length
  · have hlt' : k < ys.length := by omega
    have h1 := spC_get (List.getElem?_eq_getElem hlt)
    have h2 := spC_get (List.getElem?_eq_getElem hlt')
    by_cases he : xs[k] = ys[k]
    · rw [← he] at h2
      refine G_seq (G_seq (G_region ?_))
      refine Gm ?_
      refine Gm ?_
      refine Gv (V_lenS rfl rfl) ?_
      refine Gv (V_lss rfl rfl rfl) ?_
      refine G_end (X_then ?_)
      refine G_cond_t rfl (decide_eq_true (by omega)) ?_
      refine G_skip (X_then (G_seq (G_block (G_seq ?_))))
      refine G_draw mixed (by kernel_rfl) ?_
      refine Q_val (V_move rfl rfl) rfl rfl (.none rfl) ?_
      refine Q_val (V_move rfl rfl) rfl rfl (.none rfl) ?_
      refine Q_val (V_idxAddr rfl rfl rfl (SlE.rd (by assumption)) (by omega) (by omega)) rfl rfl (.none rfl) ?_
      refine Q_val (V_loadAS rfl rfl (SlE.rd (by assumption)) (by assumption) (by simp) (by rfl)) rfl rfl (.none rfl) ?_
      refine Q_val (V_move rfl rfl) rfl rfl (.none rfl) ?_
      refine Q_val (V_move rfl rfl) rfl rfl (.none rfl) ?_
      refine Q_val (V_idxAddr rfl rfl rfl (SlE.rd (by assumption)) (by omega) (by omega)) rfl rfl (.none rfl) ?_
      refine Q_val (V_loadAS rfl rfl (SlE.rd (by assumption)) (by assumption) (by simp) (by rfl)) rfl rfl (.none rfl) ?_
      refine Q_val (V_aneq_58 rfl rfl rfl) rfl rfl (.none rfl) ?_
      refine Q_end ?_
      refine X_then ?_
      refine G_cond_f rfl (decide_eq_false (by omega)) ?_
      refine G_skip (X_block (X_then (G_region ?_)))
      refine Gm ?_
      refine Gv (V_add_i64 rfl rfl rfl (by omega) (by omega)) ?_
      refine Ga ?_
      refine G_end (X_then ?_)
      exact G_again (k + 1) ⟨hlt, take_next hall hlt hlt' he⟩ (by omega) ⟨rfl, rfl, rfl, trivial⟩ rfl rfl
    · have hne : xs ≠ ys := fun h => he (by subst h; rfl)
      have hne2 := spt_ne he
      refine G_seq (G_seq (G_region ?_))
      refine Gm ?_
      refine Gm ?_
      refine Gv (V_lenS rfl rfl) ?_
      refine Gv (V_lss rfl rfl rfl) ?_
      refine G_end (X_then ?_)
      refine G_cond_t rfl (decide_eq_true (by omega)) ?_
      refine G_skip (X_then (G_seq (G_block (G_seq ?_))))
      refine G_draw mixed (by kernel_rfl) ?_
      refine Q_val (V_move rfl rfl) rfl rfl (.none rfl) ?_
      refine Q_val (V_move rfl rfl) rfl rfl (.none rfl) ?_
      refine Q_val (V_idxAddr rfl rfl rfl (SlE.rd (by assumption)) (by omega) (by omega)) rfl rfl (.none rfl) ?_
      refine Q_val (V_loadAS rfl rfl (SlE.rd (by assumption)) (by assumption) (by simp) (by rfl)) rfl rfl (.none rfl) ?_
      refine Q_val (V_move rfl rfl) rfl rfl (.none rfl) ?_
      refine Q_val (V_move rfl rfl) rfl rfl (.none rfl) ?_
      refine Q_val (V_idxAddr rfl rfl rfl (SlE.rd (by assumption)) (by omega) (by omega)) rfl rfl (.none rfl) ?_
      refine Q_val (V_loadAS rfl rfl (SlE.rd (by assumption)) (by assumption) (by simp) (by rfl)) rfl rfl (.none rfl) ?_
      refine Q_val (V_aneq_58 rfl rfl rfl) rfl rfl (.none rfl) ?_
      refine Q_end ?_
      refine X_then ?_
      refine G_cond_t rfl (decide_eq_true (by omega)) ?_
      refine G_seq (G_region ?_)
      refine Ga ?_
      refine G_end (X_then (G_ret (X_block_ret (X_then_ret (X_then_ret (X_block_ret (X_then_ret ?_)))))))
      refine G_leaveS (.nil _) (by exact (.cons (.tmp rfl) (.nil))) rfl ?_ ?_
      · exact (.refl _)
      exact ⟨(by (simp [resVal, *]; done)), (by rfl)⟩
  · have heq : xs = ys := by rw [List.take_of_length_le (by omega), List.take_of_length_le (by omega)] at hall; exact hall
    refine G_seq (G_seq (G_region ?_))
    refine Gm ?_
    refine Gm ?_
    refine Gv (V_lenS rfl rfl) ?_
    refine Gv (V_lss rfl rfl rfl) ?_
    refine G_end (X_then ?_)
    refine G_cond_f rfl (decide_eq_false (by omega)) ?_
    refine G_exit (X_then_exit (X_then_exit (X_block_hit (X_then (G_seq (G_region ?_))))))
    refine Ga ?_
    refine G_end (X_then (G_ret ?_))
    refine G_leaveS (.nil _) (by exact (.cons (.tmp rfl) (.nil))) rfl ?_ ?_
    · exact (.refl _)
    exact ⟨(by (simp [resVal, *]; done)), (by rfl)⟩
end
end Go.Proofs.YtiegoiadbklgjaaGreatDoor
