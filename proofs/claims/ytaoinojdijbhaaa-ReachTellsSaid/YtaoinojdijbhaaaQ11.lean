/-
  Rules and contracts, packed: D24, D26.
-/
import Derived.Test.YtaoinojdijbhaaaQ10
set_option maxHeartbeats 1000000
set_option linter.unusedSimpArgs false
set_option linter.unusedVariables false
set_option maxHeartbeats 2000000
set_option maxRecDepth 20000
namespace Go.Proofs.Ytaoinojdijbhaaa
open Go.RowKit
theorem okL_small {α : Type} {g : Gr} {l : List α} (h : Valid g → l.length = g.names.length) : (okL g l).length ≤ 8 := by
  by_cases hv : gcheck g = 0
  · have hva := valid_of hv
    rw [okL_pos hv, h hva]
    exact hva.names.2
  · rw [okL_neg hv]; exact Nat.zero_le _
theorem belowL_small (g : Gr) (m : Int) : (belowL g m).length ≤ 8 := by
  rw [belowL]
  by_cases h : belowE g m = 0
  · rw [if_pos h]
    rw [belowE] at h
    by_cases hv : gcheck g = 0
    · have hva := valid_of hv
      rw [if_pos hv] at h
      by_cases hm : m < 0 ∨ (g.names.length : Int) ≤ m
      · rw [if_pos hm] at h; cases h
      · rw [belowM, reachL_len hva.wf (by omega) (by omega)]
        exact hva.names.2
    · rw [if_neg hv] at h; exact absurd h hv
  · rw [if_neg h]; exact Nat.zero_le _
section
variable (E : Env) (L : List Res)
theorem ReachTells_call (gv : Value) (g : Gr) (hg : GrE E gv g) (h1 : g.toks.length ≤ 9223372036854775807) (h2 : g.names.length ≤ 9223372036854775807) (h3 : g.prods.length ≤ 9223372036854775807) (h4 : ∀ p, p ∈ g.prods → p.2.length ≤ 9223372036854775807)
    (rp : Option Addr) (rc : Nat) (r : List Int) (hr : SlE E 1 rp r.length (i64s r)) (hrl : r.length ≤ 9223372036854775807) (hri : ∀ s, s ∈ r → -9223372036854775808 ≤ s ∧ s ≤ 9223372036854775807) (m : Int) :
    CallV Try.prog 5 #[gv, .slice rp r.length rc, .int .i64 m] E L (.bool true) := by
  have hg0 := hg
  obtain ⟨tp, tc, np, nc, pp, pc, rfl, ht, hn, hps, k1, k2, k3⟩ := hg
  refine CallS.toV (CallS.intro (l := [_, _, _]) _ Try.func5 rfl Try.ntmps5 rfl ?_)
  cases hlb : lightB g with
  | false =>
    refine G_seq (G_region ?_)
    (refine G_boxA rfl rfl rfl rfl (.none rfl) ?_; intro b3)
    refine G_val (V_assign rfl rfl) rfl rfl (.none rfl) ?_
    refine G_end (X_then (G_seq (G_seq (G_region ?_))))
    refine G_val (V_loadA rfl rfl (Cells.own (.head _)) rfl) rfl rfl (.none rfl) ?_
    refine G_callv (k := 21) (.mk rfl rfl rfl rfl) rfl rfl (.none rfl) (LightGrammar_call _ _ _ _ (by assumption) (by assumption) (by assumption) (by assumption) (by assumption)) ?_
    refine G_val (V_not rfl rfl) rfl rfl (.none rfl) ?_
    refine G_val (V_move rfl rfl) rfl rfl (.none rfl) ?_
    refine G.bool_t 24 rfl (by simp [*]; done) ?_
    refine G_stay (.no rfl rfl rfl rfl) rfl rfl ?_
    refine G_stay (.no rfl rfl rfl rfl) rfl rfl ?_
    refine G_stay (.no rfl rfl rfl rfl) rfl rfl ?_
    refine G_val (V_pick_t rfl rfl rfl) rfl rfl (.none rfl) ?_
    refine G_end (X_then ?_)
    refine G_cond_t rfl rfl ?_
    refine G_seq (G_region ?_)
    refine G_callv (k := 31) (.mk rfl rfl rfl rfl) rfl rfl (.none rfl) (awake_call _ _) ?_
    refine G_val (V_assign rfl rfl) rfl rfl (.none rfl) ?_
    refine G_end (X_then (G_ret (X_then_ret ?_)))
    refine G_leaveS (.drop _ (.nil _)) (by exact (.cons (.tmp rfl) (.nil))) rfl ?_ ?_
    · exact (.refl _)
    exact ⟨(by kernel_rfl), rfl⟩
  | true =>
    have hl : Light g := lightB_iff.1 hlb
    by_cases h12 : 12 < r.length
    · refine G_seq ?_
      refine G_region ?_
      (refine G_boxA rfl rfl rfl rfl (.none rfl) ?_; intro b3)
      refine G_val (V_assign rfl rfl) rfl rfl (.none rfl) ?_
      refine G_end (X_then (G_seq (G_seq (G_region ?_))))
      refine G_val (V_loadA rfl rfl (Cells.own (.head _)) rfl) rfl rfl (.none rfl) ?_
      refine G_callv (k := 21) (.mk rfl rfl rfl rfl) rfl rfl (.none rfl) (LightGrammar_call _ _ _ _ (by assumption) (by assumption) (by assumption) (by assumption) (by assumption)) ?_
      refine G_val (V_not rfl rfl) rfl rfl (.none rfl) ?_
      refine G_val (V_move rfl rfl) rfl rfl (.none rfl) ?_
      refine G.bool_f 24 rfl (by simp [*]; done) ?_
      refine G_val (V_move rfl rfl) rfl rfl (.yes rfl rfl rfl rfl) ?_
      refine G_val (V_lenS rfl rfl) rfl rfl (.yes rfl rfl rfl rfl) ?_
      refine G_val (V_gtr rfl rfl rfl) rfl rfl (.yes rfl rfl rfl rfl) ?_
      refine G_val (V_pick_f rfl rfl rfl) rfl rfl (.none rfl) ?_
      refine G_end (X_then ?_)
      refine G_cond_t rfl (decide_eq_true (by omega)) ?_
      refine G_seq (G_region ?_)
      refine G_callv (k := 31) (.mk rfl rfl rfl rfl) rfl rfl (.none rfl) (awake_call _ _) ?_
      refine G_val (V_assign rfl rfl) rfl rfl (.none rfl) ?_
      refine G_end (X_then (G_ret (X_then_ret ?_)))
      refine G_leaveS (.drop _ (.nil _)) (by exact (.cons (.tmp rfl) (.nil))) rfl ?_ ?_
      · exact (.refl _)
      exact ⟨(by kernel_rfl), rfl⟩
    · refine G_seq ?_
      refine G_region ?_
      (refine G_boxA rfl rfl rfl rfl (.none rfl) ?_; intro b3)
      refine G_val (V_assign rfl rfl) rfl rfl (.none rfl) ?_
      refine G_end (X_then (G_seq (G_seq (G_region ?_))))
      refine G_val (V_loadA rfl rfl (Cells.own (.head _)) rfl) rfl rfl (.none rfl) ?_
      refine G_callv (k := 21) (.mk rfl rfl rfl rfl) rfl rfl (.none rfl) (LightGrammar_call _ _ _ _ (by assumption) (by assumption) (by assumption) (by assumption) (by assumption)) ?_
      refine G_val (V_not rfl rfl) rfl rfl (.none rfl) ?_
      refine G_val (V_move rfl rfl) rfl rfl (.none rfl) ?_
      refine G.bool_f 24 rfl (by simp [*]; done) ?_
      refine G_val (V_move rfl rfl) rfl rfl (.yes rfl rfl rfl rfl) ?_
      refine G_val (V_lenS rfl rfl) rfl rfl (.yes rfl rfl rfl rfl) ?_
      refine G_val (V_gtr rfl rfl rfl) rfl rfl (.yes rfl rfl rfl rfl) ?_
      refine G_val (V_pick_f rfl rfl rfl) rfl rfl (.none rfl) ?_
      refine G_end (X_then ?_)
      refine G_cond_f rfl (decide_eq_false (by omega)) ?_
      refine G_skip (X_then (G_seq (G_region ?_)))
      refine G_val (V_loadA rfl rfl (Cells.own (.head _)) rfl) rfl rfl (.none rfl) ?_
      refine G_call (k := 18) (.mk rfl rfl rfl rfl) rfl rfl (.none rfl) (OwnGrammar_call _ _ _ _ (by assumption) (by assumption)) ?_
      rintro r1 E2 L3 hE4 ⟨Z5, rfl⟩
      replace hr := hr.mono hE4
      replace hg0 := hg0.mono hE4
      replace ht := ht.mono hE4
      replace hn := hn.mono hE4
      replace hps := hps.mono hE4
      refine G_val (V_move rfl rfl) rfl rfl (.none rfl) ?_
      refine G_call (k := 32) (.mk rfl rfl rfl rfl) rfl rfl (.none rfl) (OwnInts_call _ _ _ _ _ (by assumption) (by omega)) ?_
      rintro r6 E7 L8 hE9 ⟨z10, ⟨z11, ⟨rfl, ⟨Z12, rfl⟩⟩⟩⟩
      replace Z5 := Z5.mono hE9
      replace hr := hr.mono hE9
      replace hg0 := hg0.mono hE9
      replace ht := ht.mono hE9
      replace hn := hn.mono hE9
      replace hps := hps.mono hE9
      (refine G_alloc rfl rfl rfl (.none rfl) ?_; intro b7)
      have hgr : GrE E7 r1 g := by assumption
      have hg1 := hgr
      obtain ⟨tp', tc', np', nc', pp', pc', rfl, _⟩ := hgr
      have n1 : (okL g (yieldsM g)).length ≤ 8 := okL_small yieldsM_len
      have n2 : (okL g (reachM g)).length ≤ 8 := okL_small reachM_len
      have n3 : (okL g (nullM g)).length ≤ 8 := okL_small nullM_len
      have n4 : (okL g (lengthsM g)).length ≤ 8 := okL_small lengthsM_len
      have n5 : (okL g (treesM g)).length ≤ 8 := okL_small treesM_len
      have n6 : (belowL g m).length ≤ 8 := belowL_small g m
      refine G_storeA rfl rfl rfl rfl (by simp [Value.oneCell']) rfl (.none rfl) (.head _ _ _) rfl ?_
      refine G_val (V_assign rfl rfl) rfl rfl (.none rfl) ?_
      refine G_end (X_then (G_seq (G_region ?_)))
      refine G_val (V_loadA rfl rfl (Cells.own (.head _)) rfl) rfl rfl (.none rfl) ?_
      refine G_call (k := 33) (.mk rfl rfl rfl rfl) rfl rfl (.none rfl) (Yields_call _ _ _ _ (by assumption) (by assumption)) ?_
      rintro r1 E3 L4 hE5 ⟨z6, ⟨z7, ⟨rfl, ⟨Z8, rfl⟩⟩⟩⟩
      replace Z12 := Z12.mono hE5
      replace hr := hr.mono hE5
      replace hg0 := hg0.mono hE5
      replace ht := ht.mono hE5
      replace hn := hn.mono hE5
      replace hps := hps.mono hE5
      replace Z5 := Z5.mono hE5
      replace hg1 := hg1.mono hE5
      refine G_val (V_move rfl rfl) rfl rfl (.none rfl) ?_
      refine G_val (V_extract rfl rfl rfl) rfl rfl (.none rfl) ?_
      refine G_val (V_extract rfl rfl rfl) rfl rfl (.none rfl) ?_
      refine G_val (V_assign rfl rfl) rfl rfl (.none rfl) ?_
      refine G_val (V_assign rfl rfl) rfl rfl (.none rfl) ?_
      refine G_end (X_then (G_seq (G_region ?_)))
      refine G_val (V_loadA rfl rfl (Cells.own (.tail _ (.head _))) rfl) rfl rfl (.none rfl) ?_
      refine G_call (k := 34) (.mk rfl rfl rfl rfl) rfl rfl (.none rfl) (YieldsR_call _ _ _ _ (by assumption) (by assumption)) ?_
      rintro r9 E10 L11 hE12 ⟨z13, ⟨z14, ⟨rfl, ⟨Z15, rfl⟩⟩⟩⟩
      replace Z8 := Z8.mono hE12
      replace Z12 := Z12.mono hE12
      replace hr := hr.mono hE12
      replace hg0 := hg0.mono hE12
      replace ht := ht.mono hE12
      replace hn := hn.mono hE12
      replace hps := hps.mono hE12
      replace Z5 := Z5.mono hE12
      replace hg1 := hg1.mono hE12
      refine G_val (V_move rfl rfl) rfl rfl (.none rfl) ?_
      refine G_val (V_extract rfl rfl rfl) rfl rfl (.none rfl) ?_
      refine G_val (V_extract rfl rfl rfl) rfl rfl (.none rfl) ?_
      refine G_val (V_assign rfl rfl) rfl rfl (.none rfl) ?_
      refine G_val (V_assign rfl rfl) rfl rfl (.none rfl) ?_
      refine G_end (X_then (G_seq (G_seq (G_region ?_))))
      refine G_val (V_move rfl rfl) rfl rfl (.none rfl) ?_
      refine G_val (V_move rfl rfl) rfl rfl (.none rfl) ?_
      refine G_callv (k := 35) (.mk rfl rfl rfl rfl) rfl rfl (.none rfl) (same_call _ _ _ _ _ _ _ _ _ _ (by assumption) (by assumption) (by omega) (by omega)) ?_
      refine G_val (V_not rfl rfl) rfl rfl (.none rfl) ?_
      refine G_val (V_move rfl rfl) rfl rfl (.none rfl) ?_
      refine G.bool_f 48 rfl (by simp [*]; done) ?_
      refine G_val (V_move rfl rfl) rfl rfl (.yes rfl rfl rfl rfl) ?_
      refine G_val (V_move rfl rfl) rfl rfl (.yes rfl rfl rfl rfl) ?_
      refine G_val (V_neq rfl rfl rfl) rfl rfl (.yes rfl rfl rfl rfl) ?_
      refine G_val (V_pick_f rfl rfl rfl) rfl rfl (.none rfl) ?_
      refine G_end (X_then ?_)
      refine G_cond_f rfl (decide_eq_false (by omega)) ?_
      refine G_skip (X_then (G_seq (G_region ?_)))
      refine G_val (V_loadA rfl rfl (Cells.own (.head _)) rfl) rfl rfl (.none rfl) ?_
      refine G_call (k := 36) (.mk rfl rfl rfl rfl) rfl rfl (.none rfl) (Reached_call _ _ _ _ (by assumption) (by assumption)) ?_
      rintro r16 E17 L18 hE19 ⟨z20, ⟨z21, ⟨rfl, ⟨Z22, rfl⟩⟩⟩⟩
      replace Z15 := Z15.mono hE19
      replace Z8 := Z8.mono hE19
      replace Z12 := Z12.mono hE19
      replace hr := hr.mono hE19
      replace hg0 := hg0.mono hE19
      replace ht := ht.mono hE19
      replace hn := hn.mono hE19
      replace hps := hps.mono hE19
      replace Z5 := Z5.mono hE19
      replace hg1 := hg1.mono hE19
      refine G_val (V_move rfl rfl) rfl rfl (.none rfl) ?_
      refine G_val (V_extract rfl rfl rfl) rfl rfl (.none rfl) ?_
      refine G_val (V_extract rfl rfl rfl) rfl rfl (.none rfl) ?_
      refine G_val (V_assign rfl rfl) rfl rfl (.none rfl) ?_
      refine G_val (V_assign rfl rfl) rfl rfl (.none rfl) ?_
      refine G_end (X_then (G_seq (G_region ?_)))
      refine G_val (V_loadA rfl rfl (Cells.own (.tail _ (.head _))) rfl) rfl rfl (.none rfl) ?_
      refine G_call (k := 37) (.mk rfl rfl rfl rfl) rfl rfl (.none rfl) (ReachedR_call _ _ _ _ (by assumption) (by assumption)) ?_
      rintro r23 E24 L25 hE26 ⟨z27, ⟨z28, ⟨rfl, ⟨Z29, rfl⟩⟩⟩⟩
      replace Z22 := Z22.mono hE26
      replace Z15 := Z15.mono hE26
      replace Z8 := Z8.mono hE26
      replace Z12 := Z12.mono hE26
      replace hr := hr.mono hE26
      replace hg0 := hg0.mono hE26
      replace ht := ht.mono hE26
      replace hn := hn.mono hE26
      replace hps := hps.mono hE26
      replace Z5 := Z5.mono hE26
      replace hg1 := hg1.mono hE26
      refine G_val (V_move rfl rfl) rfl rfl (.none rfl) ?_
      refine G_val (V_extract rfl rfl rfl) rfl rfl (.none rfl) ?_
      refine G_val (V_extract rfl rfl rfl) rfl rfl (.none rfl) ?_
      refine G_val (V_assign rfl rfl) rfl rfl (.none rfl) ?_
      refine G_val (V_assign rfl rfl) rfl rfl (.none rfl) ?_
      refine G_end (X_then (G_seq (G_seq (G_region ?_))))
      refine G_val (V_move rfl rfl) rfl rfl (.none rfl) ?_
      refine G_val (V_move rfl rfl) rfl rfl (.none rfl) ?_
      refine G_callv (k := 35) (.mk rfl rfl rfl rfl) rfl rfl (.none rfl) (same_call _ _ _ _ _ _ _ _ _ _ (by assumption) (by assumption) (by omega) (by omega)) ?_
      refine G_val (V_not rfl rfl) rfl rfl (.none rfl) ?_
      refine G_val (V_move rfl rfl) rfl rfl (.none rfl) ?_
      refine G.bool_f 67 rfl (by simp [*]; done) ?_
      refine G_val (V_move rfl rfl) rfl rfl (.yes rfl rfl rfl rfl) ?_
      refine G_val (V_move rfl rfl) rfl rfl (.yes rfl rfl rfl rfl) ?_
      refine G_val (V_neq rfl rfl rfl) rfl rfl (.yes rfl rfl rfl rfl) ?_
      refine G_val (V_pick_f rfl rfl rfl) rfl rfl (.none rfl) ?_
      refine G_end (X_then ?_)
      refine G_cond_f rfl (decide_eq_false (by omega)) ?_
      refine G_skip (X_then (G_seq (G_region ?_)))
      refine G_val (V_loadA rfl rfl (Cells.own (.head _)) rfl) rfl rfl (.none rfl) ?_
      refine G_call (k := 38) (.mk rfl rfl rfl rfl) rfl rfl (.none rfl) (Nullable_call _ _ _ _ (by assumption) (by assumption)) ?_
      rintro r30 E31 L32 hE33 ⟨z34, ⟨z35, ⟨rfl, ⟨Z36, rfl⟩⟩⟩⟩
      replace Z29 := Z29.mono hE33
      replace Z22 := Z22.mono hE33
      replace Z15 := Z15.mono hE33
      replace Z8 := Z8.mono hE33
      replace Z12 := Z12.mono hE33
      replace hr := hr.mono hE33
      replace hg0 := hg0.mono hE33
      replace ht := ht.mono hE33
      replace hn := hn.mono hE33
      replace hps := hps.mono hE33
      replace Z5 := Z5.mono hE33
      replace hg1 := hg1.mono hE33
      refine G_val (V_move rfl rfl) rfl rfl (.none rfl) ?_
      refine G_val (V_extract rfl rfl rfl) rfl rfl (.none rfl) ?_
      refine G_val (V_extract rfl rfl rfl) rfl rfl (.none rfl) ?_
      refine G_val (V_assign rfl rfl) rfl rfl (.none rfl) ?_
      refine G_val (V_assign rfl rfl) rfl rfl (.none rfl) ?_
      refine G_end (X_then (G_seq (G_region ?_)))
      refine G_val (V_loadA rfl rfl (Cells.own (.tail _ (.head _))) rfl) rfl rfl (.none rfl) ?_
      refine G_call (k := 39) (.mk rfl rfl rfl rfl) rfl rfl (.none rfl) (NullableR_call _ _ _ _ (by assumption) (by assumption)) ?_
      rintro r37 E38 L39 hE40 ⟨z41, ⟨z42, ⟨rfl, ⟨Z43, rfl⟩⟩⟩⟩
      replace Z36 := Z36.mono hE40
      replace Z29 := Z29.mono hE40
      replace Z22 := Z22.mono hE40
      replace Z15 := Z15.mono hE40
      replace Z8 := Z8.mono hE40
      replace Z12 := Z12.mono hE40
      replace hr := hr.mono hE40
      replace hg0 := hg0.mono hE40
      replace ht := ht.mono hE40
      replace hn := hn.mono hE40
      replace hps := hps.mono hE40
      replace Z5 := Z5.mono hE40
      replace hg1 := hg1.mono hE40
      refine G_val (V_move rfl rfl) rfl rfl (.none rfl) ?_
      refine G_val (V_extract rfl rfl rfl) rfl rfl (.none rfl) ?_
      refine G_val (V_extract rfl rfl rfl) rfl rfl (.none rfl) ?_
      refine G_val (V_assign rfl rfl) rfl rfl (.none rfl) ?_
      refine G_val (V_assign rfl rfl) rfl rfl (.none rfl) ?_
      refine G_end (X_then (G_seq (G_seq (G_region ?_))))
      refine G_val (V_move rfl rfl) rfl rfl (.none rfl) ?_
      refine G_val (V_move rfl rfl) rfl rfl (.none rfl) ?_
      refine G_callv (k := 35) (.mk rfl rfl rfl rfl) rfl rfl (.none rfl) (same_call _ _ _ _ _ _ _ _ _ _ (by assumption) (by assumption) (by omega) (by omega)) ?_
      refine G_val (V_not rfl rfl) rfl rfl (.none rfl) ?_
      refine G_val (V_move rfl rfl) rfl rfl (.none rfl) ?_
      refine G.bool_f 86 rfl (by simp [*]; done) ?_
      refine G_val (V_move rfl rfl) rfl rfl (.yes rfl rfl rfl rfl) ?_
      refine G_val (V_move rfl rfl) rfl rfl (.yes rfl rfl rfl rfl) ?_
      refine G_val (V_neq rfl rfl rfl) rfl rfl (.yes rfl rfl rfl rfl) ?_
      refine G_val (V_pick_f rfl rfl rfl) rfl rfl (.none rfl) ?_
      refine G_end (X_then ?_)
      refine G_cond_f rfl (decide_eq_false (by omega)) ?_
      refine G_skip (X_then (G_seq (G_region ?_)))
      refine G_val (V_loadA rfl rfl (Cells.own (.head _)) rfl) rfl rfl (.none rfl) ?_
      refine G_call (k := 40) (.mk rfl rfl rfl rfl) rfl rfl (.none rfl) (Lengths_call _ _ _ _ (by assumption) (by assumption)) ?_
      rintro r44 E45 L46 hE47 ⟨z48, ⟨z49, ⟨rfl, ⟨Z50, rfl⟩⟩⟩⟩
      replace Z43 := Z43.mono hE47
      replace Z36 := Z36.mono hE47
      replace Z29 := Z29.mono hE47
      replace Z22 := Z22.mono hE47
      replace Z15 := Z15.mono hE47
      replace Z8 := Z8.mono hE47
      replace Z12 := Z12.mono hE47
      replace hr := hr.mono hE47
      replace hg0 := hg0.mono hE47
      replace ht := ht.mono hE47
      replace hn := hn.mono hE47
      replace hps := hps.mono hE47
      replace Z5 := Z5.mono hE47
      replace hg1 := hg1.mono hE47
      refine G_val (V_move rfl rfl) rfl rfl (.none rfl) ?_
      refine G_val (V_extract rfl rfl rfl) rfl rfl (.none rfl) ?_
      refine G_val (V_extract rfl rfl rfl) rfl rfl (.none rfl) ?_
      refine G_val (V_assign rfl rfl) rfl rfl (.none rfl) ?_
      refine G_val (V_assign rfl rfl) rfl rfl (.none rfl) ?_
      refine G_end (X_then (G_seq (G_region ?_)))
      refine G_val (V_loadA rfl rfl (Cells.own (.tail _ (.head _))) rfl) rfl rfl (.none rfl) ?_
      refine G_call (k := 41) (.mk rfl rfl rfl rfl) rfl rfl (.none rfl) (LengthsR_call _ _ _ _ (by assumption) (by assumption)) ?_
      rintro r51 E52 L53 hE54 ⟨z55, ⟨z56, ⟨rfl, ⟨Z57, rfl⟩⟩⟩⟩
      replace Z50 := Z50.mono hE54
      replace Z43 := Z43.mono hE54
      replace Z36 := Z36.mono hE54
      replace Z29 := Z29.mono hE54
      replace Z22 := Z22.mono hE54
      replace Z15 := Z15.mono hE54
      replace Z8 := Z8.mono hE54
      replace Z12 := Z12.mono hE54
      replace hr := hr.mono hE54
      replace hg0 := hg0.mono hE54
      replace ht := ht.mono hE54
      replace hn := hn.mono hE54
      replace hps := hps.mono hE54
      replace Z5 := Z5.mono hE54
      replace hg1 := hg1.mono hE54
      refine G_val (V_move rfl rfl) rfl rfl (.none rfl) ?_
      refine G_val (V_extract rfl rfl rfl) rfl rfl (.none rfl) ?_
      refine G_val (V_extract rfl rfl rfl) rfl rfl (.none rfl) ?_
      refine G_val (V_assign rfl rfl) rfl rfl (.none rfl) ?_
      refine G_val (V_assign rfl rfl) rfl rfl (.none rfl) ?_
      refine G_end (X_then (G_seq (G_seq (G_region ?_))))
      refine G_val (V_move rfl rfl) rfl rfl (.none rfl) ?_
      refine G_val (V_move rfl rfl) rfl rfl (.none rfl) ?_
      refine G_callv (k := 27) (.mk rfl rfl rfl rfl) rfl rfl (.none rfl) (SameInts_call' _ _ _ _ _ _ _ _ _ _ (by assumption) (by assumption) (by omega) (by omega)) ?_
      refine G_val (V_not rfl rfl) rfl rfl (.none rfl) ?_
      refine G_val (V_move rfl rfl) rfl rfl (.none rfl) ?_
      refine G.bool_f 105 rfl (by simp [*]; done) ?_
      refine G_val (V_move rfl rfl) rfl rfl (.yes rfl rfl rfl rfl) ?_
      refine G_val (V_move rfl rfl) rfl rfl (.yes rfl rfl rfl rfl) ?_
      refine G_val (V_neq rfl rfl rfl) rfl rfl (.yes rfl rfl rfl rfl) ?_
      refine G_val (V_pick_f rfl rfl rfl) rfl rfl (.none rfl) ?_
      refine G_end (X_then ?_)
      refine G_cond_f rfl (decide_eq_false (by omega)) ?_
      refine G_skip (X_then (G_seq (G_region ?_)))
      refine G_val (V_loadA rfl rfl (Cells.own (.head _)) rfl) rfl rfl (.none rfl) ?_
      refine G_call (k := 42) (.mk rfl rfl rfl rfl) rfl rfl (.none rfl) (Trees_call _ _ _ _ (by assumption) (by assumption)) ?_
      rintro r58 E59 L60 hE61 ⟨z62, ⟨z63, ⟨rfl, ⟨Z64, rfl⟩⟩⟩⟩
      replace Z57 := Z57.mono hE61
      replace Z50 := Z50.mono hE61
      replace Z43 := Z43.mono hE61
      replace Z36 := Z36.mono hE61
      replace Z29 := Z29.mono hE61
      replace Z22 := Z22.mono hE61
      replace Z15 := Z15.mono hE61
      replace Z8 := Z8.mono hE61
      replace Z12 := Z12.mono hE61
      replace hr := hr.mono hE61
      replace hg0 := hg0.mono hE61
      replace ht := ht.mono hE61
      replace hn := hn.mono hE61
      replace hps := hps.mono hE61
      replace Z5 := Z5.mono hE61
      replace hg1 := hg1.mono hE61
      refine G_val (V_move rfl rfl) rfl rfl (.none rfl) ?_
      refine G_val (V_extract rfl rfl rfl) rfl rfl (.none rfl) ?_
      refine G_val (V_extract rfl rfl rfl) rfl rfl (.none rfl) ?_
      refine G_val (V_assign rfl rfl) rfl rfl (.none rfl) ?_
      refine G_val (V_assign rfl rfl) rfl rfl (.none rfl) ?_
      refine G_end (X_then (G_seq (G_region ?_)))
      refine G_val (V_loadA rfl rfl (Cells.own (.tail _ (.head _))) rfl) rfl rfl (.none rfl) ?_
      refine G_call (k := 43) (.mk rfl rfl rfl rfl) rfl rfl (.none rfl) (TreesR_call _ _ _ _ (by assumption) (by assumption)) ?_
      rintro r65 E66 L67 hE68 ⟨z69, ⟨z70, ⟨rfl, ⟨Z71, rfl⟩⟩⟩⟩
      replace Z64 := Z64.mono hE68
      replace Z57 := Z57.mono hE68
      replace Z50 := Z50.mono hE68
      replace Z43 := Z43.mono hE68
      replace Z36 := Z36.mono hE68
      replace Z29 := Z29.mono hE68
      replace Z22 := Z22.mono hE68
      replace Z15 := Z15.mono hE68
      replace Z8 := Z8.mono hE68
      replace Z12 := Z12.mono hE68
      replace hr := hr.mono hE68
      replace hg0 := hg0.mono hE68
      replace ht := ht.mono hE68
      replace hn := hn.mono hE68
      replace hps := hps.mono hE68
      replace Z5 := Z5.mono hE68
      replace hg1 := hg1.mono hE68
      refine G_val (V_move rfl rfl) rfl rfl (.none rfl) ?_
      refine G_val (V_extract rfl rfl rfl) rfl rfl (.none rfl) ?_
      refine G_val (V_extract rfl rfl rfl) rfl rfl (.none rfl) ?_
      refine G_val (V_assign rfl rfl) rfl rfl (.none rfl) ?_
      refine G_val (V_assign rfl rfl) rfl rfl (.none rfl) ?_
      refine G_end (X_then (G_seq (G_seq (G_region ?_))))
      refine G_val (V_move rfl rfl) rfl rfl (.none rfl) ?_
      refine G_val (V_move rfl rfl) rfl rfl (.none rfl) ?_
      refine G_callv (k := 27) (.mk rfl rfl rfl rfl) rfl rfl (.none rfl) (SameInts_call' _ _ _ _ _ _ _ _ _ _ (by assumption) (by assumption) (by omega) (by omega)) ?_
      refine G_val (V_not rfl rfl) rfl rfl (.none rfl) ?_
      refine G_val (V_move rfl rfl) rfl rfl (.none rfl) ?_
      refine G.bool_f 124 rfl (by simp [*]; done) ?_
      refine G_val (V_move rfl rfl) rfl rfl (.yes rfl rfl rfl rfl) ?_
      refine G_val (V_move rfl rfl) rfl rfl (.yes rfl rfl rfl rfl) ?_
      refine G_val (V_neq rfl rfl rfl) rfl rfl (.yes rfl rfl rfl rfl) ?_
      refine G_val (V_pick_f rfl rfl rfl) rfl rfl (.none rfl) ?_
      refine G_end (X_then ?_)
      refine G_cond_f rfl (decide_eq_false (by omega)) ?_
      refine G_skip (X_then (G_seq (G_region ?_)))
      refine G_val (V_loadA rfl rfl (Cells.own (.head _)) rfl) rfl rfl (.none rfl) ?_
      refine G_callv (k := 44) (.mk rfl rfl rfl rfl) rfl rfl (.none rfl) (Reduced_call _ _ _ _ (by assumption) (by assumption)) ?_
      refine G_val (V_move rfl rfl) rfl rfl (.none rfl) ?_
      refine G_val (V_extract rfl rfl rfl) rfl rfl (.none rfl) ?_
      refine G_val (V_extract rfl rfl rfl) rfl rfl (.none rfl) ?_
      refine G_val (V_assign rfl rfl) rfl rfl (.none rfl) ?_
      refine G_val (V_assign rfl rfl) rfl rfl (.none rfl) ?_
      refine G_end (X_then (G_seq (G_region ?_)))
      refine G_val (V_loadA rfl rfl (Cells.own (.tail _ (.head _))) rfl) rfl rfl (.none rfl) ?_
      refine G_callv (k := 45) (.mk rfl rfl rfl rfl) rfl rfl (.none rfl) (ReducedR_call _ _ _ _ (by assumption) (by assumption)) ?_
      refine G_val (V_move rfl rfl) rfl rfl (.none rfl) ?_
      refine G_val (V_extract rfl rfl rfl) rfl rfl (.none rfl) ?_
      refine G_val (V_extract rfl rfl rfl) rfl rfl (.none rfl) ?_
      refine G_val (V_assign rfl rfl) rfl rfl (.none rfl) ?_
      refine G_val (V_assign rfl rfl) rfl rfl (.none rfl) ?_
      refine G_end (X_then (G_seq (G_seq (G_region ?_))))
      refine G_val (V_move rfl rfl) rfl rfl (.none rfl) ?_
      refine G_val (V_move rfl rfl) rfl rfl (.none rfl) ?_
      refine G_val (V_neq rfl rfl rfl) rfl rfl (.none rfl) ?_
      refine G_val (V_move rfl rfl) rfl rfl (.none rfl) ?_
      refine G.bool_f 142 rfl (decide_eq_false (by omega)) ?_
      refine G_val (V_move rfl rfl) rfl rfl (.yes rfl rfl rfl rfl) ?_
      refine G_val (V_move rfl rfl) rfl rfl (.yes rfl rfl rfl rfl) ?_
      refine G_val (V_neq rfl rfl rfl) rfl rfl (.yes rfl rfl rfl rfl) ?_
      refine G_val (V_pick_f rfl rfl rfl) rfl rfl (.none rfl) ?_
      refine G_end (X_then ?_)
      refine G_cond_f rfl (decide_eq_false (by omega)) ?_
      refine G_skip (X_then (G_seq (G_region ?_)))
      refine G_val (V_loadA rfl rfl (Cells.own (.head _)) rfl) rfl rfl (.none rfl) ?_
      refine G_val (V_move rfl rfl) rfl rfl (.none rfl) ?_
      refine G_callv (k := 46) (.mk rfl rfl rfl rfl) rfl rfl (.none rfl) (Empty_call _ _ _ _ (by assumption) (by assumption) _ _ _ (by assumption) (by omega) (by assumption)) ?_
      refine G_val (V_move rfl rfl) rfl rfl (.none rfl) ?_
      refine G_val (V_extract rfl rfl rfl) rfl rfl (.none rfl) ?_
      refine G_val (V_extract rfl rfl rfl) rfl rfl (.none rfl) ?_
      refine G_val (V_assign rfl rfl) rfl rfl (.none rfl) ?_
      refine G_val (V_assign rfl rfl) rfl rfl (.none rfl) ?_
      refine G_end (X_then (G_seq (G_region ?_)))
      refine G_val (V_loadA rfl rfl (Cells.own (.tail _ (.head _))) rfl) rfl rfl (.none rfl) ?_
      refine G_val (V_move rfl rfl) rfl rfl (.none rfl) ?_
      refine G_callv (k := 47) (.mk rfl rfl rfl rfl) rfl rfl (.none rfl) (EmptyR_call _ _ _ _ (by assumption) (by assumption) _ _ _ (by assumption) (by omega) (by assumption)) ?_
      refine G_val (V_move rfl rfl) rfl rfl (.none rfl) ?_
      refine G_val (V_extract rfl rfl rfl) rfl rfl (.none rfl) ?_
      refine G_val (V_extract rfl rfl rfl) rfl rfl (.none rfl) ?_
      refine G_val (V_assign rfl rfl) rfl rfl (.none rfl) ?_
      refine G_val (V_assign rfl rfl) rfl rfl (.none rfl) ?_
      refine G_end (X_then (G_seq (G_region ?_)))
      refine G_val (V_loadA rfl rfl (Cells.own (.head _)) rfl) rfl rfl (.none rfl) ?_
      refine G_val (V_move rfl rfl) rfl rfl (.none rfl) ?_
      refine G_call (k := 48) (.mk rfl rfl rfl rfl) rfl rfl (.none rfl) (Below_call _ _ _ _ (by assumption) (by assumption) _) ?_
      rintro r72 E73 L74 hE75 ⟨z76, ⟨z77, ⟨rfl, ⟨Z78, rfl⟩⟩⟩⟩
      replace Z71 := Z71.mono hE75
      replace Z64 := Z64.mono hE75
      replace Z57 := Z57.mono hE75
      replace Z50 := Z50.mono hE75
      replace Z43 := Z43.mono hE75
      replace Z36 := Z36.mono hE75
      replace Z29 := Z29.mono hE75
      replace Z22 := Z22.mono hE75
      replace Z15 := Z15.mono hE75
      replace Z8 := Z8.mono hE75
      replace Z12 := Z12.mono hE75
      replace hr := hr.mono hE75
      replace hg0 := hg0.mono hE75
      replace ht := ht.mono hE75
      replace hn := hn.mono hE75
      replace hps := hps.mono hE75
      replace Z5 := Z5.mono hE75
      replace hg1 := hg1.mono hE75
      refine G_val (V_move rfl rfl) rfl rfl (.none rfl) ?_
      refine G_val (V_extract rfl rfl rfl) rfl rfl (.none rfl) ?_
      refine G_val (V_extract rfl rfl rfl) rfl rfl (.none rfl) ?_
      refine G_val (V_assign rfl rfl) rfl rfl (.none rfl) ?_
      refine G_val (V_assign rfl rfl) rfl rfl (.none rfl) ?_
      refine G_end (X_then (G_seq (G_region ?_)))
      refine G_val (V_loadA rfl rfl (Cells.own (.tail _ (.head _))) rfl) rfl rfl (.none rfl) ?_
      refine G_val (V_move rfl rfl) rfl rfl (.none rfl) ?_
      refine G_call (k := 49) (.mk rfl rfl rfl rfl) rfl rfl (.none rfl) (BelowR_call _ _ _ _ (by assumption) (by assumption) _) ?_
      rintro r79 E80 L81 hE82 ⟨z83, ⟨z84, ⟨rfl, ⟨Z85, rfl⟩⟩⟩⟩
      replace Z78 := Z78.mono hE82
      replace Z71 := Z71.mono hE82
      replace Z64 := Z64.mono hE82
      replace Z57 := Z57.mono hE82
      replace Z50 := Z50.mono hE82
      replace Z43 := Z43.mono hE82
      replace Z36 := Z36.mono hE82
      replace Z29 := Z29.mono hE82
      replace Z22 := Z22.mono hE82
      replace Z15 := Z15.mono hE82
      replace Z8 := Z8.mono hE82
      replace Z12 := Z12.mono hE82
      replace hr := hr.mono hE82
      replace hg0 := hg0.mono hE82
      replace ht := ht.mono hE82
      replace hn := hn.mono hE82
      replace hps := hps.mono hE82
      replace Z5 := Z5.mono hE82
      replace hg1 := hg1.mono hE82
      refine G_val (V_move rfl rfl) rfl rfl (.none rfl) ?_
      refine G_val (V_extract rfl rfl rfl) rfl rfl (.none rfl) ?_
      refine G_val (V_extract rfl rfl rfl) rfl rfl (.none rfl) ?_
      refine G_val (V_assign rfl rfl) rfl rfl (.none rfl) ?_
      refine G_val (V_assign rfl rfl) rfl rfl (.none rfl) ?_
      refine G_end (X_then (G_seq (G_region ?_)))
      refine G_val (V_move rfl rfl) rfl rfl (.none rfl) ?_
      refine G_val (V_move rfl rfl) rfl rfl (.none rfl) ?_
      refine G_val (V_beql rfl rfl rfl) rfl rfl (.none rfl) ?_
      refine G_val (V_move rfl rfl) rfl rfl (.none rfl) ?_
      refine G.bool_t 174 rfl (by simp [*]; done) ?_
      refine G_val (V_move rfl rfl) rfl rfl (.yes rfl rfl rfl rfl) ?_
      refine G_val (V_move rfl rfl) rfl rfl (.yes rfl rfl rfl rfl) ?_
      refine G_val (V_eql rfl rfl rfl) rfl rfl (.yes rfl rfl rfl rfl) ?_
      refine G_val (V_pick_t rfl rfl rfl) rfl rfl (.none rfl) ?_
      refine G_val (V_move rfl rfl) rfl rfl (.none rfl) ?_
      refine G.bool_t 179 rfl (decide_eq_true (by omega)) ?_
      refine G_val (V_move rfl rfl) rfl rfl (.yes rfl rfl rfl rfl) ?_
      refine G_val (V_move rfl rfl) rfl rfl (.yes rfl rfl rfl rfl) ?_
      refine G_callv (k := 35) (.mk rfl rfl rfl rfl) rfl rfl (.yes rfl rfl rfl rfl) (same_call _ _ _ _ _ _ _ _ _ _ (by assumption) (by assumption) (by omega) (by omega)) ?_
      refine G_val (V_pick_t rfl rfl rfl) rfl rfl (.none rfl) ?_
      refine G_val (V_move rfl rfl) rfl rfl (.none rfl) ?_
      refine G.bool_t 184 rfl (by simp [*]; done) ?_
      refine G_val (V_move rfl rfl) rfl rfl (.yes rfl rfl rfl rfl) ?_
      refine G_val (V_move rfl rfl) rfl rfl (.yes rfl rfl rfl rfl) ?_
      refine G_val (V_eql rfl rfl rfl) rfl rfl (.yes rfl rfl rfl rfl) ?_
      refine G_val (V_pick_t rfl rfl rfl) rfl rfl (.none rfl) ?_
      refine G_val (V_move rfl rfl) rfl rfl (.none rfl) ?_
      refine G.bool_t 189 rfl (decide_eq_true (by omega)) ?_
      refine G_val (V_loadA rfl rfl (Cells.own (.head _)) rfl) rfl rfl (.yes rfl rfl rfl rfl) ?_
      refine G_val (V_loadA rfl rfl (Cells.own (.tail _ (.head _))) rfl) rfl rfl (.yes rfl rfl rfl rfl) ?_
      refine G_callv (k := 30) (.mk rfl rfl rfl rfl) rfl rfl (.yes rfl rfl rfl rfl) (SameGrammar_call _ _ _ _ _ (by assumption) (by assumption) (by assumption)) ?_
      refine G_val (V_pick_t rfl rfl rfl) rfl rfl (.none rfl) ?_
      refine G_val (V_move rfl rfl) rfl rfl (.none rfl) ?_
      refine G_val (V_move rfl rfl) rfl rfl (.yes rfl rfl rfl rfl) ?_
      refine G_val (V_move rfl rfl) rfl rfl (.yes rfl rfl rfl rfl) ?_
      refine G_callv (k := 27) (.mk rfl rfl rfl rfl) rfl rfl (.yes rfl rfl rfl rfl) (SameInts_call' _ _ _ _ _ _ _ _ _ _ (by assumption) (by assumption) (by omega) (by omega)) ?_
      refine G_val (V_pick_t rfl rfl rfl) rfl rfl (.none rfl) ?_
      refine G_val (V_move rfl rfl) rfl rfl (.none rfl) ?_
      refine G.bool_t 199 rfl (by simp [*]; done) ?_
      refine G_callv (k := 31) (.mk rfl rfl rfl rfl) rfl rfl (.yes rfl rfl rfl rfl) (awake_call _ _) ?_
      refine G_val (V_pick_t rfl rfl rfl) rfl rfl (.none rfl) ?_
      refine G_val (V_assign rfl rfl) rfl rfl (.none rfl) ?_
      refine G_end (X_then (G_ret ?_))
      refine G_leaveS (.drop _ (.drop _ (.nil _))) (by exact (.cons (.tmp rfl) (.nil))) rfl ?_ ?_
      · exact (((((((((((((hE4.trans hE9).trans hE5).trans hE12).trans hE19).trans hE26).trans hE33).trans hE40).trans hE47).trans hE54).trans hE61).trans hE68).trans hE75).trans hE82)
      exact ⟨(by kernel_rfl), rfl⟩
end
end Go.Proofs.Ytaoinojdijbhaaa
namespace Go.Proofs.Ytaoinojdijbhaaa
open Go.RowKit Go.WideShapes Go.ChangeShapes
variable {H : Type} {enc : TypeId × Value → H} {P : Program} {W : World} {sp : Nat → Bool} {held : Bool}
theorem open_textsC {t e : TypeId} {fuel : Nat} {cs : List Value} {x : DataW H × List MemPlace} (ht : P.underlying t = some (.slice e)) (he : P.underlying e = some .string) (hc : P.cellsOf e = 1) (hd : DataW.trod enc P W 0 sp held fuel t cs = some x) :
    ∃ a c, ∃ xs : List (List UInt8), cs = [.slice a xs.length c] ∧ SlE (Env.of W) 1 a xs.length (xs.map fun s => .string (S s)) ∧ (∀ s, s ∈ xs → s.length ≤ 9223372036854775807) ∧ xs.length ≤ 9223372036854775807 ∧ xs.length ≤ c := by
  obtain ⟨a, c, xs, h1, h2, h3, h4, h5⟩ := open_sl (fun s : List UInt8 => [.string (S s)]) (fun s => s.length ≤ 9223372036854775807) ht (by omega)
    (fun m cs y h => by obtain ⟨s, h1, _, h3⟩ := DataW.trod_string he h; exact ⟨s.data.toList, h1, by have : s.data.toList.length = s.size := rfl; simp only [maxLen] at h3; omega⟩) (fun _ => hc.symm) hd
  rw [hc, show (xs.flatMap fun s : List UInt8 => [Value.string (S s)]) = xs.map fun s => .string (S s) from flatMap_one _ _] at h2
  exact ⟨a, c, xs, h1, h2, h3, by simp only [maxLen] at h5; omega, h4⟩
theorem open_prods {t e u v : TypeId} {fs : Array Field} {fuel : Nat} {cs : List Value} {x : DataW H × List MemPlace} (ht : P.underlying t = some (.slice e)) (he : P.underlying e = some (.struct fs)) (hu : P.underlying u = some (.int .i64)) (hv : P.underlying v = some (.slice u))
    (hf0 : (fs[0]?).map (fun f => (f.type, f.offset)) = some (u, 0)) (hf1 : (fs[1]?).map (fun f => (f.type, f.offset)) = some (v, 1)) (hc : P.cellsOf e = 2) (hcu : P.cellsOf u = 1) (hcv : P.cellsOf v = 1) (hd : DataW.trod enc P W 0 sp held fuel t cs = some x) :
    ∃ a c, ∃ xs : List Row, cs = [.slice a xs.length c] ∧ SlE (Env.of W) 2 a xs.length (prows xs) ∧ RowsE (Env.of W) xs ∧ (∀ r, r ∈ xs → (-9223372036854775808 ≤ r.2.2.1 ∧ r.2.2.1 ≤ 9223372036854775807) ∧ (∀ n, n ∈ r.2.2.2 → -9223372036854775808 ≤ n ∧ n ≤ 9223372036854775807) ∧ r.2.2.2.length ≤ 9223372036854775807) ∧ xs.length ≤ 9223372036854775807 ∧ xs.length ≤ c := by
  obtain ⟨a, c, xs, h1, h2, h3, h4, h5⟩ := open_sl prow (fun r => SlE (Env.of W) 1 r.1 r.2.2.2.length (i64s r.2.2.2) ∧ (-9223372036854775808 ≤ r.2.2.1 ∧ r.2.2.1 ≤ 9223372036854775807) ∧ (∀ n, n ∈ r.2.2.2 → -9223372036854775808 ≤ n ∧ n ≤ 9223372036854775807) ∧ r.2.2.2.length ≤ 9223372036854775807) ht (by omega)
    (fun m cs y h => by
      obtain ⟨_, _, _, _, hl, _, _⟩ := DataW.trod_struct he h
      rw [hc] at hl
      obtain ⟨v0, r0, rfl, hr0⟩ := list_cons hl
      obtain ⟨v1, r1, rfl, hr1⟩ := list_cons hr0
      obtain rfl := List.eq_nil_of_length_eq_zero hr1
      obtain ⟨n0, y0, hd0⟩ := struct_field he h 0 u 0 1 hf0 hcu
      obtain ⟨n1, y1, hd1⟩ := struct_field he h 1 v 1 1 hf1 hcv
      obtain ⟨l, e0, _, w0⟩ := DataW.trod_int hu hd0
      obtain ⟨rp, rc, r, e1, hr1, hr2, hr3, hr4⟩ := open_sl (fun n : Int => [.int .i64 n]) (fun n => (Lit.int .i64 n).wf = true) hv (by omega)
        (fun m cs y h => by obtain ⟨n, h1, _, h3⟩ := DataW.trod_int hu h; exact ⟨n, h1, h3⟩) (fun _ => hcu.symm) hd1
      rw [hcu, show (r.flatMap fun n : Int => [Value.int .i64 n]) = i64s r from flatMap_one _ _] at hr1
      refine ⟨(rp, rc, (l, r)), ?_, hr1, wf_i64 w0, fun n hn => wf_i64 (hr2 n hn), by simp only [maxLen] at hr4; show r.length ≤ _; omega⟩
      have e0' : v0 = .int .i64 l := by simpa using e0
      have e1' : v1 = .slice rp r.length rc := by simpa using e1
      rw [e0', e1']; rfl) (fun _ => hc.symm) hd
  rw [hc] at h2
  exact ⟨a, c, xs, h1, h2, fun r hr => (h3 r hr).1, fun r hr => (h3 r hr).2, by simp only [maxLen] at h5; omega, h4⟩
theorem GrE.arg {E : Env} {k start : Int} {sep : List UInt8} {toks names : List (List UInt8)} {rows : List Row} {tp np pp : Option Addr} {tc nc pc : Nat} (h1 : SlE E 1 tp toks.length (strs toks)) (h3 : SlE E 1 np names.length (strs names)) (h5 : SlE E 2 pp rows.length (prows rows)) (r5 : RowsE E rows) (g1 : toks.length ≤ tc) (g3 : names.length ≤ nc) (g5 : rows.length ≤ pc) :
    GrE E (.agg #[.int .i64 k, .slice tp toks.length tc, .string (S sep), .slice np names.length nc, .int .i64 start, .slice pp rows.length pc]) ⟨k, toks, sep, names, start, rows.map (·.2.2)⟩ :=
  ⟨tp, tc, np, nc, pp, pc, by rw [List.length_map], h1, h3, ⟨rows, rfl, by rw [List.length_map]; exact h5, r5⟩, g1, g3, by rw [List.length_map]; exact g5⟩
end Go.Proofs.Ytaoinojdijbhaaa
