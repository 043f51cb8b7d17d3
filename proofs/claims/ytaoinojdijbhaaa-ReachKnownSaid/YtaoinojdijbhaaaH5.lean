import Derived.Test.YtaoinojdijbhaaaSep19
import Derived.Test.YtaoinojdijbhaaaSep20
import Derived.Test.YtaoinojdijbhaaaSep21
import Derived.Test.YtaoinojdijbhaaaSep22
import Derived.Test.YtaoinojdijbhaaaSep23
import Derived.Test.YtaoinojdijbhaaaSep24
import Derived.Test.YtaoinojdijbhaaaInst
import Derived.Test.YtaoinojdijbhaaaH4
set_option linter.unusedSimpArgs false
set_option linter.unusedVariables false
set_option maxHeartbeats 2000000
set_option maxRecDepth 20000
namespace Go.Proofs.Ytaoinojdijbhaaa
open Go.RowKit
section
variable (E : Env) (L : List Res)
def shortB (g : Gr) : Bool := decide (g.toks.length = 0) || decide (g.names.length = 0)
def smallsB (g : Gr) : Bool := (g.toks ++ [g.sep]).all smallB && g.names.all capB
theorem Light.small {g : Gr} (h : Light g) : ∀ s, s ∈ g.toks ++ [g.sep] → s.length ≤ 40 := by
  intro s hs
  rcases List.mem_append.1 hs with hs | hs
  · exact h.ts s hs
  · rw [List.mem_singleton.1 hs]; exact h.sep
theorem named_call (gv : Value) (g : Gr) (hg : GrE E gv g) (hl : Light g) : CallV Try.prog 99 #[gv] E L (.int .i64 (if shortB g = true then 5 else if smallsB g = true then 0 else 12)) := by
  obtain ⟨tp, tc, np, nc, pp, pc, rfl, ht, hn, ⟨rows, hrows, hps, hre⟩, k1, k2, k3⟩ := hg
  have hlen : g.prods.length = rows.length := by rw [← hrows]; simp
  have q1 := hl.t; have q2 := hl.n; have q3 := hl.p
  refine CallS.toV (CallS.intro (l := [_]) _ Try.func99 rfl Try.ntmps99 rfl ?_)
  by_cases h1 : g.toks.length = 0 ∨ g.names.length = 0
  · have : shortB g = true := by simp only [shortB, Bool.or_eq_true, decide_eq_true_eq]; exact h1
    rw [if_pos this]
    refine G_seq (G_region ?_)
    (refine G_boxA rfl rfl rfl rfl (.none rfl) ?_; intro b1)
    refine G_val (V_assign rfl rfl) rfl rfl (.none rfl) ?_
    refine G_end (X_then (G_seq (G_seq (G_region ?_))))
    refine G_val (V_fieldAddr rfl rfl (by decide)) rfl rfl (.none rfl) ?_
    refine G_val (V_load rfl rfl (Cell.own (.head _) rfl)) rfl rfl (.none rfl) ?_
    refine G_val (V_lenS rfl rfl) rfl rfl (.none rfl) ?_
    refine G_val (V_eql rfl rfl rfl) rfl rfl (.none rfl) ?_
    refine G_val (V_move rfl rfl) rfl rfl (.none rfl) ?_
    apply G_joinOr 5 11 16 rfl
    · intro H1
      dsimp only [List.take]
      simp only [Bool.and_eq_true, Bool.or_eq_true, Bool.not_eq_true', Bool.not_eq_false', Bool.and_eq_false_iff, Bool.or_eq_false_iff, Bool.not_not, decide_eq_true_eq, decide_eq_false_iff_not, ne_eq, Decidable.not_not, Bool.decide_eq_true] at H1
      refine G_stay (.no rfl rfl rfl rfl) rfl rfl ?_
      refine G_stay (.no rfl rfl rfl rfl) rfl rfl ?_
      refine G_stay (.no rfl rfl rfl rfl) rfl rfl ?_
      refine G_stay (.no rfl rfl rfl rfl) rfl rfl ?_
      refine G_val (V_pick_t rfl rfl rfl) rfl rfl (.none rfl) ?_
      refine G_end ?_
      exact JQ_end 5 rfl rfl (by kernel_rfl)
    · intro H2
      dsimp only [List.take]
      simp only [Bool.and_eq_true, Bool.or_eq_true, Bool.not_eq_true', Bool.not_eq_false', Bool.and_eq_false_iff, Bool.or_eq_false_iff, Bool.not_not, decide_eq_true_eq, decide_eq_false_iff_not, ne_eq, Decidable.not_not, Bool.decide_eq_true] at H2
      refine G_val (V_fieldAddr rfl rfl (by decide)) rfl rfl (.yes rfl rfl rfl rfl) ?_
      refine G_val (V_load rfl rfl (Cell.own (.head _) rfl)) rfl rfl (.yes rfl rfl rfl rfl) ?_
      refine G_val (V_lenS rfl rfl) rfl rfl (.yes rfl rfl rfl rfl) ?_
      refine G_val (V_eql rfl rfl rfl) rfl rfl (.yes rfl rfl rfl rfl) ?_
      refine G_val (V_pick_f rfl rfl rfl) rfl rfl (.none rfl) ?_
      refine G_end ?_
      exact JQ_end 5 rfl rfl (by kernel_rfl)
    dsimp only [List.drop]
    refine G_end (X_then ?_)
    refine G_cond rfl (fun H3 => ?_) (fun H3 => ?_)
    · simp only [Bool.and_eq_true, Bool.or_eq_true, Bool.not_eq_true', Bool.not_eq_false', Bool.and_eq_false_iff, Bool.or_eq_false_iff, Bool.not_not, decide_eq_true_eq, decide_eq_false_iff_not, ne_eq, Decidable.not_not, Bool.decide_eq_true] at H3
      refine G_seq (G_region ?_)
      refine G_val (V_assign rfl rfl) rfl rfl (.none rfl) ?_
      refine G_end (X_then (G_ret (X_then_ret ?_)))
      refine G_leaveS (.drop _ (.nil _)) (by exact (.cons (.tmp rfl) (.nil))) rfl ?_ ?_
      · exact (.refl _)
      exact ⟨(by kernel_rfl), rfl⟩
    simp only [Bool.and_eq_true, Bool.or_eq_true, Bool.not_eq_true', Bool.not_eq_false', Bool.and_eq_false_iff, Bool.or_eq_false_iff, Bool.not_not, decide_eq_true_eq, decide_eq_false_iff_not, ne_eq, Decidable.not_not, Bool.decide_eq_true] at H3
    (exfalso; omega)
  · have : ¬ shortB g = true := by simp only [shortB, Bool.or_eq_true, decide_eq_true_eq]; exact h1
    rw [if_neg this]
    have h2 : ¬ g.toks.length = 0 := fun h => h1 (.inl h)
    have h3 : ¬ g.names.length = 0 := fun h => h1 (.inr h)
    refine G_seq (G_region ?_)
    (refine G_boxA rfl rfl rfl rfl (.none rfl) ?_; intro b1)
    refine G_val (V_assign rfl rfl) rfl rfl (.none rfl) ?_
    refine G_end (X_then (G_seq (G_seq (G_region ?_))))
    refine G_val (V_fieldAddr rfl rfl (by decide)) rfl rfl (.none rfl) ?_
    refine G_val (V_load rfl rfl (Cell.own (.head _) rfl)) rfl rfl (.none rfl) ?_
    refine G_val (V_lenS rfl rfl) rfl rfl (.none rfl) ?_
    refine G_val (V_eql rfl rfl rfl) rfl rfl (.none rfl) ?_
    refine G_val (V_move rfl rfl) rfl rfl (.none rfl) ?_
    refine G.bool_f 11 rfl (decide_eq_false (by omega)) ?_
    refine G_val (V_fieldAddr rfl rfl (by decide)) rfl rfl (.yes rfl rfl rfl rfl) ?_
    refine G_val (V_load rfl rfl (Cell.own (.head _) rfl)) rfl rfl (.yes rfl rfl rfl rfl) ?_
    refine G_val (V_lenS rfl rfl) rfl rfl (.yes rfl rfl rfl rfl) ?_
    refine G_val (V_eql rfl rfl rfl) rfl rfl (.yes rfl rfl rfl rfl) ?_
    refine G_val (V_pick_f rfl rfl rfl) rfl rfl (.none rfl) ?_
    refine G_end (X_then ?_)
    refine G_cond_f rfl (decide_eq_false (by omega)) ?_
    refine G_skip (X_then (G_seq (G_seq ?_)))
    refine G_drawX 15 [(0, 0), (1, 1), (2, 0), (3, 1), (4, 0), (5, 0), (6, 1), (7, 0), (8, 0), (9, 0), (10, 1), (11, 2), (12, 3), (13, 0), (14, 0)] mixed (by kernel_rfl) ?_
    refine F_pure rfl (fun _ _ => V_fieldAddr rfl rfl (by decide)) rfl rfl (.none rfl) ?_
    refine F_load rfl (.head _) (V_load rfl rfl (Cell.own (.head _) rfl)) rfl rfl (.none rfl) ?_
    refine F_pure rfl (fun _ _ => V_fieldAddr rfl rfl (by decide)) rfl rfl (.none rfl) ?_
    refine F_load rfl (.head _) (V_load rfl rfl (Cell.own (.head _) rfl)) rfl rfl (.none rfl) ?_
    refine F_pure rfl (fun _ _ => V_lenS rfl rfl) rfl rfl (.none rfl) ?_
    refine F_pure rfl (fun _ _ => V_fieldAddr rfl rfl (by decide)) rfl rfl (.none rfl) ?_
    refine F_load rfl (.head _) (V_load rfl rfl (Cell.own (.head _) rfl)) rfl rfl (.none rfl) ?_
    refine F_pure rfl (fun _ _ => V_lenS rfl rfl) rfl rfl (.none rfl) ?_
    refine F_pure rfl (fun _ _ => V_sl3n rfl rfl rfl rfl (by omega) (by omega)) rfl rfl (.none rfl) ?_
    refine F_pure rfl (fun _ _ => V_fieldAddr rfl rfl (by decide)) rfl rfl (.none rfl) ?_
    refine F_load rfl (.head _) (V_load rfl rfl (Cell.own (.head _) rfl)) rfl rfl (.none rfl) ?_
    (refine F_litZ rfl rfl rfl (by decide) (by simp [fillS, zeros, setLs, setL, Value.cells, List.range, List.range.loop]; rfl) (by rfl) rfl rfl (.none rfl) ?_; intro b28 E28 hE28 hs28)
    replace ht := ht.mono hE28
    replace hn := hn.mono hE28
    replace hps := hps.mono hE28
    (refine F_appendZ rfl rfl rfl rfl (by assumption) (by assumption) (by omega) (by omega) (by omega) rfl rfl (.none rfl) ?_; intro b29 c29 E29 hE29 hs29 hc29)
    replace hs28 := hs28.mono hE29
    replace ht := ht.mono hE29
    replace hn := hn.mono hE29
    replace hps := hps.mono hE29
    refine F_pure rfl (fun _ _ => V_lenS rfl rfl) rfl rfl (.none rfl) ?_
    refine F_pure rfl (fun _ _ => V_move rfl rfl) rfl rfl (.none rfl) ?_
    (refine F_end (.nil _) ?_; dsimp only [List.drop])
    refine G_end (X_then (G_block ?_))
    obtain ⟨l, hll⟩ : ∃ l, g.toks ++ [g.sep] = l := ⟨_, rfl⟩
    have hlen2 : l.length = g.toks.length + 1 := by rw [← hll]; simp
    replace hs29 : SlE E29 1 (some ⟨b29, 0, none⟩) (g.toks.length + 1) (strs l) := by rw [← hll]; simpa [strs] using hs29
    have hsm : ∀ s, s ∈ l → s.length ≤ 40 := by rw [← hll]; exact hl.small
    rw [smallsB, hll]
    refine G_loop (α := Nat) (fun i => [(1, .pointer (some ⟨b1, 0, none⟩)), (29, .slice (some ⟨b29, 0, none⟩) (g.toks.length + 1) c29), (30, .int .i64 ((g.toks.length + 1 : Nat) : Int)), (31, .int .i64 i)]) (fun _ => E29) (fun _ => GB b1 g tp tc np nc pp pc :: L)
      (fun i => i ≤ l.length ∧ ∀ k, k < i → (hk : k < l.length) → smallB l[k] = true) (fun i => l.length - i) 0 ⟨Nat.zero_le _, fun k hk => by cases hk⟩ ⟨rfl, rfl, rfl, rfl, trivial⟩ rfl rfl ?_
    rintro i ⟨hi, hall⟩
    by_cases hlt : i < l.length
    · have hx := strs_get (List.getElem?_eq_getElem hlt)
      have hq : l[i].length ≤ 40 := hsm _ (List.getElem_mem hlt)
      cases hb : smallB l[i] with
      | true =>
        refine G_seq (G_region ?_)
        refine G_val (V_lss rfl rfl rfl) rfl rfl (.none rfl) ?_
        refine G_end (X_then (G_seq ?_))
        refine G_cond_t rfl (decide_eq_true (by omega)) ?_
        refine G_skip (X_then (G_seq (G_block (G_seq (G_region ?_)))))
        refine G_val (V_idxAddr rfl rfl rfl (SlE.rd (by assumption)) (by omega) (by omega)) rfl rfl (.none rfl) ?_
        refine G_val (V_loadS rfl rfl (SlE.rd (by assumption)) (by assumption) (by simp)) rfl rfl (.none rfl) ?_
        refine G_val (V_assign rfl rfl) rfl rfl (.none rfl) ?_
        refine G_end (X_then (G_seq (G_region ?_)))
        refine G_val (V_move rfl rfl) rfl rfl (.none rfl) ?_
        refine G_callv (k := 117) (.mk rfl rfl rfl rfl) rfl rfl (.none rfl) (Small_call _ _ _ (by omega)) ?_
        refine G_val (V_not rfl rfl) rfl rfl (.none rfl) ?_
        refine G_end (X_then ?_)
        refine G_cond_f rfl (by simp [*]; done) ?_
        refine G_skip (X_block (X_then (G_region ?_)))
        refine G_val (V_add_i64 rfl rfl rfl (by omega) (by omega)) rfl rfl (.none rfl) ?_
        refine G_val (V_move rfl rfl) rfl rfl (.none rfl) ?_
        refine G_end (X_then ?_)
        refine G_again (i + 1) ⟨hlt, ?_⟩ (by omega) ⟨rfl, rfl, rfl, rfl, trivial⟩ rfl rfl
        intro k hk hk2
        by_cases he : k = i
        · subst he; exact hb
        · exact hall k (by omega) hk2
      | false =>
        rw [all_not hlt hb]
        refine G_seq (G_region ?_)
        refine G_val (V_lss rfl rfl rfl) rfl rfl (.none rfl) ?_
        refine G_end (X_then (G_seq ?_))
        refine G_cond_t rfl (decide_eq_true (by omega)) ?_
        refine G_skip (X_then (G_seq (G_block (G_seq (G_region ?_)))))
        refine G_val (V_idxAddr rfl rfl rfl (SlE.rd (by assumption)) (by omega) (by omega)) rfl rfl (.none rfl) ?_
        refine G_val (V_loadS rfl rfl (SlE.rd (by assumption)) (by assumption) (by simp)) rfl rfl (.none rfl) ?_
        refine G_val (V_assign rfl rfl) rfl rfl (.none rfl) ?_
        refine G_end (X_then (G_seq (G_region ?_)))
        refine G_val (V_move rfl rfl) rfl rfl (.none rfl) ?_
        refine G_callv (k := 117) (.mk rfl rfl rfl rfl) rfl rfl (.none rfl) (Small_call _ _ _ (by omega)) ?_
        refine G_val (V_not rfl rfl) rfl rfl (.none rfl) ?_
        refine G_end (X_then ?_)
        refine G_cond_t rfl (by simp [*]; done) ?_
        refine G_seq (G_region ?_)
        refine G_val (V_assign rfl rfl) rfl rfl (.none rfl) ?_
        refine G_end (X_then (G_ret (X_block_ret (X_then_ret (X_then_ret (X_block_ret (X_then_ret ?_)))))))
        refine G_leaveS (.drop _ (.nil _)) (by exact (.cons (.tmp rfl) (.nil))) rfl ?_ ?_
        · exact (hE28.trans hE29)
        exact ⟨rfl, rfl⟩
    · have hie : i = l.length := by omega
      subst hie
      rw [all_of fun k hk => hall k hk hk]
      refine G_seq (G_region ?_)
      refine G_val (V_lss rfl rfl rfl) rfl rfl (.none rfl) ?_
      refine G_end (X_then (G_seq ?_))
      refine G_cond_f rfl (decide_eq_false (by omega)) ?_
      refine G_exit (X_then_exit (X_then_exit (X_block_hit (X_then (G_seq (G_seq (G_region ?_)))))))
      refine G_val (V_fieldAddr rfl rfl (by decide)) rfl rfl (.none rfl) ?_
      refine G_val (V_load rfl rfl (Cell.own (.head _) rfl)) rfl rfl (.none rfl) ?_
      refine G_val (V_lenS rfl rfl) rfl rfl (.none rfl) ?_
      refine G_val (V_move rfl rfl) rfl rfl (.none rfl) ?_
      refine G_end (X_then (G_block ?_))
      refine G_loop (α := Nat) (fun i => [(40, .slice np g.names.length nc), (41, .int .i64 g.names.length), (42, .int .i64 i)]) (fun _ => E29) (fun _ => GB b1 g tp tc np nc pp pc :: L)
        (fun i => i ≤ g.names.length ∧ ∀ k, k < i → (hk : k < g.names.length) → capB g.names[k] = true) (fun i => g.names.length - i) 0 ⟨Nat.zero_le _, fun k hk => by cases hk⟩ ⟨rfl, rfl, rfl, trivial⟩ rfl rfl ?_
      rintro i ⟨hi, hall2⟩
      by_cases hlt : i < g.names.length
      · have hx := strs_get (List.getElem?_eq_getElem hlt)
        have hq : g.names[i].length ≤ 40 := hl.ns _ (List.getElem_mem hlt)
        cases hb : capB g.names[i] with
        | true =>
          refine G_seq (G_region ?_)
          refine G_val (V_lss rfl rfl rfl) rfl rfl (.none rfl) ?_
          refine G_end (X_then (G_seq ?_))
          refine G_cond_t rfl (decide_eq_true (by omega)) ?_
          refine G_skip (X_then (G_seq (G_block (G_seq (G_region ?_)))))
          refine G_val (V_idxAddr rfl rfl rfl (SlE.rd (by assumption)) (by omega) (by omega)) rfl rfl (.none rfl) ?_
          refine G_val (V_loadS rfl rfl (SlE.rd (by assumption)) (by assumption) (by simp)) rfl rfl (.none rfl) ?_
          refine G_val (V_assign rfl rfl) rfl rfl (.none rfl) ?_
          refine G_end (X_then (G_seq (G_region ?_)))
          refine G_val (V_move rfl rfl) rfl rfl (.none rfl) ?_
          refine G_callv (k := 118) (.mk rfl rfl rfl rfl) rfl rfl (.none rfl) (Capital_call _ _ _ (by omega)) ?_
          refine G_val (V_not rfl rfl) rfl rfl (.none rfl) ?_
          refine G_end (X_then ?_)
          refine G_cond_f rfl (by simp [*]; done) ?_
          refine G_skip (X_block (X_then (G_region ?_)))
          refine G_val (V_add_i64 rfl rfl rfl (by omega) (by omega)) rfl rfl (.none rfl) ?_
          refine G_val (V_move rfl rfl) rfl rfl (.none rfl) ?_
          refine G_end (X_then ?_)
          refine G_again (i + 1) ⟨hlt, ?_⟩ (by omega) ⟨rfl, rfl, rfl, trivial⟩ rfl rfl
          intro k hk hk2
          by_cases he : k = i
          · subst he; exact hb
          · exact hall2 k (by omega) hk2
        | false =>
          rw [all_not hlt hb]
          refine G_seq (G_region ?_)
          refine G_val (V_lss rfl rfl rfl) rfl rfl (.none rfl) ?_
          refine G_end (X_then (G_seq ?_))
          refine G_cond_t rfl (decide_eq_true (by omega)) ?_
          refine G_skip (X_then (G_seq (G_block (G_seq (G_region ?_)))))
          refine G_val (V_idxAddr rfl rfl rfl (SlE.rd (by assumption)) (by omega) (by omega)) rfl rfl (.none rfl) ?_
          refine G_val (V_loadS rfl rfl (SlE.rd (by assumption)) (by assumption) (by simp)) rfl rfl (.none rfl) ?_
          refine G_val (V_assign rfl rfl) rfl rfl (.none rfl) ?_
          refine G_end (X_then (G_seq (G_region ?_)))
          refine G_val (V_move rfl rfl) rfl rfl (.none rfl) ?_
          refine G_callv (k := 118) (.mk rfl rfl rfl rfl) rfl rfl (.none rfl) (Capital_call _ _ _ (by omega)) ?_
          refine G_val (V_not rfl rfl) rfl rfl (.none rfl) ?_
          refine G_end (X_then ?_)
          refine G_cond_t rfl (by simp [*]; done) ?_
          refine G_seq (G_region ?_)
          refine G_val (V_assign rfl rfl) rfl rfl (.none rfl) ?_
          refine G_end (X_then (G_ret (X_block_ret (X_then_ret (X_then_ret (X_block_ret (X_then_ret ?_)))))))
          refine G_leaveS (.drop _ (.nil _)) (by exact (.cons (.tmp rfl) (.nil))) rfl ?_ ?_
          · exact (hE28.trans hE29)
          exact ⟨(by kernel_rfl), rfl⟩
      · rw [all_of fun k hk => hall2 k (by omega) hk]
        refine G_seq (G_region ?_)
        refine G_val (V_lss rfl rfl rfl) rfl rfl (.none rfl) ?_
        refine G_end (X_then (G_seq ?_))
        refine G_cond_f rfl (decide_eq_false (by omega)) ?_
        refine G_exit (X_then_exit (X_then_exit (X_block_hit (X_then (G_seq (G_region ?_))))))
        refine G_val (V_assign rfl rfl) rfl rfl (.none rfl) ?_
        refine G_end (X_then (G_ret ?_))
        refine G_leaveS (.drop _ (.nil _)) (by exact (.cons (.tmp rfl) (.nil))) rfl ?_ ?_
        · exact (hE28.trans hE29)
        exact ⟨(by kernel_rfl), rfl⟩
end
end Go.Proofs.Ytaoinojdijbhaaa
