import Derived.Test.YtaoinojdijbhaaaSep19
import Derived.Test.YtaoinojdijbhaaaSep20
import Derived.Test.YtaoinojdijbhaaaSep21
import Derived.Test.YtaoinojdijbhaaaSep22
import Derived.Test.YtaoinojdijbhaaaSep23
import Derived.Test.YtaoinojdijbhaaaSep24
import Derived.Test.YtaoinojdijbhaaaInst
import Derived.Test.YtaoinojdijbhaaaH6
set_option linter.unusedSimpArgs false
set_option linter.unusedVariables false
set_option maxHeartbeats 2000000
set_option maxRecDepth 20000
namespace Go.Proofs.Ytaoinojdijbhaaa
open Go.RowKit
def symB (g : Gr) : Bool := ntB g g.start && g.prods.all fun p => ntB g p.1 && !p.2.any (fun s => !termB g s && !ntB g s)
/-- No production's left side is less than that of the one before. -/
def ordsB (l : List Pr) : Bool := (List.range l.length).all fun i => decide (i = 0) || decide ((l.getD (i - 1) (0, [])).1 ≤ (l.getD i (0, [])).1)
def compB (g : Gr) : Bool := (List.range g.names.length).all fun i => g.prods.any fun p => decide (p.1 = 16 + (i : Int))
theorem range_all {n : Nat} {f : Nat → Bool} (h : ∀ i, i < n → f i = true) : (List.range n).all f = true := by
  rw [List.all_eq_true]; intro i hi; exact h i (List.mem_range.1 hi)
theorem range_not {n i : Nat} {f : Nat → Bool} (hi : i < n) (h : f i = false) : (List.range n).all f = false := List.all_eq_false.2 ⟨i, List.mem_range.2 hi, by simp [h]⟩
theorem getD_at {α : Type} {l : List α} {i : Nat} (d : α) (h : i < l.length) : l.getD i d = l[i] := by simp [List.getD, List.getElem?_eq_getElem h]
section
variable (E : Env) (L : List Res)
theorem symbols_call (gv : Value) (g : Gr) (hg : GrE E gv g) (hl : Light g) : CallV Try.prog 101 #[gv] E L (.int .i64 (if symB g = true then 0 else 14)) := by
  have hg0 := hg
  obtain ⟨tp, tc, np, nc, pp, pc, rfl, ht, hn, ⟨rows, hrows, hps, hre⟩, k1, k2, k3⟩ := hg
  have hlen : g.prods.length = rows.length := by rw [← hrows]; simp
  have q1 := hl.t; have q2 := hl.n; have q3 := hl.p
  refine CallS.toV (CallS.intro (l := [_]) _ Try.func101 rfl Try.ntmps101 rfl ?_)
  cases hs : ntB g g.start with
  | false =>
    have : symB g = false := by simp [symB, hs]
    rw [this]
    refine G_seq (G_region ?_)
    (refine G_boxA rfl rfl rfl rfl (.none rfl) ?_; intro b1)
    (refine G_alloc rfl rfl rfl (.none rfl) ?_; intro b2)
    refine G_end (X_then (G_seq (G_seq (G_region ?_))))
    refine G_val (V_loadA rfl rfl (Cells.own (.tail _ (.head _))) rfl) rfl rfl (.none rfl) ?_
    refine G_val (V_fieldAddr rfl rfl (by decide)) rfl rfl (.none rfl) ?_
    refine G_val (V_load rfl rfl (Cell.own (.tail _ (.head _)) rfl)) rfl rfl (.none rfl) ?_
    refine G_callv (k := 119) (.mk rfl rfl rfl rfl) rfl rfl (.none rfl) (nonterminal_call _ _ _ _ (by assumption) (by assumption) _) ?_
    refine G_val (V_not rfl rfl) rfl rfl (.none rfl) ?_
    refine G_end (X_then ?_)
    refine G_cond_t rfl (by simp [*]; done) ?_
    refine G_seq (G_region ?_)
    refine G_store1 rfl rfl rfl rfl rfl rfl (.none rfl) (.head _ _ _) ?_
    refine G_end (X_then (G_ret (X_then_ret ?_)))
    refine G_leaveS (.drop _ (.drop _ (.nil _))) (by exact (.cons (.cell1 rfl (Cell.own1 (.head _))) (.nil))) rfl ?_ ?_
    · exact (.refl _)
    exact ⟨(by kernel_rfl), rfl⟩
  | true =>
    have e : symB g = rows.all (fun x => ntB g x.2.2.1 && !x.2.2.2.any (fun s => !termB g s && !ntB g s)) := by rw [symB, hs, ← hrows, List.all_map]; rfl
    rw [e]
    refine G_seq (G_region ?_)
    (refine G_boxA rfl rfl rfl rfl (.none rfl) ?_; intro b1)
    (refine G_alloc rfl rfl rfl (.none rfl) ?_; intro b2)
    refine G_end (X_then (G_seq (G_seq (G_region ?_))))
    refine G_val (V_loadA rfl rfl (Cells.own (.tail _ (.head _))) rfl) rfl rfl (.none rfl) ?_
    refine G_val (V_fieldAddr rfl rfl (by decide)) rfl rfl (.none rfl) ?_
    refine G_val (V_load rfl rfl (Cell.own (.tail _ (.head _)) rfl)) rfl rfl (.none rfl) ?_
    refine G_callv (k := 119) (.mk rfl rfl rfl rfl) rfl rfl (.none rfl) (nonterminal_call _ _ _ _ (by assumption) (by assumption) _) ?_
    refine G_val (V_not rfl rfl) rfl rfl (.none rfl) ?_
    refine G_end (X_then ?_)
    refine G_cond_f rfl (by simp [*]; done) ?_
    refine G_skip (X_then (G_seq (G_seq (G_region ?_))))
    refine G_val (V_loadA rfl rfl (Cells.own (.tail _ (.head _))) rfl) rfl rfl (.none rfl) ?_
    refine G_call (k := 116) (.mk rfl rfl rfl rfl) rfl rfl (.none rfl) (prods_call _ _ _ _ _ _ _ _ _ _) ?_
    rintro r1 E2 L3 hE4 ⟨z5, ⟨rfl, ⟨rfl, rfl⟩⟩⟩
    replace hg0 := hg0.mono hE4
    replace ht := ht.mono hE4
    replace hn := hn.mono hE4
    replace hps := hps.mono hE4
    refine G_end (X_then (G_block ?_))
    refine G_rangeI (σ := Int) (enc := rowEnc) rfl (iter_prods E z5 pp _ pc rows hps (by omega)) (fun _ => E) (fun v => .blk b2 (.cells #[.int .i64 v] 28 (0, 0)) :: GB b1 g tp tc np nc pp pc :: L)
      (fun pre v => v = 0 ∧ ∀ i, i < pre.length → (hi : i < rows.length) → (ntB g rows[i].2.2.1 && !rows[i].2.2.2.any (fun s => !termB g s && !ntB g s)) = true) (fun q pre v => q = .ret ∧ v = 14 ∧ rows.all (fun x => ntB g x.2.2.1 && !x.2.2.2.any (fun s => !termB g s && !ntB g s)) = false) 0 ⟨rfl, fun i hi => by cases hi⟩ rfl (.refl _) rfl (fun _ => rfl) ?_ ?_ ?_
    · rintro y D tm fn M pre ⟨x, j⟩ v hpre ⟨rfl, hall⟩ hE
      obtain ⟨hx, hj, hlt⟩ := zip_pre hpre
      simp only at hx hj
      have hxr : SlE E 1 x.1 x.2.2.2.length (i64s x.2.2.2) := hre.get hx
      have hx8 : x.2.2.2.length ≤ 8 := hl.ps _ (by rw [← hrows]; exact List.mem_map.2 ⟨x, List.mem_of_getElem? hx, rfl⟩)
      have hxe : rows[pre.length] = x := by rw [List.getElem?_eq_getElem hlt] at hx; exact Option.some.inj hx
      simp only [List.cons_append]
      dsimp only [rowEnc]
      cases hb : (ntB g x.2.2.1 && !x.2.2.2.any (fun s => !termB g s && !ntB g s)) with
      | true =>
        have hb' := hb
        simp only [Bool.and_eq_true, Bool.not_eq_true'] at hb'
        obtain ⟨hb1, hb2⟩ := hb'
        refine G_region ?_
        (refine G_alloc rfl rfl rfl (.none rfl) ?_; intro b4)
        refine G_storeA rfl rfl rfl rfl (by simp [Value.oneCell']) rfl (.none rfl) (.head _ _ _) rfl ?_
        refine G_end (X_then ?_)
        refine G_begin (.tail _ (.head _ _ _)) ?_
        refine G_block (G_seq (G_region ?_))
        refine G_val (V_loadA rfl rfl (Cells.own (.tail _ (.tail _ (.tail _ (.tail _ (.head _)))))) rfl) rfl rfl (.none rfl) ?_
        refine G_val (V_fieldAddr rfl rfl (by decide)) rfl rfl (.none rfl) ?_
        refine G_val (V_load rfl rfl (Cell.own (.head _) rfl)) rfl rfl (.none rfl) ?_
        refine G_callv (k := 119) (.mk rfl rfl rfl rfl) rfl rfl (.none rfl) (nonterminal_call _ _ _ _ (by assumption) (by assumption) _) ?_
        refine G_val (V_not rfl rfl) rfl rfl (.none rfl) ?_
        refine G_val (V_move rfl rfl) rfl rfl (.none rfl) ?_
        refine G.bool_f 19 rfl (by simp [*]; done) ?_
        refine G_val (V_fieldAddr rfl rfl (by decide)) rfl rfl (.yes rfl rfl rfl rfl) ?_
        refine G_val (V_load rfl rfl (Cell.own (.head _) rfl)) rfl rfl (.yes rfl rfl rfl rfl) ?_
        refine G_val (V_makeFunc rfl rfl rfl) rfl rfl (.yes rfl rfl rfl rfl) ?_
        refine G_callv (k := 120) (.mk rfl rfl rfl rfl) rfl rfl (.yes rfl rfl rfl rfl) (ContainsFuncI_call _ _ _ _ _ _ (by assumption) (by omega) _ _ _ _ _ _ _ _ (by exact .tail _ (.tail _ (.tail _ (.tail _ (.head _))))) (by assumption) (by assumption)) ?_
        refine G_val (V_pick_f rfl rfl rfl) rfl rfl (.none rfl) ?_
        refine G_end (X_then ?_)
        refine G_cond_f rfl (by assumption) ?_
        refine G_skip (X_block ?_)
        refine G.drop ?_
        refine G_rEnd 0 ⟨rfl, ?_⟩ rfl (.refl _) rfl
        intro i hi hi2
        simp only [List.length_append, List.length_singleton] at hi
        by_cases he : i = pre.length
        · subst he
          rw [hxe]; exact hb
        · exact hall i (by omega) hi2
      | false =>
        have hfin := all_not (f := fun x : Row => ntB g x.2.2.1 && !x.2.2.2.any (fun s => !termB g s && !ntB g s)) hlt (by rw [hxe]; exact hb)
        have hb' : (!ntB g x.2.2.1 || x.2.2.2.any (fun s => !termB g s && !ntB g s)) = true := by
          revert hb
          cases ntB g x.2.2.1 <;> simp
        refine G_region ?_
        (refine G_alloc rfl rfl rfl (.none rfl) ?_; intro b4)
        refine G_storeA rfl rfl rfl rfl (by simp [Value.oneCell']) rfl (.none rfl) (.head _ _ _) rfl ?_
        refine G_end (X_then ?_)
        refine G_begin (.tail _ (.head _ _ _)) ?_
        refine G_block (G_seq (G_region ?_))
        refine G_val (V_loadA rfl rfl (Cells.own (.tail _ (.tail _ (.tail _ (.tail _ (.head _)))))) rfl) rfl rfl (.none rfl) ?_
        refine G_val (V_fieldAddr rfl rfl (by decide)) rfl rfl (.none rfl) ?_
        refine G_val (V_load rfl rfl (Cell.own (.head _) rfl)) rfl rfl (.none rfl) ?_
        refine G_callv (k := 119) (.mk rfl rfl rfl rfl) rfl rfl (.none rfl) (nonterminal_call _ _ _ _ (by assumption) (by assumption) _) ?_
        refine G_val (V_not rfl rfl) rfl rfl (.none rfl) ?_
        refine G_val (V_move rfl rfl) rfl rfl (.none rfl) ?_
        apply G_joinOr 5 19 24 rfl
        · intro H1
          dsimp only [List.take]
          simp only [Bool.and_eq_true, Bool.or_eq_true, Bool.not_eq_true', Bool.not_eq_false', Bool.and_eq_false_iff, Bool.or_eq_false_iff, Bool.not_not, decide_eq_true_eq, decide_eq_false_iff_not, ne_eq, Decidable.not_not, Bool.decide_eq_true] at H1
          refine G_stay (.no rfl rfl rfl rfl) rfl rfl ?_
          refine G_stay (.no rfl rfl rfl rfl) rfl rfl ?_
          refine G_stay (.no rfl rfl rfl rfl) rfl rfl ?_
          refine G_stay (.no rfl rfl rfl rfl) rfl rfl ?_
          refine G_val (V_pick_t rfl rfl rfl) rfl rfl (.none rfl) ?_
          refine G_end ?_
          exact JQ_end 5 rfl rfl (by kernel_rfl)
        · intro H2
          dsimp only [List.take]
          simp only [Bool.and_eq_true, Bool.or_eq_true, Bool.not_eq_true', Bool.not_eq_false', Bool.and_eq_false_iff, Bool.or_eq_false_iff, Bool.not_not, decide_eq_true_eq, decide_eq_false_iff_not, ne_eq, Decidable.not_not, Bool.decide_eq_true] at H2
          refine G_val (V_fieldAddr rfl rfl (by decide)) rfl rfl (.yes rfl rfl rfl rfl) ?_
          refine G_val (V_load rfl rfl (Cell.own (.head _) rfl)) rfl rfl (.yes rfl rfl rfl rfl) ?_
          refine G_val (V_makeFunc rfl rfl rfl) rfl rfl (.yes rfl rfl rfl rfl) ?_
          refine G_callv (k := 120) (.mk rfl rfl rfl rfl) rfl rfl (.yes rfl rfl rfl rfl) (ContainsFuncI_call _ _ _ _ _ _ (by assumption) (by omega) _ _ _ _ _ _ _ _ (by exact .tail _ (.tail _ (.tail _ (.tail _ (.head _))))) (by assumption) (by assumption)) ?_
          refine G_val (V_pick_f rfl rfl rfl) rfl rfl (.none rfl) ?_
          refine G_end ?_
          exact JQ_end 5 rfl rfl (by kernel_rfl)
        dsimp only [List.drop]
        refine G_end (X_then ?_)
        refine G_cond_t rfl (by assumption) ?_
        refine G_seq (G_region ?_)
        refine G_store1 rfl rfl rfl rfl rfl rfl (.none rfl) (.tail _ (.tail _ (.tail _ (.head _ _ _)))) ?_
        refine G_end (X_then (G_ret (X_block_ret ?_)))
        refine G.drop ?_
        exact G_rRet 14 ⟨rfl, rfl, hfin⟩ rfl (.refl _) rfl
    · rintro D v ⟨rfl, hall⟩ hE
      rw [all_of fun i hi => hall i (by simpa using hi) hi]
      refine X_block (X_then (G_seq (G_region ?_)))
      refine G_store1 rfl rfl rfl rfl rfl rfl (.none rfl) (.tail _ (.head _ _ _)) ?_
      refine G_end (X_then (G_ret ?_))
      refine G_leave_ms [D] ?_
      refine G_leaveS (.drop _ (.drop _ (.nil _))) (by exact (.cons (.cell1 rfl (Cell.own1 (.head _))) (.nil))) rfl ?_ ?_
      · exact (.refl _)
      exact ⟨(by kernel_rfl), rfl⟩
    · rintro D q pre v hpre ⟨rfl, rfl, hs⟩ hE
      rw [hs]
      refine G_ret (X_block_ret (X_then_ret ?_))
      refine G_leave_ms [D] ?_
      refine G_leaveS (.drop _ (.drop _ (.nil _))) (by exact (.cons (.cell1 rfl (Cell.own1 (.head _))) (.nil))) rfl ?_ ?_
      · exact (.refl _)
      exact ⟨(by kernel_rfl), rfl⟩
theorem ordered_call (gv : Value) (g : Gr) (hg : GrE E gv g) (hl : Light g) : CallV Try.prog 102 #[gv] E L (.int .i64 (if ordsB g.prods = true then 0 else 9)) := by
  have hg0 := hg
  obtain ⟨tp, tc, np, nc, pp, pc, rfl, ht, hn, ⟨rows, hrows, hps, hre⟩, k1, k2, k3⟩ := hg
  have hlen : g.prods.length = rows.length := by rw [← hrows]; simp
  have q1 := hl.t; have q2 := hl.n; have q3 := hl.p
  refine CallS.toV (CallS.intro (l := [_]) _ Try.func102 rfl Try.ntmps102 rfl ?_)
  have hat : ∀ i, (hi : i < rows.length) → g.prods.getD i (0, []) = rows[i].2.2 := fun i hi => by rw [← hrows, getD_at _ (by simpa using hi)]; simp
  refine G_seq (G_region ?_)
  (refine G_boxA rfl rfl rfl rfl (.none rfl) ?_; intro b1)
  (refine G_alloc rfl rfl rfl (.none rfl) ?_; intro b2)
  refine G_end (X_then (G_seq (G_seq (G_region ?_))))
  refine G_val (V_loadA rfl rfl (Cells.own (.tail _ (.head _))) rfl) rfl rfl (.none rfl) ?_
  refine G_call (k := 116) (.mk rfl rfl rfl rfl) rfl rfl (.none rfl) (prods_call _ _ _ _ _ _ _ _ _ _) ?_
  rintro r1 E2 L3 hE4 ⟨z5, ⟨rfl, ⟨rfl, rfl⟩⟩⟩
  replace hg0 := hg0.mono hE4
  replace ht := ht.mono hE4
  replace hn := hn.mono hE4
  replace hps := hps.mono hE4
  refine G_end (X_then (G_block ?_))
  refine G_rangeI (σ := Int) (enc := rowEnc) rfl (iter_prods E z5 pp _ pc rows hps (by omega)) (fun _ => E) (fun v => .blk b2 (.cells #[.int .i64 v] 28 (0, 0)) :: GB b1 g tp tc np nc pp pc :: L)
    (fun pre v => v = 0 ∧ ∀ i, i < pre.length → (decide (i = 0) || decide ((g.prods.getD (i - 1) (0, [])).1 ≤ (g.prods.getD i (0, [])).1)) = true) (fun q pre v => q = .ret ∧ v = 9 ∧ ordsB g.prods = false) 0 ⟨rfl, fun i hi => by cases hi⟩ rfl (.refl _) rfl (fun _ => rfl) ?_ ?_ ?_
  · rintro y D tm fn M pre ⟨x, j⟩ v hpre ⟨rfl, hall⟩ hE
    obtain ⟨hx, hj, hlt⟩ := zip_pre hpre
    simp only at hx hj
    have hxe : rows[pre.length] = x := by rw [List.getElem?_eq_getElem hlt] at hx; exact Option.some.inj hx
    simp only [List.cons_append]
    dsimp only [rowEnc]
    subst hj
    generalize hj : pre.length = j at *
    have hstep : (decide (j = 0) || decide ((g.prods.getD (j - 1) (0, [])).1 ≤ (g.prods.getD j (0, [])).1)) = true → ∀ i, i < (pre ++ [(x, j)]).length → (decide (i = 0) || decide ((g.prods.getD (i - 1) (0, [])).1 ≤ (g.prods.getD i (0, [])).1)) = true := by
      intro h i hi
      simp only [List.length_append, List.length_singleton, hj] at hi
      by_cases he : i = j
      · subst he; exact h
      · exact hall i (by omega)
    cases j with
    | zero =>
      refine G_seq (G_region ?_)
      refine G_val (V_assign rfl rfl) rfl rfl (.none rfl) ?_
      refine G_end (X_then (G_region ?_))
      (refine G_alloc rfl rfl rfl (.none rfl) ?_; intro b4)
      refine G_storeA rfl rfl rfl rfl (by simp [Value.oneCell']) rfl (.none rfl) (.head _ _ _) rfl ?_
      refine G_end (X_then ?_)
      refine G_begin (.tail _ (.head _ _ _)) ?_
      refine G_block (G_seq ?_)
      refine G_draw mixed (by kernel_rfl) ?_
      refine Q_val (V_move rfl rfl) rfl rfl (.none rfl) ?_
      refine Q_val (V_gtr rfl rfl rfl) rfl rfl (.none rfl) ?_
      refine Q_val (V_move rfl rfl) rfl rfl (.none rfl) ?_
      refine Q_bool_f 11 rfl (by kernel_rfl) ?_
      refine Q_stay (.no rfl rfl rfl rfl) rfl rfl ?_
      refine Q_stay (.no rfl rfl rfl rfl) rfl rfl ?_
      refine Q_stay (.no rfl rfl rfl rfl) rfl rfl ?_
      refine Q_stay (.no rfl rfl rfl rfl) rfl rfl ?_
      refine Q_stay (.no rfl rfl rfl rfl) rfl rfl ?_
      refine Q_stay (.no rfl rfl rfl rfl) rfl rfl ?_
      refine Q_stay (.no rfl rfl rfl rfl) rfl rfl ?_
      refine Q_stay (.no rfl rfl rfl rfl) rfl rfl ?_
      refine Q_stay (.no rfl rfl rfl rfl) rfl rfl ?_
      refine Q_stay (.no rfl rfl rfl rfl) rfl rfl ?_
      refine Q_val (V_pick_f rfl rfl rfl) rfl rfl (.none rfl) ?_
      refine Q_end ?_
      refine X_then ?_
      refine G_cond_f rfl rfl ?_
      refine G_skip (X_block ?_)
      refine G.drop ?_
      exact G_rEnd 0 ⟨rfl, hstep rfl⟩ rfl (.refl _) rfl
    | succ j =>
      have hj1 : j < rows.length := by omega
      have hx1 := prows_left (List.getElem?_eq_getElem hj1)
      rw [Nat.add_sub_cancel, hat j hj1, hat (j + 1) hlt, hxe] at hstep
      by_cases hb : rows[j].2.2.1 ≤ x.2.2.1
      · refine G_seq ?_
        refine G_region ?_
        refine G_val (V_assign rfl rfl) rfl rfl (.none rfl) ?_
        refine G_end (X_then (G_region ?_))
        (refine G_alloc rfl rfl rfl (.none rfl) ?_; intro b4)
        refine G_storeA rfl rfl rfl rfl (by simp [Value.oneCell']) rfl (.none rfl) (.head _ _ _) rfl ?_
        refine G_end (X_then ?_)
        refine G_begin (.tail _ (.head _ _ _)) ?_
        refine G_block (G_seq ?_)
        refine G_draw mixed (by kernel_rfl) ?_
        refine Q_val (V_move rfl rfl) rfl rfl (.none rfl) ?_
        refine Q_val (V_gtr rfl rfl rfl) rfl rfl (.none rfl) ?_
        refine Q_val (V_move rfl rfl) rfl rfl (.none rfl) ?_
        refine Q_bool_t 11 rfl (decide_eq_true (by omega)) ?_
        refine Q_val (V_fieldAddr rfl rfl (by decide)) rfl rfl (.yes rfl rfl rfl rfl) ?_
        refine Q_val (V_load rfl rfl (Cell.own (.head _) rfl)) rfl rfl (.yes rfl rfl rfl rfl) ?_
        refine Q_val (V_fieldAddr rfl rfl (by decide)) rfl rfl (.yes rfl rfl rfl rfl) ?_
        refine Q_val (V_load rfl rfl (Cell.own (.tail _ (.tail _ (.tail _ (.tail _ (.head _))))) rfl)) rfl rfl (.yes rfl rfl rfl rfl) ?_
        refine Q_val (V_move rfl rfl) rfl rfl (.yes rfl rfl rfl rfl) ?_
        refine Q_val (V_sub_i64 rfl rfl rfl (by omega) (by omega)) rfl rfl (.yes rfl rfl rfl rfl) ?_
        refine Q_val (V_idxAddr rfl rfl rfl (SlE.rd (by assumption)) (by omega) (by omega)) rfl rfl (.yes rfl rfl rfl rfl) ?_
        refine Q_val (V_fieldAddrE rfl rfl (by assumption) (by omega) (by decide)) rfl rfl (.yes rfl rfl rfl rfl) ?_
        refine Q_val (V_loadS rfl rfl (SlE.rd (by assumption)) (by assumption) (by simp)) rfl rfl (.yes rfl rfl rfl rfl) ?_
        refine Q_val (V_lss rfl rfl rfl) rfl rfl (.yes rfl rfl rfl rfl) ?_
        refine Q_val (V_pick_t rfl rfl rfl) rfl rfl (.none rfl) ?_
        refine Q_end ?_
        refine X_then ?_
        refine G_cond_f rfl (decide_eq_false (by omega)) ?_
        refine G_skip (X_block ?_)
        refine G.drop ?_
        exact G_rEnd 0 ⟨rfl, hstep (by simp [hb])⟩ rfl (.refl _) rfl
      · refine G_seq ?_
        refine G_region ?_
        refine G_val (V_assign rfl rfl) rfl rfl (.none rfl) ?_
        refine G_end (X_then (G_region ?_))
        (refine G_alloc rfl rfl rfl (.none rfl) ?_; intro b4)
        refine G_storeA rfl rfl rfl rfl (by simp [Value.oneCell']) rfl (.none rfl) (.head _ _ _) rfl ?_
        refine G_end (X_then ?_)
        refine G_begin (.tail _ (.head _ _ _)) ?_
        refine G_block (G_seq ?_)
        refine G_draw mixed (by kernel_rfl) ?_
        refine Q_val (V_move rfl rfl) rfl rfl (.none rfl) ?_
        refine Q_val (V_gtr rfl rfl rfl) rfl rfl (.none rfl) ?_
        refine Q_val (V_move rfl rfl) rfl rfl (.none rfl) ?_
        refine Q_bool_t 11 rfl (decide_eq_true (by omega)) ?_
        refine Q_val (V_fieldAddr rfl rfl (by decide)) rfl rfl (.yes rfl rfl rfl rfl) ?_
        refine Q_val (V_load rfl rfl (Cell.own (.head _) rfl)) rfl rfl (.yes rfl rfl rfl rfl) ?_
        refine Q_val (V_fieldAddr rfl rfl (by decide)) rfl rfl (.yes rfl rfl rfl rfl) ?_
        refine Q_val (V_load rfl rfl (Cell.own (.tail _ (.tail _ (.tail _ (.tail _ (.head _))))) rfl)) rfl rfl (.yes rfl rfl rfl rfl) ?_
        refine Q_val (V_move rfl rfl) rfl rfl (.yes rfl rfl rfl rfl) ?_
        refine Q_val (V_sub_i64 rfl rfl rfl (by omega) (by omega)) rfl rfl (.yes rfl rfl rfl rfl) ?_
        refine Q_val (V_idxAddr rfl rfl rfl (SlE.rd (by assumption)) (by omega) (by omega)) rfl rfl (.yes rfl rfl rfl rfl) ?_
        refine Q_val (V_fieldAddrE rfl rfl (by assumption) (by omega) (by decide)) rfl rfl (.yes rfl rfl rfl rfl) ?_
        refine Q_val (V_loadS rfl rfl (SlE.rd (by assumption)) (by assumption) (by simp)) rfl rfl (.yes rfl rfl rfl rfl) ?_
        refine Q_val (V_lss rfl rfl rfl) rfl rfl (.yes rfl rfl rfl rfl) ?_
        refine Q_val (V_pick_t rfl rfl rfl) rfl rfl (.none rfl) ?_
        refine Q_end ?_
        refine X_then ?_
        refine G_cond_t rfl (decide_eq_true (by omega)) ?_
        refine G_seq (G_region ?_)
        refine G_store1 rfl rfl rfl rfl rfl rfl (.none rfl) (.tail _ (.tail _ (.tail _ (.head _ _ _)))) ?_
        refine G_end (X_then (G_ret (X_block_ret ?_)))
        refine G.drop ?_
        refine G_rRet 9 ⟨rfl, rfl, range_not (i := j + 1) (by omega) ?_⟩ rfl (.refl _) rfl
        rw [Nat.add_sub_cancel, hat j hj1, hat (j + 1) hlt, hxe]
        simp [hb]
  · rintro D v ⟨rfl, hall⟩ hE
    have : ordsB g.prods = true := range_all fun i hi => hall i (by simpa [hlen] using hi)
    rw [this]
    refine X_block (X_then (G_seq (G_region ?_)))
    refine G_store1 rfl rfl rfl rfl rfl rfl (.none rfl) (.tail _ (.head _ _ _)) ?_
    refine G_end (X_then (G_ret ?_))
    refine G_leave_ms [D] ?_
    refine G_leaveS (.drop _ (.drop _ (.nil _))) (by exact (.cons (.cell1 rfl (Cell.own1 (.head _))) (.nil))) rfl ?_ ?_
    · exact (.refl _)
    exact ⟨(by kernel_rfl), rfl⟩
  · rintro D q pre v hpre ⟨rfl, rfl, hs⟩ hE
    rw [hs]
    refine G_ret (X_block_ret (X_then_ret ?_))
    refine G_leave_ms [D] ?_
    refine G_leaveS (.drop _ (.drop _ (.nil _))) (by exact (.cons (.cell1 rfl (Cell.own1 (.head _))) (.nil))) rfl ?_ ?_
    · exact (.refl _)
    exact ⟨(by kernel_rfl), rfl⟩
end
end Go.Proofs.Ytaoinojdijbhaaa
