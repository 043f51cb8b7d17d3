/-
  Rules and contracts, packed: B15, B16, H3, H4, H5, H6, H7.
-/
import Derived.Test.YtimiokmgnclggaaGreatQ7
set_option maxHeartbeats 1000000
set_option linter.unusedSimpArgs false
set_option linter.unusedVariables false
set_option maxHeartbeats 2000000
set_option maxRecDepth 20000
namespace Go.Proofs.YtimiokmgnclggaaGreat
open Go.RowKit
/-! The grammar of a text. -/
def prF (names ts : List (List UInt8)) : Nat → List (List UInt8 × List (List (List UInt8))) → List Pr
  | _, [] => []
  | i, r :: rs => r.2.map (fun a => ((16 + i : Int), a.map (symM names ts))) ++ prF names ts (i + 1) rs
def grM (s : Src) : Gr := ⟨s.k, s.toks, s.sep, s.rules.map Prod.fst, symM (s.rules.map Prod.fst) s.toks s.start, prF (s.rules.map Prod.fst) s.toks 0 s.rules⟩
theorem prF_len (names ts : List (List UInt8)) : ∀ (i : Nat) (l : List (List UInt8 × List (List (List UInt8)))), (prF names ts i l).length = (l.map fun x => x.2.length).sum := by
  intro i l
  induction l generalizing i with
  | nil => rfl
  | cons x l ih => simp only [prF, List.length_append, List.length_map, List.map_cons, List.sum_cons, ih]
def altP (names ts : List (List UInt8)) (i : Nat) (l : List AltRow) : List Pr := l.map fun x => ((16 + i : Int), x.2.2.map (symM names ts))
theorem prF_drop (names ts : List (List UInt8)) {rows : List RulRow} {i : Nat} (h : i < rows.length) : prF names ts i (rulC0 (rows.drop i)) = altP names ts i rows[i].2.2.2 ++ prF names ts (i + 1) (rulC0 (rows.drop (i + 1))) := by
  rw [List.drop_eq_getElem_cons h]
  show ((rows[i].2.2.2.map (·.2.2)).map fun a => ((16 + i : Int), a.map (symM names ts))) ++ prF names ts (i + 1) (rulC0 (rows.drop (i + 1))) = _
  rw [List.map_map]
  rfl
section
variable (E : Env) (L : List Res) (s : Src) (hg : SrcGood s) (tp : Option Addr) (tc : Nat) (rp : Option Addr) (rc : Nat) (rows : List RulRow) (ht : SlE E 1 tp s.toks.length (strs s.toks)) (hr : rulC0 rows = s.rules) (hs : SlE E 2 rp rows.length (rulC rows)) (hw : RulsE E rows)
include hg ht hr hs hw
theorem Of9_call : CallS Tryz.prog 21 #[.agg #[.int .i64 s.k, .slice tp s.toks.length tc, .string (S s.sep), .string (S s.start), .slice rp rows.length rc]] E L (fun r E' L' => ∃ v, r = .tuple #[v, .int .i64 0] ∧ GrE E' v (grM s) ∧ L' = L) := by
  have hrl : rows.length = s.rules.length := by rw [← hr, rulC0_len]
  have g1 := hg.t0; have g2 := hg.r0; have g3 := hg.r8; have g4 := hg.t8
  have hnm : s.rules.map Prod.fst = rows.map (·.1) := by rw [← hr, rulC0_fst]
  refine CallS.intro (l := [_]) _ Tryz.func21 rfl Tryz.ntmps21 rfl ?_
  refine G_seq (G_region ?_)
  (refine G_boxA rfl rfl rfl rfl (.none rfl) ?_; intro b1)
  (refine G_alloc rfl rfl rfl (.none rfl) ?_; intro b2)
  refine Ga ?_
  refine G_end (X_then (G_seq (G_region ?_)))
  refine Gv (V_loadA rfl rfl (Cells.own (.tail _ (.head _))) rfl) ?_
  refine G_call (k := 46) (.mk rfl rfl rfl rfl) rfl rfl (.none rfl) (Check8_call _ _ _ (by assumption) _ _ _ _ _ (by assumption) (by assumption) (by assumption) (by assumption)) ?_
  rintro r1 E2 L3 hE4 ⟨rfl, rfl⟩
  replace ht := ht.mono hE4
  replace hs := hs.mono hE4
  replace hw := hw.mono hE4
  refine Ga ?_
  refine G_end (X_then (G_seq (G_seq (G_region ?_))))
  refine Gm ?_
  refine Gv (V_neq rfl rfl rfl) ?_
  refine G_end (X_then ?_)
  refine G_cond_f rfl (by kernel_rfl) ?_
  refine G_skip (X_then (G_seq ?_))
  refine G_drawX 10 [(0, 0), (1, 1), (3, 0), (4, 1), (6, 0), (7, 1), (2, 2), (5, 3), (8, 0), (9, 2)] mixed (by kernel_rfl) ?_
  refine F_pure rfl (fun _ _ => V_fieldAddr rfl rfl (by decide)) rfl rfl (.none rfl) ?_
  refine F_load rfl (.tail _ (.head _)) (V_load rfl rfl (Cell.own (.head _) rfl)) rfl rfl (.none rfl) ?_
  refine F_pure rfl (fun _ _ => V_fieldAddr rfl rfl (by decide)) rfl rfl (.none rfl) ?_
  refine F_load rfl (.tail _ (.head _)) (V_load rfl rfl (Cell.own (.head _) rfl)) rfl rfl (.none rfl) ?_
  refine F_pure rfl (fun _ _ => V_fieldAddr rfl rfl (by decide)) rfl rfl (.none rfl) ?_
  refine F_load rfl (.tail _ (.head _)) (V_load rfl rfl (Cell.own (.head _) rfl)) rfl rfl (.none rfl) ?_
  (refine F_lit0Z rfl rfl rfl rfl (.none rfl) ?_; intro b20 E20 hE20 hs20)
  replace ht := ht.mono hE20
  replace hs := hs.mono hE20
  replace hw := hw.mono hE20
  (refine F_appendZ rfl rfl rfl rfl (by assumption) (by assumption) (by omega) (by omega) (by omega) rfl rfl (.none rfl) ?_; intro b23 c23 E23 hE23 hs23 hc23)
  replace hs20 := hs20.mono hE23
  replace ht := ht.mono hE23
  replace hs := hs.mono hE23
  replace hw := hw.mono hE23
  refine F_pure rfl (fun _ _ => V_build rfl rfl (by simp [fillV, setLs, setL, Value.cells]; rfl)) rfl rfl (.none rfl) ?_
  (refine F_alloc rfl rfl rfl rfl (.none rfl) ?_; intro b5)
  (refine F_end (.nil _) ?_; dsimp only [List.drop])
  refine G_storeA rfl rfl rfl rfl (by simp [Value.oneCell']) rfl (.none rfl) (.head _ _ _) rfl ?_
  refine G_end (X_then (G_seq (G_seq (G_region ?_))))
  refine Ga ?_
  refine G_end (X_then (G_block ?_))
  refine G.nilSl 9 1 ?_
  have hnl : (rows.map (·.1)).length = rows.length := List.length_map _
  refine G_loop (α := Nat × Env × Option Addr × Nat) (fun x => [(1, .pointer (some ⟨b1, 0, none⟩)), (2, .pointer (some ⟨b2, 0, none⟩)), (5, .pointer (some ⟨b5, 0, none⟩)), (6, .int .i64 (x.1 : Nat))]) (fun x => x.2.1)
    (fun x => .sl 9 1 x.2.2.1 x.1 x.2.2.2 (strs ((rows.map (·.1)).take x.1)) :: .blk b5 (.cells #[.int .i64 s.k, .slice (some ⟨b23, 0, none⟩) s.toks.length c23, .string (S s.sep), .slice x.2.2.1 x.1 x.2.2.2, .int .i64 0, .slice none 0 0] 26 (0, 0)) ::
      .blk b2 (.cells #[.int .i64 0, .slice none 0 0, .string (S []), .slice none 0 0, .int .i64 0, .slice none 0 0] 26 (0, 0)) :: SRB b1 s.k tp s.toks.length tc s.sep s.start rp rows.length rc :: L)
    (fun x => E23.Le x.2.1 ∧ x.1 ≤ rows.length) (fun x => rows.length - x.1) (0, E23, none, 0) ⟨.refl _, Nat.zero_le _⟩ ⟨rfl, rfl, rfl, rfl, trivial⟩ rfl rfl ?_
  rintro ⟨i, E0, p, c⟩ ⟨hE, hi⟩
  simp only at hE hi ⊢
  replace ht := ht.mono hE
  replace hs := hs.mono hE
  replace hw := hw.mono hE
  replace hs23 := hs23.mono hE
  by_cases hlt : i < rows.length
  · have x1 := rulC_name (List.getElem?_eq_getElem hlt)
    refine G_seq (G_seq (G_region ?_))
    refine Gm ?_
    refine Gv (V_fieldAddr rfl rfl (by decide)) ?_
    refine Gv (V_load rfl rfl (Cell.own (.tail _ (.tail _ (.tail _ (.head _)))) rfl)) ?_
    refine Gv (V_lenS rfl rfl) ?_
    refine Gv (V_lss rfl rfl rfl) ?_
    refine G_end (X_then ?_)
    refine G_cond_t rfl (decide_eq_true (by omega)) ?_
    refine G_skip (X_then (G_seq (G_block ?_)))
    refine G_drawX 12 [(0, 0), (1, 1), (2, 0), (3, 1), (4, 0), (5, 1), (6, 0), (7, 1), (8, 2), (9, 4), (10, 0), (11, 4)] mixed (by kernel_rfl) ?_
    refine F_pure rfl (fun _ _ => V_fieldAddr rfl rfl (by decide)) rfl rfl (.none rfl) ?_
    refine F_load rfl (.tail _ (.head _)) (V_load rfl rfl (Cell.own (.head _) rfl)) rfl rfl (.none rfl) ?_
    refine F_pure rfl (fun _ _ => V_fieldAddr rfl rfl (by decide)) rfl rfl (.none rfl) ?_
    refine F_load rfl (.tail _ (.tail _ (.tail _ (.head _)))) (V_load rfl rfl (Cell.own (.head _) rfl)) rfl rfl (.none rfl) ?_
    refine F_pure rfl (fun _ _ => V_move rfl rfl) rfl rfl (.none rfl) ?_
    refine F_loadE rfl (V_idxAddr rfl rfl rfl (SlE.rd (by assumption)) (by omega) (by omega)) rfl rfl (.none rfl) ?_
    refine F_pure rfl (fun _ _ => V_fieldAddrX rfl rfl (by assumption) (by omega) (by decide)) rfl rfl (.none rfl) ?_
    refine F_loadE rfl (V_loadS rfl rfl (SlE.rd (by assumption)) (by assumption) (by simp)) rfl rfl (.none rfl) ?_
    (refine F_litZ rfl rfl rfl (by decide) (by simp [fillS, zeros, setLs, setL, Value.cells, List.range, List.range.loop]; rfl) (by rfl) rfl rfl (.none rfl) ?_; intro b42 E42 hE42 hs42)
    replace ht := ht.mono hE42
    replace hs := hs.mono hE42
    replace hw := hw.mono hE42
    replace hs23 := hs23.mono hE42
    (refine F_appendT rfl rfl rfl rfl (by assumption) (by simp [Value.oneCell', strs, i64s]) (by omega) (by omega) rfl rfl (.none rfl) (fun _ _ => (.head _ _ _)) ?_; intro a43 c43; refine ⟨_, (.drop (by kernel_rfl) (.drop (by kernel_rfl) (.drop (by kernel_rfl) (.drop (by kernel_rfl) (.nil))))), ?_⟩)
    refine F_pure rfl (fun _ _ => V_fieldAddr rfl rfl (by decide)) rfl rfl (.none rfl) ?_
    refine F_storeAt rfl rfl rfl rfl rfl rfl rfl (.none rfl) (.tail _ (.head _ _ _)) (Nat.le_of_ble_eq_true rfl) (by simp only [putAll, Nat.zero_add, Nat.reduceAdd, List.setIfInBounds_toArray, List.set_cons_succ, List.set_cons_zero]; rfl) (.nil) ?_
    (refine F_end (.nil _) ?_; dsimp only [List.drop])
    refine G_end (X_block (X_then (G_region ?_)))
    refine Gm ?_
    refine Gv (V_add_i64 rfl rfl rfl (by omega) (by omega)) ?_
    refine Ga ?_
    refine G_end (X_then ?_)
    have ht1 : strs ((rows.map (·.1)).take i) ++ [.string (S rows[i].1)] = strs ((rows.map (·.1)).take (i + 1)) := by rw [List.take_add_one, List.getElem?_eq_getElem (by rw [hnl]; exact hlt)]; simp [strs]
    rw [ht1]
    exact G_again (i + 1, E42, a43, c43) ⟨hE.trans hE42, hlt⟩ (by simp only; omega) ⟨rfl, rfl, rfl, rfl, trivial⟩ rfl rfl
  · obtain rfl : i = rows.length := by omega
    refine G.freezeSl (.head _ _) ?_
    intro E1 hE1 hs1 hc1
    rw [List.take_of_length_le (by rw [hnl]; exact Nat.le_refl _)] at hs1
    have hs24 : SlE E1 1 (some ⟨b23, 0, none⟩) s.toks.length (strs s.toks) := by simpa using hs23.mono hE1
    have hc24 : s.toks.length ≤ c23 := by omega
    clear hs23 hc23
    refine G_seq (G_seq (G_region ?_))
    refine Gm ?_
    refine Gv (V_fieldAddr rfl rfl (by decide)) ?_
    refine Gv (V_load rfl rfl (Cell.own (.tail _ (.tail _ (.head _))) rfl)) ?_
    refine Gv (V_lenS rfl rfl) ?_
    refine Gv (V_lss rfl rfl rfl) ?_
    refine G_end (X_then ?_)
    refine G_cond_f rfl (decide_eq_false (by omega)) ?_
    refine G_exit (X_then_exit (X_then_exit (X_block_hit (X_then (G_seq (G_region ?_))))))
    refine Gv (V_loadA rfl rfl (Cells.own (.head _)) rfl) ?_
    refine Gv (V_fieldAddr rfl rfl (by decide)) ?_
    refine Gv (V_load rfl rfl (Cell.own (.tail _ (.tail _ (.head _))) rfl)) ?_
    refine G_callv (k := 47) (.mk rfl rfl rfl rfl) rfl rfl (.none rfl) (symbol9_call _ _ _ _ _ _ _ _ _ _ _ _ _ _ _ _ (by assumption) (by assumption) (by omega) (by omega) _) ?_
    refine Gv (V_fieldAddr rfl rfl (by decide)) ?_
    refine G_storeAt rfl rfl rfl rfl rfl rfl (.none rfl) (.head _ _ _) (Nat.le_of_ble_eq_true rfl) (by simp only [putAll, Nat.zero_add, Nat.reduceAdd, List.setIfInBounds_toArray, List.set_cons_succ, List.set_cons_zero]; rfl) ?_
    refine G_end (X_then (G_seq (G_seq (G_region ?_))))
    refine Ga ?_
    refine G_end (X_then (G_block ?_))
    have htot : prF (rows.map (·.1)) s.toks 0 (rulC0 rows) = (grM s).prods := by rw [hr, grM, hnm]
    have hcnt : (grM s).prods.length ≤ 24 := by rw [← htot, prF_len, hr]; exact hg.a24
    refine G.nilSl 69 2 ?_
    refine G_loop (α := Nat × List Row × Env × Option Addr × Nat) (fun x => [(1, .pointer (some ⟨b1, 0, none⟩)), (2, .pointer (some ⟨b2, 0, none⟩)), (5, .pointer (some ⟨b5, 0, none⟩)), (7, .int .i64 (x.1 : Nat))]) (fun x => x.2.2.1)
      (fun x => .sl 69 2 x.2.2.2.1 x.2.1.length x.2.2.2.2 (prows x.2.1) :: .blk b5 (.cells #[.int .i64 s.k, .slice (some ⟨b23, 0, none⟩) s.toks.length c23, .string (S s.sep), .slice p rows.length c, .int .i64 (symM (rows.map (·.1)) s.toks s.start), .slice x.2.2.2.1 x.2.1.length x.2.2.2.2] 26 (0, 0)) ::
        .blk b2 (.cells #[.int .i64 0, .slice none 0 0, .string (S []), .slice none 0 0, .int .i64 0, .slice none 0 0] 26 (0, 0)) :: SRB b1 s.k tp s.toks.length tc s.sep s.start rp rows.length rc :: L)
      (fun x => E1.Le x.2.2.1 ∧ x.1 ≤ rows.length ∧ RowsE x.2.2.1 x.2.1 ∧ x.2.1.map (·.2.2) ++ prF (rows.map (·.1)) s.toks x.1 (rulC0 (rows.drop x.1)) = (grM s).prods) (fun x => rows.length - x.1)
      (0, [], E1, none, 0) ⟨.refl _, Nat.zero_le _, (fun x hx => by cases hx), htot⟩ ⟨rfl, rfl, rfl, rfl, trivial⟩ rfl rfl ?_
    rintro ⟨i, rws, E3, pp, pc⟩ ⟨hE3, hi3, hrw, hq⟩
    simp only at hE3 hi3 hrw hq ⊢
    replace hs := (hs.mono hE1).mono hE3
    replace hw := (hw.mono hE1).mono hE3
    replace hs1 := hs1.mono hE3
    replace hs24 := hs24.mono hE3
    clear ht hs20
    by_cases hlt3 : i < rows.length
    · have x1 := rulC_alts (List.getElem?_eq_getElem hlt3)
      have hrm : (rows[i].1, rows[i].2.2.2.map (·.2.2)) ∈ s.rules := by rw [← hr]; exact rulC0_mem hlt3
      have x4 := alts_le hg hr hlt3
      have x5 := (hw _ (List.getElem_mem hlt3)).1
      rw [prF_drop _ _ hlt3] at hq
      obtain ⟨rest, hrest⟩ : ∃ r, prF (rows.map (·.1)) s.toks (i + 1) (rulC0 (rows.drop (i + 1))) = r := ⟨_, rfl⟩
      rw [hrest] at hq
      refine G_seq (G_seq (G_region ?_))
      refine Gm ?_
      refine Gv (V_fieldAddr rfl rfl (by decide)) ?_
      refine Gv (V_load rfl rfl (Cell.own (.tail _ (.tail _ (.tail _ (.head _)))) rfl)) ?_
      refine Gv (V_lenS rfl rfl) ?_
      refine Gv (V_lss rfl rfl rfl) ?_
      refine G_end (X_then ?_)
      refine G_cond_t rfl (decide_eq_true (by omega)) ?_
      refine G_skip (X_then (G_seq (G_block (G_seq (G_region ?_)))))
      refine Ga ?_
      refine G_end (X_then (G_block ?_))
      refine G_loop (α := Nat × List Row × Env × Option Addr × Nat) (fun x => [(1, .pointer (some ⟨b1, 0, none⟩)), (2, .pointer (some ⟨b2, 0, none⟩)), (5, .pointer (some ⟨b5, 0, none⟩)), (7, .int .i64 (i : Nat)), (8, .int .i64 (x.1 : Nat))]) (fun x => x.2.2.1)
        (fun x => .sl 69 2 x.2.2.2.1 x.2.1.length x.2.2.2.2 (prows x.2.1) :: .blk b5 (.cells #[.int .i64 s.k, .slice (some ⟨b23, 0, none⟩) s.toks.length c23, .string (S s.sep), .slice p rows.length c, .int .i64 (symM (rows.map (·.1)) s.toks s.start), .slice x.2.2.2.1 x.2.1.length x.2.2.2.2] 26 (0, 0)) ::
          .blk b2 (.cells #[.int .i64 0, .slice none 0 0, .string (S []), .slice none 0 0, .int .i64 0, .slice none 0 0] 26 (0, 0)) :: SRB b1 s.k tp s.toks.length tc s.sep s.start rp rows.length rc :: L)
        (fun x => E3.Le x.2.2.1 ∧ x.1 ≤ rows[i].2.2.2.length ∧ RowsE x.2.2.1 x.2.1 ∧ x.2.1.map (·.2.2) ++ (altP (rows.map (·.1)) s.toks i (rows[i].2.2.2.drop x.1) ++ rest) = (grM s).prods) (fun x => rows[i].2.2.2.length - x.1)
        (0, rws, E3, pp, pc) ⟨.refl _, Nat.zero_le _, hrw, hq⟩ ⟨rfl, rfl, rfl, rfl, rfl, trivial⟩ rfl rfl ?_
      clear hrw hq
      rintro ⟨j, rws, E4, pp, pc⟩ ⟨hE4, hj, hrw, hq⟩
      simp only at hE4 hj hrw hq ⊢
      replace hs := hs.mono hE4
      replace hw := hw.mono hE4
      replace hs1 := hs1.mono hE4
      replace hs24 := hs24.mono hE4
      replace x5 := x5.mono hE4
      by_cases hlt4 : j < rows[i].2.2.2.length
      · have y1 := altC_get (List.getElem?_eq_getElem hlt4)
        have y2 := hg.a6 _ hrm _ (alt_mem hlt4)
        have y3 := (hw _ (List.getElem_mem hlt3)).2 _ (List.getElem_mem hlt4)
        have y4 : rws.length < 24 := by
          have := congrArg List.length hq
          rw [List.drop_eq_getElem_cons hlt4] at this
          simp only [List.length_append, List.length_map, altP, List.map_cons, List.length_cons] at this
          omega
        rw [List.drop_eq_getElem_cons hlt4] at hq
        refine G_seq (G_seq (G_region ?_))
        refine Gm ?_
        refine Gv (V_fieldAddr rfl rfl (by decide)) ?_
        refine Gv (V_load rfl rfl (Cell.own (.tail _ (.tail _ (.tail _ (.head _)))) rfl)) ?_
        refine Gm ?_
        refine Gv (V_idxAddr rfl rfl rfl (SlE.rd (by assumption)) (by omega) (by omega)) ?_
        refine Gv (V_fieldAddrE rfl rfl (by assumption) (by omega) (by decide)) ?_
        refine Gv (V_loadS rfl rfl (SlE.rd (by assumption)) (by assumption) (by simp)) ?_
        refine Gv (V_lenS rfl rfl) ?_
        refine Gv (V_lss rfl rfl rfl) ?_
        refine G_end (X_then ?_)
        refine G_cond_t rfl (decide_eq_true (by omega)) ?_
        refine G_skip (X_then (G_seq (G_block (G_seq (G_region ?_)))))
        refine Gm ?_
        refine Gv (V_add_i64 rfl rfl rfl (by omega) (by omega)) ?_
        refine Gv (V_build rfl rfl (by simp [fillV, setLs, setL, Value.cells]; rfl)) ?_
        (refine G_alloc rfl rfl rfl (.none rfl) ?_; intro b9)
        refine G_storeA rfl rfl rfl rfl (by simp [Value.oneCell']) rfl (.none rfl) (.head _ _ _) rfl ?_
        refine G_end (X_then (G_seq (G_region ?_)))
        refine Gv (V_fieldAddr rfl rfl (by decide)) ?_
        refine Gv (V_load rfl rfl (Cell.own (.tail _ (.tail _ (.tail _ (.tail _ (.head _))))) rfl)) ?_
        refine Gm ?_
        refine Gv (V_idxAddr rfl rfl rfl (SlE.rd (by assumption)) (by omega) (by omega)) ?_
        refine Gv (V_fieldAddrE rfl rfl (by assumption) (by omega) (by decide)) ?_
        refine Gv (V_loadS rfl rfl (SlE.rd (by assumption)) (by assumption) (by simp)) ?_
        refine Gm ?_
        refine Gv (V_idxAddr rfl rfl rfl (SlE.rd (by assumption)) (by omega) (by omega)) ?_
        refine Gv (V_loadS rfl rfl (SlE.rd (by assumption)) (by assumption) (by simp)) ?_
        refine Ga ?_
        refine G_end (X_then (G_seq (G_seq (G_region ?_))))
        refine Ga ?_
        refine G_end (X_then (G_block ?_))
        refine G.nilSl 3 1 ?_
        generalize hal : rows[i].2.2.2[j] = al at *
        obtain ⟨ap, ac, ws⟩ := al
        simp only at y1 y2 y3 ⊢
        refine G_loop (α := Nat × Env × Option Addr × Nat) (fun x => [(1, .pointer (some ⟨b1, 0, none⟩)), (2, .pointer (some ⟨b2, 0, none⟩)), (5, .pointer (some ⟨b5, 0, none⟩)), (7, .int .i64 (i : Nat)), (8, .int .i64 (j : Nat)), (9, .pointer (some ⟨b9, 0, none⟩)), (10, .slice ap ws.length ac), (11, .int .i64 (x.1 : Nat))]) (fun x => x.2.1)
          (fun x => .sl 3 1 x.2.2.1 x.1 x.2.2.2 (i64s ((ws.map (symM (rows.map (·.1)) s.toks)).take x.1)) :: .blk b9 (.cells #[.int .i64 (16 + (i : Int)), .slice x.2.2.1 x.1 x.2.2.2] 69 (0, 0)) ::
            .sl 69 2 pp rws.length pc (prows rws) :: .blk b5 (.cells #[.int .i64 s.k, .slice (some ⟨b23, 0, none⟩) s.toks.length c23, .string (S s.sep), .slice p rows.length c, .int .i64 (symM (rows.map (·.1)) s.toks s.start), .slice pp rws.length pc] 26 (0, 0)) ::
            .blk b2 (.cells #[.int .i64 0, .slice none 0 0, .string (S []), .slice none 0 0, .int .i64 0, .slice none 0 0] 26 (0, 0)) :: SRB b1 s.k tp s.toks.length tc s.sep s.start rp rows.length rc :: L)
          (fun x => E4.Le x.2.1 ∧ x.1 ≤ ws.length) (fun x => ws.length - x.1)
          (0, E4, none, 0) ⟨.refl _, Nat.zero_le _⟩ ⟨rfl, rfl, rfl, rfl, rfl, rfl, rfl, rfl, trivial⟩ rfl rfl ?_
        rintro ⟨q, E5, qp, qc⟩ ⟨hE5, hq5⟩
        simp only at hE5 hq5 ⊢
        replace hs := hs.mono hE5
        replace hw := hw.mono hE5
        replace hs1 := hs1.mono hE5
        replace hs24 := hs24.mono hE5
        replace x5 := x5.mono hE5
        replace y3 := y3.mono hE5
        replace hrw := hrw.mono hE5
        by_cases hlt5 : q < ws.length
        · have w1 := strs_get (List.getElem?_eq_getElem hlt5)
          refine G_seq (G_seq (G_region ?_))
          refine Gm ?_
          refine Gm ?_
          refine Gv (V_lenS rfl rfl) ?_
          refine Gv (V_lss rfl rfl rfl) ?_
          refine G_end (X_then ?_)
          refine G_cond_t rfl (decide_eq_true (by omega)) ?_
          refine G_skip (X_then (G_seq (G_block ?_)))
          refine G_drawX 12 [(0, 0), (1, 1), (2, 1), (3, 0), (4, 0), (5, 1), (6, 1), (7, 3), (8, 2), (9, 4), (10, 0), (11, 4)] mixed (by kernel_rfl) ?_
          refine F_pure rfl (fun _ _ => V_fieldAddr rfl rfl (by decide)) rfl rfl (.none rfl) ?_
          refine F_load rfl (.tail _ (.head _)) (V_load rfl rfl (Cell.own (.head _) rfl)) rfl rfl (.none rfl) ?_
          refine F_load rfl (.tail _ (.tail _ (.tail _ (.head _)))) (V_loadA rfl rfl (Cells.own (.head _)) rfl) rfl rfl (.none rfl) ?_
          refine F_pure rfl (fun _ _ => V_move rfl rfl) rfl rfl (.none rfl) ?_
          refine F_pure rfl (fun _ _ => V_move rfl rfl) rfl rfl (.none rfl) ?_
          refine F_loadE rfl (V_idxAddr rfl rfl rfl (SlE.rd (by assumption)) (by omega) (by omega)) rfl rfl (.none rfl) ?_
          refine F_loadE rfl (V_loadS rfl rfl (SlE.rd (by assumption)) (by assumption) (by simp)) rfl rfl (.none rfl) ?_
          refine F_callv (k := 47) rfl (.mk rfl rfl rfl rfl) rfl rfl (.none rfl) (fun _ => symbol9_call _ _ _ _ _ _ _ _ _ _ _ _ _ _ _ _ (by assumption) (by assumption) (by omega) (by omega) _) ?_
          (refine F_litZ rfl rfl rfl (by decide) (by simp [fillS, zeros, setLs, setL, Value.cells, List.range, List.range.loop]; rfl) (by rfl) rfl rfl (.none rfl) ?_; intro b94 E94 hE94 hs94)
          replace hs := hs.mono hE94
          replace hw := hw.mono hE94
          replace hs1 := hs1.mono hE94
          replace hs24 := hs24.mono hE94
          replace x5 := x5.mono hE94
          replace y3 := y3.mono hE94
          replace hrw := hrw.mono hE94
          (refine F_appendT rfl rfl rfl rfl (by assumption) (by simp [Value.oneCell', strs, i64s]) (by omega) (by omega) rfl rfl (.none rfl) (fun _ _ => (.head _ _ _)) ?_; intro a95 c95; refine ⟨_, (.drop (by kernel_rfl) (.drop (by kernel_rfl) (.drop (by kernel_rfl) (.drop (by kernel_rfl) (.nil))))), ?_⟩)
          refine F_pure rfl (fun _ _ => V_fieldAddr rfl rfl (by decide)) rfl rfl (.none rfl) ?_
          refine F_storeAt rfl rfl rfl rfl rfl rfl rfl (.none rfl) (.tail _ (.head _ _ _)) (Nat.le_of_ble_eq_true rfl) (by simp only [putAll, Nat.zero_add, Nat.reduceAdd, List.setIfInBounds_toArray, List.set_cons_succ, List.set_cons_zero]; rfl) (.nil) ?_
          (refine F_end (.nil _) ?_; dsimp only [List.drop])
          refine G_end (X_block (X_then (G_region ?_)))
          refine Gm ?_
          refine Gv (V_add_i64 rfl rfl rfl (by omega) (by omega)) ?_
          refine Ga ?_
          refine G_end (X_then ?_)
          have w2 : i64s ((ws.map (symM (rows.map (·.1)) s.toks)).take q) ++ [.int .i64 (symM (rows.map (·.1)) s.toks ws[q])] = i64s ((ws.map (symM (rows.map (·.1)) s.toks)).take (q + 1)) := by
            rw [List.take_add_one, List.getElem?_eq_getElem (by rw [List.length_map]; exact hlt5)]; simp [i64s]
          rw [w2]
          exact G_again (q + 1, E94, a95, c95) ⟨hE5.trans hE94, hlt5⟩ (by simp only; omega) ⟨rfl, rfl, rfl, rfl, rfl, rfl, rfl, rfl, trivial⟩ rfl rfl
        · obtain rfl : q = ws.length := by omega
          refine G.freezeSl (.head _ _) ?_
          intro E6 hE6 hs6 hc6
          refine G_seq (G_seq (G_region ?_))
          refine Gm ?_
          refine Gm ?_
          refine Gv (V_lenS rfl rfl) ?_
          refine Gv (V_lss rfl rfl rfl) ?_
          refine G_end (X_then ?_)
          refine G_cond_f rfl (decide_eq_false (by omega)) ?_
          refine G_exit (X_then_exit (X_then_exit (X_block_hit (X_then (G_region ?_)))))
          refine Gv (V_fieldAddr rfl rfl (by decide)) ?_
          refine Gv (V_load rfl rfl (Cell.own (.tail _ (.tail _ (.head _))) rfl)) ?_
          refine Gv (V_loadA rfl rfl (Cells.own (.head _)) rfl) ?_
          (refine G_lit rfl rfl (by decide) (by simp [fillS, zeros, setLs, setL, Value.cells, List.range, List.range.loop]; rfl) rfl rfl (.none rfl) ?_; intro b100)
          (refine G_append rfl rfl rfl (Rd.lit (.head _) rfl) (by simp [Value.oneCell']) (by omega) (by omega) rfl rfl (.none rfl) (fun _ _ => (.tail _ (.tail _ (.head _ _ _)))) ?_; intro a101 c101; refine G.rm (.head _ _) ?_)
          refine Gv (V_fieldAddr rfl rfl (by decide)) ?_
          refine G_storeAt rfl rfl rfl rfl rfl rfl (.none rfl) (.tail _ (.tail _ (.head _ _ _))) (Nat.le_of_ble_eq_true rfl) (by simp only [putAll, Nat.zero_add, Nat.reduceAdd, List.setIfInBounds_toArray, List.set_cons_succ, List.set_cons_zero]; rfl) ?_
          refine G_end (X_block (X_then (G_region ?_)))
          refine Gm ?_
          refine Gv (V_add_i64 rfl rfl rfl (by omega) (by omega)) ?_
          refine Ga ?_
          refine G_end (X_then ?_)
          rw [List.take_of_length_le (by rw [List.length_map]; exact Nat.le_refl _)] at hs6
          have w3 : prows rws ++ [.int .i64 (16 + (i : Int)), .slice qp ws.length qc] = prows (rws ++ [(qp, qc, (16 + i : Int), ws.map (symM (rows.map (·.1)) s.toks))]) := by simp [prows, prow]
          have w4 : (rws ++ [((qp, qc, (16 + i : Int), ws.map (symM (rows.map (·.1)) s.toks)) : Row)]).length = rws.length + 1 := by simp
          rw [w3]
          refine G.drop ?_
          refine G_again (j + 1, rws ++ [(qp, qc, (16 + i : Int), ws.map (symM (rows.map (·.1)) s.toks))], E6, a101, c101) ⟨(hE4.trans hE5).trans hE6, hlt4, ?_, ?_⟩ (by simp only; omega) ⟨rfl, rfl, rfl, rfl, rfl, trivial⟩ rfl (by simp only [w4])
          · intro x hx
            rcases List.mem_append.1 hx with h | h
            · exact hrw.mono hE6 x h
            · rw [List.mem_singleton.1 h]; simpa using hs6
          · rw [← hq]
            simp [altP]
      · obtain rfl : j = rows[i].2.2.2.length := by omega
        refine G_seq (G_seq (G_region ?_))
        refine Gm ?_
        refine Gv (V_fieldAddr rfl rfl (by decide)) ?_
        refine Gv (V_load rfl rfl (Cell.own (.tail _ (.tail _ (.tail _ (.head _)))) rfl)) ?_
        refine Gm ?_
        refine Gv (V_idxAddr rfl rfl rfl (SlE.rd (by assumption)) (by omega) (by omega)) ?_
        refine Gv (V_fieldAddrE rfl rfl (by assumption) (by omega) (by decide)) ?_
        refine Gv (V_loadS rfl rfl (SlE.rd (by assumption)) (by assumption) (by simp)) ?_
        refine Gv (V_lenS rfl rfl) ?_
        refine Gv (V_lss rfl rfl rfl) ?_
        refine G_end (X_then ?_)
        refine G_cond_f rfl (decide_eq_false (by omega)) ?_
        refine G_exit (X_then_exit (X_then_exit (X_block_hit (X_block (X_then (G_region ?_))))))
        refine Gm ?_
        refine Gv (V_add_i64 rfl rfl rfl (by omega) (by omega)) ?_
        refine Ga ?_
        refine G_end (X_then ?_)
        refine G_again (i + 1, rws, E4, pp, pc) ⟨hE3.trans hE4, hlt3, hrw, ?_⟩ (by simp only; omega) ⟨rfl, rfl, rfl, rfl, trivial⟩ rfl rfl
        rw [List.drop_length] at hq
        show rws.map (·.2.2) ++ prF (rows.map (·.1)) s.toks (i + 1) (rulC0 (rows.drop (i + 1))) = _
        rw [hrest]
        exact hq
    · obtain rfl : i = rows.length := by omega
      rw [List.drop_length] at hq
      simp only [rulC0, List.map_nil, prF, List.append_nil] at hq
      refine G.freezeSl (.head _ _) ?_
      intro E9 hE9 hs9 hc9
      have hfin : GrE E9 (.agg #[.int .i64 s.k, .slice (some ⟨b23, 0, none⟩) s.toks.length c23, .string (S s.sep), .slice p rows.length c, .int .i64 (symM (rows.map (·.1)) s.toks s.start), .slice pp rws.length pc]) (grM s) := by
        have e1 : (grM s).names.length = rows.length := by show (s.rules.map Prod.fst).length = _; rw [hnm, hnl]
        have e2 : (grM s).prods.length = rws.length := by rw [← hq, List.length_map]
        refine ⟨some ⟨b23, 0, none⟩, c23, p, c, pp, pc, ?_, hs24.mono hE9, ?_, ?_, hc24, ?_, ?_⟩
        · rw [e1, e2]; show _ = Value.agg #[.int .i64 s.k, .slice (some ⟨b23, 0, none⟩) s.toks.length c23, .string (S s.sep), .slice p rows.length c, .int .i64 (symM (s.rules.map Prod.fst) s.toks s.start), .slice pp rws.length pc]; rw [hnm]
        · rw [e1]; show SlE E9 1 p rows.length (strs (s.rules.map Prod.fst)); rw [hnm]; exact hs1.mono hE9
        · rw [e2]; exact ⟨rws, hq, hs9, hrw.mono hE9⟩
        · rw [e1]; exact hc1
        · rw [e2]; exact hc9
      refine G_seq (G_seq (G_region ?_))
      refine Gm ?_
      refine Gv (V_fieldAddr rfl rfl (by decide)) ?_
      refine Gv (V_load rfl rfl (Cell.own (.tail _ (.tail _ (.head _))) rfl)) ?_
      refine Gv (V_lenS rfl rfl) ?_
      refine Gv (V_lss rfl rfl rfl) ?_
      refine G_end (X_then ?_)
      refine G_cond_f rfl (decide_eq_false (by omega)) ?_
      refine G_exit (X_then_exit (X_then_exit (X_block_hit (X_then (G_seq (G_region ?_))))))
      refine Gv (V_loadA rfl rfl (Cells.own (.head _)) rfl) ?_
      refine G_storeA rfl rfl rfl rfl (by simp [Value.oneCell']) rfl (.none rfl) (.tail _ (.head _ _ _)) rfl ?_
      refine Ga ?_
      refine G_end (X_then (G_ret ?_))
      refine G_leaveS (.drop _ (.drop _ (.drop _ (.nil _)))) (by exact (.cons (.cellA rfl (Cells.own (.tail _ (.head _))) rfl) (.cons (.tmp rfl) (.nil)))) rfl ?_ ?_
      · exact ((((((hE4.trans hE20).trans hE23).trans hE).trans hE1).trans hE3).trans hE9)
      exact ⟨_, ⟨rfl, ⟨(by assumption), rfl⟩⟩⟩
end
end Go.Proofs.YtimiokmgnclggaaGreat
set_option linter.unusedSimpArgs false
set_option linter.unusedVariables false
set_option maxHeartbeats 2000000
set_option maxRecDepth 20000
namespace Go.Proofs.YtimiokmgnclggaaGreat
open Go.RowKit
/-! The kit's grammar texts. -/
def rul16 : List (Nat × Nat × List UInt8) := [
  (1, 1, [83, 32, 61, 32, 97, 32, 83, 32, 124, 32, 59]),
  (1, 2, [83, 32, 61, 32, 97, 32, 84, 32, 124, 32, 59, 32, 84, 32, 61, 32, 98, 32, 83, 32, 59]),
  (2, 2, [83, 32, 61, 32, 97, 32, 84, 32, 124, 32, 59, 32, 84, 32, 61, 32, 98, 32, 83, 32, 59]),
  (2, 2, [83, 32, 61, 32, 97, 32, 124, 32, 97, 32, 98, 32, 59]),
  (1, 3, [83, 32, 61, 32, 97, 32, 83, 32, 98, 32, 124, 32, 99, 32, 59]),
  (1, 3, [83, 32, 61, 32, 84, 32, 85, 32, 59, 32, 84, 32, 61, 32, 97, 32, 84, 32, 124, 32, 59, 32, 85, 32, 61, 32, 98, 32, 85, 32, 124, 32, 99, 32, 59]),
  (2, 3, [83, 32, 61, 32, 97, 32, 97, 32, 83, 32, 124, 32, 97, 32, 98, 32, 124, 32, 99, 32, 59]),
  (1, 3, [83, 32, 61, 32, 97, 32, 84, 32, 99, 32, 59, 32, 84, 32, 61, 32, 98, 32, 84, 32, 124, 32, 85, 32, 59, 32, 85, 32, 61, 32, 59]),
  (2, 3, [83, 32, 61, 32, 84, 32, 99, 32, 124, 32, 98, 32, 83, 32, 59, 32, 84, 32, 61, 32, 98, 32, 97, 32, 124, 32, 59]),
  (1, 2, [83, 32, 61, 32, 97, 32, 83, 32, 83, 32, 124, 32, 98, 32, 59]),
  (3, 2, [83, 32, 61, 32, 97, 32, 97, 32, 97, 32, 124, 32, 97, 32, 97, 32, 98, 32, 83, 32, 124, 32, 98, 32, 59]),
  (1, 4, [83, 32, 61, 32, 97, 32, 76, 32, 98, 32, 59, 32, 76, 32, 61, 32, 69, 32, 77, 32, 59, 32, 77, 32, 61, 32, 99, 32, 69, 32, 77, 32, 124, 32, 59, 32, 69, 32, 61, 32, 100, 32, 124, 32, 83, 32, 59]),
  (2, 2, [83, 32, 61, 32, 84, 32, 84, 32, 59, 32, 84, 32, 61, 32, 97, 32, 98, 32, 124, 32, 98, 32, 97, 32, 59]),
  (1, 1, [83, 32, 61, 32, 97, 32, 59]),
  (2, 3, [83, 32, 61, 32, 97, 32, 84, 32, 124, 32, 97, 32, 98, 32, 99, 32, 59, 32, 84, 32, 61, 32, 97, 32, 124, 32, 99, 32, 83, 32, 59]),
  (1, 2, [83, 32, 61, 32, 84, 32, 85, 32, 84, 32, 59, 32, 84, 32, 61, 32, 59, 32, 85, 32, 61, 32, 97, 32, 85, 32, 98, 32, 124, 32, 59])]
def rulS (x : Nat × Nat × List UInt8) : List UInt8 := UInt8.ofNat (48 + x.1) :: 32 :: UInt8.ofNat (48 + x.2.1) :: 32 :: x.2.2
theorem rul16_sm : ∀ x, x ∈ rul16 → (1 ≤ x.1 ∧ x.1 ≤ 3) ∧ (1 ≤ x.2.1 ∧ x.2.1 ≤ 4) ∧ x.2.2.length ≤ 100 := by
  have h : rul16.all (fun x => decide ((1 ≤ x.1 ∧ x.1 ≤ 3) ∧ (1 ≤ x.2.1 ∧ x.2.1 ≤ 4) ∧ x.2.2.length ≤ 100)) = true := by kernel_rfl
  intro x hx
  exact of_decide_eq_true (List.all_eq_true.1 h x hx)
theorem dig_toNat {k : Nat} (h : k ≤ 100) : (UInt8.ofNat (48 + k)).toNat = 48 + k := by
  rw [UInt8.toNat_ofNat']
  omega
section
variable (E : Env) (L : List Res)
theorem rules_call (n : Int) (hn : -9223372036854775808 ≤ n ∧ n ≤ 9223372036854775807) : CallS Tryz.prog 45 #[.int .i64 n] E L
    (fun r E' L' => ∃ x, x ∈ rul16 ∧ r = .tuple #[.int .i64 x.1, .int .i64 x.2.1, .string (S x.2.2)] ∧ L' = L) := by
  have hjl : (n % ((16 : Nat) : Int)).toNat < rul16.length := show _ < 16 by omega
  have x1 : (strs (rul16.map rulS))[(n % ((16 : Nat) : Int)).toNat * 1]? = some (.string (S (rulS rul16[(n % ((16 : Nat) : Int)).toNat]))) := by
    rw [Nat.mul_one]
    exact strs_get (by rw [List.getElem?_map, List.getElem?_eq_getElem hjl]; rfl)
  have hmem : rul16[(n % ((16 : Nat) : Int)).toNat] ∈ rul16 := List.getElem_mem hjl
  obtain ⟨⟨s1, s2⟩, ⟨s3, s4⟩, s5⟩ := rul16_sm _ hmem
  generalize rul16[(n % ((16 : Nat) : Int)).toNat] = x at *
  obtain ⟨k, t, txt⟩ := x
  simp only at s1 s2 s3 s4 s5 x1
  have q1 := dig_toNat (k := k) (by omega)
  have q2 := dig_toNat (k := t) (by omega)
  have z0 : (rulS (k, t, txt))[(0 : Int).toNat]? = some (UInt8.ofNat (48 + k)) := rfl
  have z2 : (rulS (k, t, txt))[(2 : Int).toNat]? = some (UInt8.ofNat (48 + t)) := rfl
  have zl : (rulS (k, t, txt)).length = txt.length + 4 := rfl
  refine CallS.intro (l := [_]) _ Tryz.func45 rfl Tryz.ntmps45 rfl ?_
  refine G_seq (G_region ?_)
  refine Ga ?_
  refine Ga ?_
  refine Ga ?_
  refine G_end (X_then (G_seq (G_region ?_)))
  (refine G_lit rfl rfl (by decide) (by simp [fillS, zeros, setLs, setL, Value.cells, List.range, List.range.loop]; rfl) rfl rfl (.none rfl) ?_; intro b7)
  refine Ga ?_
  refine G_end (X_then (G_seq (G_region ?_)))
  refine Gm ?_
  refine Gm ?_
  refine Gm ?_
  refine Gv (V_lenS rfl rfl) ?_
  refine G.freezeB (k := 16) (sz := 1) (.head _ _) rfl ?_
  intro E1 hE1 hs1
  have hs2 : SlE E1 1 (some ⟨b7, 0, none⟩) 16 (strs (rul16.map rulS)) := hs1
  clear hs1
  refine G_callv (k := 14) (.mk rfl rfl rfl rfl) rfl rfl (.none rfl) (Mod_call' _ _ _ _ (by assumption) (by omega)) ?_
  refine Gv (V_idxAddr rfl rfl rfl (SlE.rd (by assumption)) (by omega) (by omega)) ?_
  refine Gv (V_loadS rfl rfl (SlE.rd (by assumption)) (by assumption) (by simp)) ?_
  refine Ga ?_
  refine G_end (X_then (G_seq ?_))
  refine G_draw mixed (by kernel_rfl) ?_
  refine Q_val (V_move rfl rfl) rfl rfl (.none rfl) ?_
  refine Q_val (V_sidx rfl rfl rfl (by omega) (by assumption)) rfl rfl (.none rfl) ?_
  refine Q_val (V_sub_u8 rfl rfl rfl (by omega) (by omega)) rfl rfl (.none rfl) ?_
  refine Q_val (V_conv_i64 rfl rfl (by omega) (by omega)) rfl rfl (.none rfl) ?_
  refine Q_val (V_move rfl rfl) rfl rfl (.none rfl) ?_
  refine Q_val (V_sidx rfl rfl rfl (by omega) (by assumption)) rfl rfl (.none rfl) ?_
  refine Q_val (V_sub_u8 rfl rfl rfl (by omega) (by omega)) rfl rfl (.none rfl) ?_
  refine Q_val (V_conv_i64 rfl rfl (by omega) (by omega)) rfl rfl (.none rfl) ?_
  refine Q_val (V_move rfl rfl) rfl rfl (.none rfl) ?_
  refine Q_val (V_back rfl rfl rfl (by omega) (by omega)) rfl rfl (.none rfl) ?_
  refine Q_val (V_assign rfl rfl) rfl rfl (.none rfl) ?_
  refine Q_val (V_assign rfl rfl) rfl rfl (.none rfl) ?_
  refine Q_val (V_assign rfl rfl) rfl rfl (.none rfl) ?_
  refine Q_end ?_
  refine X_then (G_ret ?_)
  refine G_leaveS (.nil _) (by exact (.cons (.tmp rfl) (.cons (.tmp rfl) (.cons (.tmp rfl) (.nil))))) rfl ?_ ?_
  · exact hE1
  have q3 : ((48 + k : Nat) : Int) - 48 = k := by omega
  have q4 : ((48 + t : Nat) : Int) - 48 = t := by omega
  refine ⟨_, hmem, ?_, rfl⟩
  rw [q1, q2, q3, q4]
  rfl
def tokT (base : List UInt8) : Nat → List UInt8
  | 0 => base
  | i + 1 => tokT base i ++ [44, 32] ++ [UInt8.ofNat (97 + (i + 1))]
def txtM (k t : Nat) (s : List UInt8) : List UInt8 := tokT ([108, 111, 111, 107, 97, 104, 101, 97, 100, 32] ++ [UInt8.ofNat (48 + k)] ++ [59, 32, 116, 111, 107, 101, 110, 32, 97]) (t - 1) ++ [59, 32, 115, 101, 112, 97, 114, 97, 116, 111, 114, 32, 122, 59, 32, 115, 116, 97, 114, 116, 32, 83, 59, 32] ++ s
def kitTexts : List (List UInt8) := rul16.flatMap fun x => [txtM x.1 x.2.1 x.2.2, txtM x.1 (x.2.1 + 1) x.2.2, txtM (x.1 + 1) x.2.1 x.2.2, txtM (x.1 + 1) (x.2.1 + 1) x.2.2]
theorem tokT_len (base : List UInt8) : ∀ i, (tokT base i).length = base.length + 3 * i := by
  intro i
  induction i with
  | zero => rfl
  | succ i ih => simp only [tokT, List.length_append, ih, List.length_cons, List.length_nil]; omega
def txtB (k : Nat) : List UInt8 := [108, 111, 111, 107, 97, 104, 101, 97, 100, 32] ++ [UInt8.ofNat (48 + k)] ++ [59, 32, 116, 111, 107, 101, 110, 32, 97]
theorem low_toNat {k : Nat} (h : k ≤ 100) : (UInt8.ofNat (97 + k)).toNat = 97 + k := by
  rw [UInt8.toNat_ofNat']
  omega
theorem mem16 {k t k' t' : Nat} {s : List UInt8} (h : (k, t, s) ∈ rul16) (hk : k' = k ∨ k' = k + 1) (ht : t' = t ∨ t' = t + 1) : txtM k' t' s ∈ kitTexts := by
  refine List.mem_flatMap.2 ⟨_, h, ?_⟩
  rcases hk with rfl | rfl <;> rcases ht with rfl | rfl <;> simp
theorem Text_call (n : Int) (hn : -9223372036854775808 ≤ n ∧ n ≤ 9223372036854775807) : CallS Tryz.prog 20 #[.int .i64 n] E L
    (fun r E' L' => ∃ s, s ∈ kitTexts ∧ r = .string (S s) ∧ L' = L) := by
  have hm1 := Int.emod_nonneg n (b := 1099511627776) (by omega)
  have hm2 := Int.emod_lt_of_pos n (b := 1099511627776) (by omega)
  refine CallS.intro (l := [_]) _ Tryz.func20 rfl Tryz.ntmps20 rfl ?_
  refine G_seq (G_region ?_)
  refine Ga ?_
  refine G_end (X_then (G_seq (G_region ?_)))
  refine Gm ?_
  refine G_call (k := 45) (.mk rfl rfl rfl rfl) rfl rfl (.none rfl) (rules_call _ _ n hn) ?_
  rintro q1 E1 L1 hE1 ⟨⟨k, t, txt⟩, hmem, rfl, rfl⟩
  obtain ⟨⟨s1, s2⟩, ⟨s3, s4⟩, s5⟩ := rul16_sm _ hmem
  simp only at s1 s2 s3 s4 s5 ⊢
  refine Gm ?_
  refine Gv (V_extract rfl rfl rfl) ?_
  refine Gv (V_extract rfl rfl rfl) ?_
  refine Gv (V_extract rfl rfl rfl) ?_
  refine Ga ?_
  refine Ga ?_
  refine Ga ?_
  refine G_end (X_then (G_seq (G_region ?_)))
  refine Gm ?_
  refine G_callv (k := 14) (.mk rfl rfl rfl rfl) rfl rfl (.none rfl) (Mod_call' _ _ _ _ (by assumption) (by omega)) ?_
  refine Gv (V_quo_n rfl rfl rfl (by omega) (by omega) (by simp [IntKind.max, IntKind.signed, IntKind.bits]; omega)) ?_
  refine Ga ?_
  refine G_end (X_then (G_seq (G_seq (G_region ?_))))
  refine Gm ?_
  refine Gv (V_rem_n rfl rfl rfl (by omega) (by omega)) ?_
  refine Gv (V_eql rfl rfl rfl) ?_
  refine Gm ?_
  apply G_joinAnd 3 21 24 rfl
  · intro H1
    dsimp only [List.take]
    simp only [Bool.and_eq_true, Bool.or_eq_true, Bool.not_eq_true', Bool.not_eq_false', Bool.and_eq_false_iff, Bool.or_eq_false_iff, Bool.not_not, decide_eq_true_eq, decide_eq_false_iff_not, ne_eq, Decidable.not_not, Bool.decide_eq_true] at H1
    refine Gy (V_move rfl rfl) ?_
    refine Gy (V_lss rfl rfl rfl) ?_
    refine Gv (V_pick_t rfl rfl rfl) ?_
    refine G_end ?_
    exact JQ_end 3 rfl rfl (by kernel_rfl)
  · intro H2
    dsimp only [List.take]
    simp only [Bool.and_eq_true, Bool.or_eq_true, Bool.not_eq_true', Bool.not_eq_false', Bool.and_eq_false_iff, Bool.or_eq_false_iff, Bool.not_not, decide_eq_true_eq, decide_eq_false_iff_not, ne_eq, Decidable.not_not, Bool.decide_eq_true] at H2
    refine Gn ?_
    refine Gn ?_
    refine Gv (V_pick_f rfl rfl rfl) ?_
    refine G_end ?_
    exact JQ_end 3 rfl rfl (by kernel_rfl)
  dsimp only [List.drop]
  refine G_end (X_then ?_)
  refine G.bool 24 rfl (fun h1 => ?_) (fun h1 => ?_)
  · refine G_cond_t rfl rfl ?_
    refine G_region ?_
    refine Gm ?_
    refine Gv (V_add_i64 rfl rfl rfl (by omega) (by omega)) ?_
    refine Ga ?_
    refine G_end (X_then (G_seq (G_seq (G_region ?_))))
    refine Gm ?_
    refine Gv (V_quo_n rfl rfl rfl (by omega) (by omega) (by simp [IntKind.max, IntKind.signed, IntKind.bits]; omega)) ?_
    refine Gv (V_rem_n rfl rfl rfl (by omega) (by omega)) ?_
    refine Gv (V_eql rfl rfl rfl) ?_
    refine Gm ?_
    apply G_joinAnd 3 31 34 rfl
    · intro H1
      dsimp only [List.take]
      simp only [Bool.and_eq_true, Bool.or_eq_true, Bool.not_eq_true', Bool.not_eq_false', Bool.and_eq_false_iff, Bool.or_eq_false_iff, Bool.not_not, decide_eq_true_eq, decide_eq_false_iff_not, ne_eq, Decidable.not_not, Bool.decide_eq_true] at H1
      refine Gy (V_move rfl rfl) ?_
      refine Gy (V_lss rfl rfl rfl) ?_
      refine Gv (V_pick_t rfl rfl rfl) ?_
      refine G_end ?_
      exact JQ_end 3 rfl rfl (by kernel_rfl)
    · intro H2
      dsimp only [List.take]
      simp only [Bool.and_eq_true, Bool.or_eq_true, Bool.not_eq_true', Bool.not_eq_false', Bool.and_eq_false_iff, Bool.or_eq_false_iff, Bool.not_not, decide_eq_true_eq, decide_eq_false_iff_not, ne_eq, Decidable.not_not, Bool.decide_eq_true] at H2
      refine Gn ?_
      refine Gn ?_
      refine Gv (V_pick_f rfl rfl rfl) ?_
      refine G_end ?_
      exact JQ_end 3 rfl rfl (by kernel_rfl)
    dsimp only [List.drop]
    refine G_end (X_then ?_)
    refine G.bool 34 rfl (fun h2 => ?_) (fun h2 => ?_)
    · simp only [Bool.and_eq_true, decide_eq_true_eq, Bool.and_eq_false_iff, decide_eq_false_iff_not] at h1 h2
      refine G_cond_t rfl rfl ?_
      refine G_region ?_
      refine Gm ?_
      refine Gv (V_add_i64 rfl rfl rfl (by omega) (by omega)) ?_
      refine Ga ?_
      refine G_end (X_then (G_seq (G_region ?_)))
      refine Gm ?_
      refine Gv (V_add_i64 rfl rfl rfl (by omega) (by omega)) ?_
      refine Gv (V_conv_u8 rfl rfl (by omega) (by omega)) ?_
      (refine G_lit1 rfl rfl rfl rfl rfl (.none rfl) ?_; intro b40)
      refine G.freeze (.head _ _) ?_
      intro E2 hE2 hok2
      have hbs : SlE E2 1 (some ⟨b40, 0, none⟩) 1 ([UInt8.ofNat (48 + (k + 1))].map fun b => .int .u8 b.toNat) := by
        rw [List.map_cons, List.map_nil, dig_toNat (by omega)]; exact SlE.lit hok2 rfl
      have c1 : ([108, 111, 111, 107, 97, 104, 101, 97, 100, 32] : List UInt8).length = 10 := rfl
      have c2 : [UInt8.ofNat (48 + (k + 1))].length = 1 := rfl
      have c3 : ([59, 32, 116, 111, 107, 101, 110, 32, 97] : List UInt8).length = 9 := rfl
      refine Gv (V_b2s rfl rfl (SlE.rd (by assumption))) ?_
      refine Gv (V_cat rfl rfl rfl (by omega)) ?_
      refine Gv (V_cat rfl rfl rfl (by simp only [List.length_append]; omega)) ?_
      refine Ga ?_
      refine G_end (X_then (G_seq (G_seq (G_region ?_))))
      refine Ga ?_
      refine G_end (X_then (G_block ?_))
      refine G_loop (α := Nat × Env) (fun x => [(4, .int .i64 ((t + 1) : Nat)), (5, .string (S txt)), (7, .string (S (tokT (txtB (k + 1)) x.1))), (8, .int .i64 (x.1 + 1 : Nat))]) (fun x => x.2) (fun _ => L1) (fun x => E2.Le x.2 ∧ x.1 + 1 ≤ (t + 1)) (fun x => (t + 1) - x.1) (0, E2) ⟨.refl _, by omega⟩ ⟨rfl, rfl, rfl, rfl, trivial⟩ rfl rfl ?_
      rintro ⟨i, E3⟩ ⟨hE3, hi⟩
      simp only at hE3 hi ⊢
      have hlen := tokT_len (txtB (k + 1)) i
      have hlb : (txtB (k + 1)).length = 20 := rfl
      have c4 : ([44, 32] : List UInt8).length = 2 := rfl
      have c5 : [UInt8.ofNat (97 + (i + 1))].length = 1 := rfl
      have c6 : ([59, 32, 115, 101, 112, 97, 114, 97, 116, 111, 114, 32, 122, 59, 32, 115, 116, 97, 114, 116, 32, 83, 59, 32] : List UInt8).length = 24 := rfl
      by_cases hlt : i + 1 < (t + 1)
      · refine G_seq ?_
        refine G_seq (G_region ?_)
        refine Gm ?_
        refine Gm ?_
        refine Gv (V_lss rfl rfl rfl) ?_
        refine G_end (X_then ?_)
        refine G_cond_t rfl (decide_eq_true (by omega)) ?_
        refine G_skip (X_then (G_seq (G_block (G_region ?_))))
        refine Gm ?_
        refine Gv (V_cat rfl rfl rfl (by simp; omega)) ?_
        refine Gm ?_
        refine Gv (V_add_i64 rfl rfl rfl (by omega) (by omega)) ?_
        refine Gv (V_conv_u8 rfl rfl (by omega) (by omega)) ?_
        (refine G_lit1 rfl rfl rfl rfl rfl (.none rfl) ?_; intro b54)
        refine G.freeze (.head _ _) ?_
        intro E4 hE4 hok4
        have hbs4 : SlE E4 1 (some ⟨b54, 0, none⟩) 1 ([UInt8.ofNat (97 + (i + 1))].map fun b => .int .u8 b.toNat) := by
          rw [List.map_cons, List.map_nil, low_toNat (by omega)]; exact SlE.lit hok4 rfl
        refine Gv (V_b2s rfl rfl (SlE.rd (by assumption))) ?_
        refine Gv (V_cat rfl rfl rfl (by simp; omega)) ?_
        refine Ga ?_
        refine G_end (X_block (X_then (G_region ?_)))
        refine Gm ?_
        refine Gv (V_add_i64 rfl rfl rfl (by omega) (by omega)) ?_
        refine Ga ?_
        refine G_end (X_then ?_)
        exact G_again (i + 1, E4) ⟨hE3.trans hE4, hlt⟩ (by simp only; omega) ⟨rfl, rfl, rfl, rfl, trivial⟩ rfl rfl
      · have hi1 : i = (t + 1) - 1 := by omega
        refine G_seq (G_seq (G_region ?_))
        refine Gm ?_
        refine Gm ?_
        refine Gv (V_lss rfl rfl rfl) ?_
        refine G_end (X_then ?_)
        refine G_cond_f rfl (decide_eq_false (by omega)) ?_
        refine G_exit (X_then_exit (X_then_exit (X_block_hit (X_then (G_seq (G_region ?_))))))
        refine Gm ?_
        refine Gv (V_cat rfl rfl rfl (by simp; omega)) ?_
        refine Gm ?_
        refine Gv (V_cat rfl rfl rfl (by simp; omega)) ?_
        refine Ga ?_
        refine G_end (X_then (G_ret ?_))
        refine G_leaveS (.nil _) (by exact (.cons (.tmp rfl) (.nil))) rfl ?_ ?_
        · exact ((hE1.trans hE2).trans hE3)
        exact ⟨txtM (k + 1) (t + 1) txt, mem16 hmem (by omega) (by omega), by rw [txtM, ← hi1]; rfl, rfl⟩
    · simp only [Bool.and_eq_true, decide_eq_true_eq, Bool.and_eq_false_iff, decide_eq_false_iff_not] at h1 h2
      refine G_cond_f rfl rfl ?_
      refine G_skip (X_then (G_seq (G_region ?_)))
      refine Gm ?_
      refine Gv (V_add_i64 rfl rfl rfl (by omega) (by omega)) ?_
      refine Gv (V_conv_u8 rfl rfl (by omega) (by omega)) ?_
      (refine G_lit1 rfl rfl rfl rfl rfl (.none rfl) ?_; intro b40)
      refine G.freeze (.head _ _) ?_
      intro E2 hE2 hok2
      have hbs : SlE E2 1 (some ⟨b40, 0, none⟩) 1 ([UInt8.ofNat (48 + (k + 1))].map fun b => .int .u8 b.toNat) := by
        rw [List.map_cons, List.map_nil, dig_toNat (by omega)]; exact SlE.lit hok2 rfl
      have c1 : ([108, 111, 111, 107, 97, 104, 101, 97, 100, 32] : List UInt8).length = 10 := rfl
      have c2 : [UInt8.ofNat (48 + (k + 1))].length = 1 := rfl
      have c3 : ([59, 32, 116, 111, 107, 101, 110, 32, 97] : List UInt8).length = 9 := rfl
      refine Gv (V_b2s rfl rfl (SlE.rd (by assumption))) ?_
      refine Gv (V_cat rfl rfl rfl (by omega)) ?_
      refine Gv (V_cat rfl rfl rfl (by simp only [List.length_append]; omega)) ?_
      refine Ga ?_
      refine G_end (X_then (G_seq (G_seq (G_region ?_))))
      refine Ga ?_
      refine G_end (X_then (G_block ?_))
      refine G_loop (α := Nat × Env) (fun x => [(4, .int .i64 (t : Nat)), (5, .string (S txt)), (7, .string (S (tokT (txtB (k + 1)) x.1))), (8, .int .i64 (x.1 + 1 : Nat))]) (fun x => x.2) (fun _ => L1) (fun x => E2.Le x.2 ∧ x.1 + 1 ≤ t) (fun x => t - x.1) (0, E2) ⟨.refl _, by omega⟩ ⟨rfl, rfl, rfl, rfl, trivial⟩ rfl rfl ?_
      rintro ⟨i, E3⟩ ⟨hE3, hi⟩
      simp only at hE3 hi ⊢
      have hlen := tokT_len (txtB (k + 1)) i
      have hlb : (txtB (k + 1)).length = 20 := rfl
      have c4 : ([44, 32] : List UInt8).length = 2 := rfl
      have c5 : [UInt8.ofNat (97 + (i + 1))].length = 1 := rfl
      have c6 : ([59, 32, 115, 101, 112, 97, 114, 97, 116, 111, 114, 32, 122, 59, 32, 115, 116, 97, 114, 116, 32, 83, 59, 32] : List UInt8).length = 24 := rfl
      by_cases hlt : i + 1 < t
      · refine G_seq ?_
        refine G_seq (G_region ?_)
        refine Gm ?_
        refine Gm ?_
        refine Gv (V_lss rfl rfl rfl) ?_
        refine G_end (X_then ?_)
        refine G_cond_t rfl (decide_eq_true (by omega)) ?_
        refine G_skip (X_then (G_seq (G_block (G_region ?_))))
        refine Gm ?_
        refine Gv (V_cat rfl rfl rfl (by simp; omega)) ?_
        refine Gm ?_
        refine Gv (V_add_i64 rfl rfl rfl (by omega) (by omega)) ?_
        refine Gv (V_conv_u8 rfl rfl (by omega) (by omega)) ?_
        (refine G_lit1 rfl rfl rfl rfl rfl (.none rfl) ?_; intro b54)
        refine G.freeze (.head _ _) ?_
        intro E4 hE4 hok4
        have hbs4 : SlE E4 1 (some ⟨b54, 0, none⟩) 1 ([UInt8.ofNat (97 + (i + 1))].map fun b => .int .u8 b.toNat) := by
          rw [List.map_cons, List.map_nil, low_toNat (by omega)]; exact SlE.lit hok4 rfl
        refine Gv (V_b2s rfl rfl (SlE.rd (by assumption))) ?_
        refine Gv (V_cat rfl rfl rfl (by simp; omega)) ?_
        refine Ga ?_
        refine G_end (X_block (X_then (G_region ?_)))
        refine Gm ?_
        refine Gv (V_add_i64 rfl rfl rfl (by omega) (by omega)) ?_
        refine Ga ?_
        refine G_end (X_then ?_)
        exact G_again (i + 1, E4) ⟨hE3.trans hE4, hlt⟩ (by simp only; omega) ⟨rfl, rfl, rfl, rfl, trivial⟩ rfl rfl
      · have hi1 : i = t - 1 := by omega
        refine G_seq (G_seq (G_region ?_))
        refine Gm ?_
        refine Gm ?_
        refine Gv (V_lss rfl rfl rfl) ?_
        refine G_end (X_then ?_)
        refine G_cond_f rfl (decide_eq_false (by omega)) ?_
        refine G_exit (X_then_exit (X_then_exit (X_block_hit (X_then (G_seq (G_region ?_))))))
        refine Gm ?_
        refine Gv (V_cat rfl rfl rfl (by simp; omega)) ?_
        refine Gm ?_
        refine Gv (V_cat rfl rfl rfl (by simp; omega)) ?_
        refine Ga ?_
        refine G_end (X_then (G_ret ?_))
        refine G_leaveS (.nil _) (by exact (.cons (.tmp rfl) (.nil))) rfl ?_ ?_
        · exact ((hE1.trans hE2).trans hE3)
        exact ⟨txtM (k + 1) t txt, mem16 hmem (by omega) (by omega), by rw [txtM, ← hi1]; rfl, rfl⟩
  · refine G_cond_f rfl rfl ?_
    refine G_skip (X_then (G_seq (G_seq (G_region ?_))))
    refine Gm ?_
    refine Gv (V_quo_n rfl rfl rfl (by omega) (by omega) (by simp [IntKind.max, IntKind.signed, IntKind.bits]; omega)) ?_
    refine Gv (V_rem_n rfl rfl rfl (by omega) (by omega)) ?_
    refine Gv (V_eql rfl rfl rfl) ?_
    refine Gm ?_
    apply G_joinAnd 3 31 34 rfl
    · intro H1
      dsimp only [List.take]
      simp only [Bool.and_eq_true, Bool.or_eq_true, Bool.not_eq_true', Bool.not_eq_false', Bool.and_eq_false_iff, Bool.or_eq_false_iff, Bool.not_not, decide_eq_true_eq, decide_eq_false_iff_not, ne_eq, Decidable.not_not, Bool.decide_eq_true] at H1
      refine Gy (V_move rfl rfl) ?_
      refine Gy (V_lss rfl rfl rfl) ?_
      refine Gv (V_pick_t rfl rfl rfl) ?_
      refine G_end ?_
      exact JQ_end 3 rfl rfl (by kernel_rfl)
    · intro H2
      dsimp only [List.take]
      simp only [Bool.and_eq_true, Bool.or_eq_true, Bool.not_eq_true', Bool.not_eq_false', Bool.and_eq_false_iff, Bool.or_eq_false_iff, Bool.not_not, decide_eq_true_eq, decide_eq_false_iff_not, ne_eq, Decidable.not_not, Bool.decide_eq_true] at H2
      refine Gn ?_
      refine Gn ?_
      refine Gv (V_pick_f rfl rfl rfl) ?_
      refine G_end ?_
      exact JQ_end 3 rfl rfl (by kernel_rfl)
    dsimp only [List.drop]
    refine G_end (X_then ?_)
    refine G.bool 34 rfl (fun h2 => ?_) (fun h2 => ?_)
    · simp only [Bool.and_eq_true, decide_eq_true_eq, Bool.and_eq_false_iff, decide_eq_false_iff_not] at h1 h2
      refine G_cond_t rfl rfl ?_
      refine G_region ?_
      refine Gm ?_
      refine Gv (V_add_i64 rfl rfl rfl (by omega) (by omega)) ?_
      refine Ga ?_
      refine G_end (X_then (G_seq (G_region ?_)))
      refine Gm ?_
      refine Gv (V_add_i64 rfl rfl rfl (by omega) (by omega)) ?_
      refine Gv (V_conv_u8 rfl rfl (by omega) (by omega)) ?_
      (refine G_lit1 rfl rfl rfl rfl rfl (.none rfl) ?_; intro b40)
      refine G.freeze (.head _ _) ?_
      intro E2 hE2 hok2
      have hbs : SlE E2 1 (some ⟨b40, 0, none⟩) 1 ([UInt8.ofNat (48 + k)].map fun b => .int .u8 b.toNat) := by
        rw [List.map_cons, List.map_nil, dig_toNat (by omega)]; exact SlE.lit hok2 rfl
      have c1 : ([108, 111, 111, 107, 97, 104, 101, 97, 100, 32] : List UInt8).length = 10 := rfl
      have c2 : [UInt8.ofNat (48 + k)].length = 1 := rfl
      have c3 : ([59, 32, 116, 111, 107, 101, 110, 32, 97] : List UInt8).length = 9 := rfl
      refine Gv (V_b2s rfl rfl (SlE.rd (by assumption))) ?_
      refine Gv (V_cat rfl rfl rfl (by omega)) ?_
      refine Gv (V_cat rfl rfl rfl (by simp only [List.length_append]; omega)) ?_
      refine Ga ?_
      refine G_end (X_then (G_seq (G_seq (G_region ?_))))
      refine Ga ?_
      refine G_end (X_then (G_block ?_))
      refine G_loop (α := Nat × Env) (fun x => [(4, .int .i64 ((t + 1) : Nat)), (5, .string (S txt)), (7, .string (S (tokT (txtB k) x.1))), (8, .int .i64 (x.1 + 1 : Nat))]) (fun x => x.2) (fun _ => L1) (fun x => E2.Le x.2 ∧ x.1 + 1 ≤ (t + 1)) (fun x => (t + 1) - x.1) (0, E2) ⟨.refl _, by omega⟩ ⟨rfl, rfl, rfl, rfl, trivial⟩ rfl rfl ?_
      rintro ⟨i, E3⟩ ⟨hE3, hi⟩
      simp only at hE3 hi ⊢
      have hlen := tokT_len (txtB k) i
      have hlb : (txtB k).length = 20 := rfl
      have c4 : ([44, 32] : List UInt8).length = 2 := rfl
      have c5 : [UInt8.ofNat (97 + (i + 1))].length = 1 := rfl
      have c6 : ([59, 32, 115, 101, 112, 97, 114, 97, 116, 111, 114, 32, 122, 59, 32, 115, 116, 97, 114, 116, 32, 83, 59, 32] : List UInt8).length = 24 := rfl
      by_cases hlt : i + 1 < (t + 1)
      · refine G_seq ?_
        refine G_seq (G_region ?_)
        refine Gm ?_
        refine Gm ?_
        refine Gv (V_lss rfl rfl rfl) ?_
        refine G_end (X_then ?_)
        refine G_cond_t rfl (decide_eq_true (by omega)) ?_
        refine G_skip (X_then (G_seq (G_block (G_region ?_))))
        refine Gm ?_
        refine Gv (V_cat rfl rfl rfl (by simp; omega)) ?_
        refine Gm ?_
        refine Gv (V_add_i64 rfl rfl rfl (by omega) (by omega)) ?_
        refine Gv (V_conv_u8 rfl rfl (by omega) (by omega)) ?_
        (refine G_lit1 rfl rfl rfl rfl rfl (.none rfl) ?_; intro b54)
        refine G.freeze (.head _ _) ?_
        intro E4 hE4 hok4
        have hbs4 : SlE E4 1 (some ⟨b54, 0, none⟩) 1 ([UInt8.ofNat (97 + (i + 1))].map fun b => .int .u8 b.toNat) := by
          rw [List.map_cons, List.map_nil, low_toNat (by omega)]; exact SlE.lit hok4 rfl
        refine Gv (V_b2s rfl rfl (SlE.rd (by assumption))) ?_
        refine Gv (V_cat rfl rfl rfl (by simp; omega)) ?_
        refine Ga ?_
        refine G_end (X_block (X_then (G_region ?_)))
        refine Gm ?_
        refine Gv (V_add_i64 rfl rfl rfl (by omega) (by omega)) ?_
        refine Ga ?_
        refine G_end (X_then ?_)
        exact G_again (i + 1, E4) ⟨hE3.trans hE4, hlt⟩ (by simp only; omega) ⟨rfl, rfl, rfl, rfl, trivial⟩ rfl rfl
      · have hi1 : i = (t + 1) - 1 := by omega
        refine G_seq (G_seq (G_region ?_))
        refine Gm ?_
        refine Gm ?_
        refine Gv (V_lss rfl rfl rfl) ?_
        refine G_end (X_then ?_)
        refine G_cond_f rfl (decide_eq_false (by omega)) ?_
        refine G_exit (X_then_exit (X_then_exit (X_block_hit (X_then (G_seq (G_region ?_))))))
        refine Gm ?_
        refine Gv (V_cat rfl rfl rfl (by simp; omega)) ?_
        refine Gm ?_
        refine Gv (V_cat rfl rfl rfl (by simp; omega)) ?_
        refine Ga ?_
        refine G_end (X_then (G_ret ?_))
        refine G_leaveS (.nil _) (by exact (.cons (.tmp rfl) (.nil))) rfl ?_ ?_
        · exact ((hE1.trans hE2).trans hE3)
        exact ⟨txtM k (t + 1) txt, mem16 hmem (by omega) (by omega), by rw [txtM, ← hi1]; rfl, rfl⟩
    · simp only [Bool.and_eq_true, decide_eq_true_eq, Bool.and_eq_false_iff, decide_eq_false_iff_not] at h1 h2
      refine G_cond_f rfl rfl ?_
      refine G_skip (X_then (G_seq (G_region ?_)))
      refine Gm ?_
      refine Gv (V_add_i64 rfl rfl rfl (by omega) (by omega)) ?_
      refine Gv (V_conv_u8 rfl rfl (by omega) (by omega)) ?_
      (refine G_lit1 rfl rfl rfl rfl rfl (.none rfl) ?_; intro b40)
      refine G.freeze (.head _ _) ?_
      intro E2 hE2 hok2
      have hbs : SlE E2 1 (some ⟨b40, 0, none⟩) 1 ([UInt8.ofNat (48 + k)].map fun b => .int .u8 b.toNat) := by
        rw [List.map_cons, List.map_nil, dig_toNat (by omega)]; exact SlE.lit hok2 rfl
      have c1 : ([108, 111, 111, 107, 97, 104, 101, 97, 100, 32] : List UInt8).length = 10 := rfl
      have c2 : [UInt8.ofNat (48 + k)].length = 1 := rfl
      have c3 : ([59, 32, 116, 111, 107, 101, 110, 32, 97] : List UInt8).length = 9 := rfl
      refine Gv (V_b2s rfl rfl (SlE.rd (by assumption))) ?_
      refine Gv (V_cat rfl rfl rfl (by omega)) ?_
      refine Gv (V_cat rfl rfl rfl (by simp only [List.length_append]; omega)) ?_
      refine Ga ?_
      refine G_end (X_then (G_seq (G_seq (G_region ?_))))
      refine Ga ?_
      refine G_end (X_then (G_block ?_))
      refine G_loop (α := Nat × Env) (fun x => [(4, .int .i64 (t : Nat)), (5, .string (S txt)), (7, .string (S (tokT (txtB k) x.1))), (8, .int .i64 (x.1 + 1 : Nat))]) (fun x => x.2) (fun _ => L1) (fun x => E2.Le x.2 ∧ x.1 + 1 ≤ t) (fun x => t - x.1) (0, E2) ⟨.refl _, by omega⟩ ⟨rfl, rfl, rfl, rfl, trivial⟩ rfl rfl ?_
      rintro ⟨i, E3⟩ ⟨hE3, hi⟩
      simp only at hE3 hi ⊢
      have hlen := tokT_len (txtB k) i
      have hlb : (txtB k).length = 20 := rfl
      have c4 : ([44, 32] : List UInt8).length = 2 := rfl
      have c5 : [UInt8.ofNat (97 + (i + 1))].length = 1 := rfl
      have c6 : ([59, 32, 115, 101, 112, 97, 114, 97, 116, 111, 114, 32, 122, 59, 32, 115, 116, 97, 114, 116, 32, 83, 59, 32] : List UInt8).length = 24 := rfl
      by_cases hlt : i + 1 < t
      · refine G_seq ?_
        refine G_seq (G_region ?_)
        refine Gm ?_
        refine Gm ?_
        refine Gv (V_lss rfl rfl rfl) ?_
        refine G_end (X_then ?_)
        refine G_cond_t rfl (decide_eq_true (by omega)) ?_
        refine G_skip (X_then (G_seq (G_block (G_region ?_))))
        refine Gm ?_
        refine Gv (V_cat rfl rfl rfl (by simp; omega)) ?_
        refine Gm ?_
        refine Gv (V_add_i64 rfl rfl rfl (by omega) (by omega)) ?_
        refine Gv (V_conv_u8 rfl rfl (by omega) (by omega)) ?_
        (refine G_lit1 rfl rfl rfl rfl rfl (.none rfl) ?_; intro b54)
        refine G.freeze (.head _ _) ?_
        intro E4 hE4 hok4
        have hbs4 : SlE E4 1 (some ⟨b54, 0, none⟩) 1 ([UInt8.ofNat (97 + (i + 1))].map fun b => .int .u8 b.toNat) := by
          rw [List.map_cons, List.map_nil, low_toNat (by omega)]; exact SlE.lit hok4 rfl
        refine Gv (V_b2s rfl rfl (SlE.rd (by assumption))) ?_
        refine Gv (V_cat rfl rfl rfl (by simp; omega)) ?_
        refine Ga ?_
        refine G_end (X_block (X_then (G_region ?_)))
        refine Gm ?_
        refine Gv (V_add_i64 rfl rfl rfl (by omega) (by omega)) ?_
        refine Ga ?_
        refine G_end (X_then ?_)
        exact G_again (i + 1, E4) ⟨hE3.trans hE4, hlt⟩ (by simp only; omega) ⟨rfl, rfl, rfl, rfl, trivial⟩ rfl rfl
      · have hi1 : i = t - 1 := by omega
        refine G_seq (G_seq (G_region ?_))
        refine Gm ?_
        refine Gm ?_
        refine Gv (V_lss rfl rfl rfl) ?_
        refine G_end (X_then ?_)
        refine G_cond_f rfl (decide_eq_false (by omega)) ?_
        refine G_exit (X_then_exit (X_then_exit (X_block_hit (X_then (G_seq (G_region ?_))))))
        refine Gm ?_
        refine Gv (V_cat rfl rfl rfl (by simp; omega)) ?_
        refine Gm ?_
        refine Gv (V_cat rfl rfl rfl (by simp; omega)) ?_
        refine Ga ?_
        refine G_end (X_then (G_ret ?_))
        refine G_leaveS (.nil _) (by exact (.cons (.tmp rfl) (.nil))) rfl ?_ ?_
        · exact ((hE1.trans hE2).trans hE3)
        exact ⟨txtM k t txt, mem16 hmem (by omega) (by omega), by rw [txtM, ← hi1]; rfl, rfl⟩
end
end Go.Proofs.YtimiokmgnclggaaGreat
set_option linter.unusedSimpArgs false
set_option linter.unusedVariables false
set_option maxHeartbeats 2000000
set_option maxRecDepth 20000
namespace Go.Proofs.YtimiokmgnclggaaGreat
open Go.RowKit

/-! The program's check of a grammar. -/
abbrev rowEnc (x : Row × Nat) : List Value := [.int .i64 (x.2 : Int), .agg #[.int .i64 x.1.2.2.1, .slice x.1.1 x.1.2.2.2.length x.1.2.1]]
theorem zip_pre {α : Type} {l : List α} {pre : List (α × Nat)} {x : α × Nat} (h : pre ++ [x] <+: l.zipIdx) : l[pre.length]? = some x.1 ∧ x.2 = pre.length ∧ pre.length < l.length := by
  obtain ⟨t, ht⟩ := h
  have h1 : (l.zipIdx)[pre.length]? = some x := by rw [← ht]; simp
  rw [List.getElem?_zipIdx] at h1
  simp only [Option.map_eq_some_iff, Nat.zero_add] at h1
  obtain ⟨a, h2, h3⟩ := h1
  subst h3
  exact ⟨h2, rfl, (List.getElem?_eq_some_iff.1 h2).1⟩
abbrev GB (b : Nat) (g : Gr) (tp : Option Addr) (tc : Nat) (np : Option Addr) (nc : Nat) (pp : Option Addr) (pc : Nat) : Res := .blk b (.cells #[.int .i64 g.k, .slice tp g.toks.length tc, .string (S g.sep), .slice np g.names.length nc, .int .i64 g.start, .slice pp g.prods.length pc] 26 (0, 0))
section
variable (E : Env) (L : List Res)
theorem iter_prods (c : Nat) (p : Option Addr) (n cc : Nat) (rows : List Row) (hl : SlE E 2 p n (prows rows)) (hn : n ≤ 1000) :
    Iter Tryz.prog 122 #[.pointer (some ⟨c, 0, none⟩)] (fun x => (rowEnc x).toArray) rows.zipIdx E [.blk c (.cells #[.slice p n cc] 24 (0, 0))] := by
  have e1 := hl.nR
  subst e1
  intro y E0 L0 Inv InvX hE0 h0 hy
  replace hl := hl.mono hE0
  refine CallS.intro (L := .blk c (.cells #[.slice p rows.length cc] 24 (0, 0)) :: L0) (l := [.func (.yield y) #[] #[], .pointer (some ⟨c, 0, none⟩)]) _ Tryz.func122 rfl Tryz.ntmps122 rfl ?_
  refine G_seq (G_region ?_)
  refine Gv (V_load rfl rfl (Cell.own1 (.head _))) ?_
  refine Gv (V_lenS rfl rfl) ?_
  refine Gm ?_
  refine G_end (X_then (G_block ?_))
  refine G_loop (α := Nat × Env × List Res) (fun x => [(0, .func (.yield y) #[] #[]), (5, .slice p rows.length cc), (6, .int .i64 rows.length), (7, .int .i64 x.1)]) (fun x => x.2.1) (fun x => .blk c (.cells #[.slice p rows.length cc] 24 (0, 0)) :: x.2.2)
    (fun x => E0.Le x.2.1 ∧ x.1 ≤ rows.length ∧ Inv (rows.zipIdx.take x.1) x.2.1 x.2.2) (fun x => rows.length - x.1) (0, E0, L0)
    ⟨.refl _, Nat.zero_le _, h0⟩ ⟨rfl, rfl, rfl, rfl, trivial⟩ rfl rfl ?_
  rintro ⟨k, E, L⟩ ⟨hE, hk, hI⟩
  simp only at hE hk hI ⊢
  replace hl := hl.mono hE
  by_cases hlt : k < rows.length
  · have hx := prows_get (List.getElem?_eq_getElem hlt)
    have hz : rows.zipIdx.take (k + 1) = rows.zipIdx.take k ++ [(rows[k], k)] := by
      rw [List.take_succ_eq_append_getElem (by simpa using hlt)]; simp
    have hpre : rows.zipIdx.take k ++ [(rows[k], k)] <+: rows.zipIdx := by rw [← hz]; exact List.take_prefix _ _
    refine G_seq (G_region ?_)
    refine Gv (V_lss rfl rfl rfl) ?_
    refine G_end (X_then (G_seq ?_))
    refine G_cond_t rfl (decide_eq_true (by omega)) ?_
    refine G_skip (X_then (G_seq (G_block (G_seq (G_region ?_)))))
    refine Gm ?_
    refine Gv (V_idxAddr rfl rfl rfl (SlE.rd (by assumption)) (by omega) (by omega)) ?_
    refine Gv (V_loadAS rfl rfl (SlE.rd (by assumption)) (by assumption) (by simp) (by rfl)) ?_
    (refine G_alloc rfl rfl rfl (.none rfl) ?_; intro b4)
    refine Ga ?_
    refine G_storeA rfl rfl rfl rfl (by simp [Value.oneCell']) rfl (.none rfl) (.head _ _ _) rfl ?_
    refine G_end (X_then (G_seq (G_region ?_)))
    refine Gm ?_
    refine Gm ?_
    refine Gv (V_loadA rfl rfl (Cells.own (.head _)) rfl) ?_
    refine G.drop ?_
    refine G_yield (.mk rfl rfl rfl rfl) rfl rfl (.none rfl) (hy _ (rows[k], k) E L [_] hE hpre hI) ?_
    rintro r E' L' hE' ⟨L3, rfl, (⟨rfl, hI'⟩ | ⟨rfl, hI'⟩)⟩
    · refine Gv (V_not rfl rfl) ?_
      refine G_end (X_then ?_)
      refine G_cond_f rfl (by kernel_rfl) ?_
      refine G_skip (X_block (X_then (G_region ?_)))
      refine Gv (V_add_i64 rfl rfl rfl (by omega) (by omega)) ?_
      refine Gm ?_
      refine G_end (X_then ?_)
      exact G_again (k + 1, E', L3) ⟨hE.trans hE', by simp only; omega, by rw [hz]; exact hI'⟩ (by simp only; omega) ⟨rfl, rfl, rfl, rfl, trivial⟩ rfl rfl
    · refine Gv (V_not rfl rfl) ?_
      refine G_end (X_then ?_)
      refine G_cond_t rfl (by kernel_rfl) ?_
      refine G_ret (X_block_ret (X_then_ret (X_then_ret (X_block_ret ?_))))
      exact G_leave_n 0 .nil rfl (hE.trans hE') ⟨[_], L3, rfl, .inr ⟨_, hpre, hI'⟩⟩
  · have hke : k = rows.length := by omega
    subst hke
    rw [List.take_of_length_le (by simp)] at hI
    refine G_seq (G_region ?_)
    refine Gv (V_lss rfl rfl rfl) ?_
    refine G_end (X_then (G_seq ?_))
    refine G_cond_f rfl (decide_eq_false (by omega)) ?_
    refine G_exit (X_then_exit (X_then_exit (X_block_hit ?_)))
    exact G_leave_n 0 .nil rfl hE ⟨[_], L, rfl, .inl hI⟩
theorem All_call (p : Option Addr) (n c : Nat) : CallS Tryz.prog 111 #[.slice p n c] E L (fun r E' L' => ∃ b, r = .func (.func 122) #[] #[.pointer (some ⟨b, 0, none⟩)] ∧ E = E' ∧ L' = .blk b (.cells #[.slice p n c] 24 (0, 0)) :: L) := by
  refine CallS.intro (l := [.slice p n c]) _ Tryz.func111 rfl Tryz.ntmps111 rfl ?_
  refine G_seq (G_region ?_)
  (refine G_box1 rfl rfl rfl rfl rfl (.none rfl) ?_; intro b1)
  refine Ga ?_
  refine G_end (X_then (G_seq (G_region ?_)))
  refine Gv (V_makeFunc rfl rfl rfl) ?_
  refine Ga ?_
  refine G_end (X_then (G_ret ?_))
  refine G_leaveS (.keep _ (.nil _)) (by exact (.cons (.tmp rfl) (.nil))) rfl ?_ ?_
  · exact (.refl _)
  exact ⟨_, ⟨rfl, ⟨rfl, rfl⟩⟩⟩
theorem prods_call (a b c d e : Value) (p : Option Addr) (n m : Nat) : CallS Tryz.prog 90 #[.agg #[a, b, c, d, e, .slice p n m]] E L (fun r E' L' => ∃ b, r = .func (.func 122) #[] #[.pointer (some ⟨b, 0, none⟩)] ∧ E = E' ∧ L' = .blk b (.cells #[.slice p n m] 24 (0, 0)) :: L) := by
  refine CallS.intro (l := [.agg #[a, b, c, d, e, .slice p n m]]) _ Tryz.func90 rfl Tryz.ntmps90 rfl ?_
  refine G_seq (G_region ?_)
  (refine G_boxA rfl rfl rfl rfl (.none rfl) ?_; intro b1)
  refine Ga ?_
  refine G_end (X_then (G_seq (G_region ?_)))
  refine Gv (V_fieldAddr rfl rfl (by decide)) ?_
  refine Gv (V_load rfl rfl (Cell.own (.head _) rfl)) ?_
  refine G_call (k := 111) (.mk rfl rfl rfl rfl) rfl rfl (.none rfl) (All_call _ _ _ _ _) ?_
  rintro r1 E2 L3 hE4 ⟨z5, ⟨rfl, ⟨rfl, rfl⟩⟩⟩
  refine Ga ?_
  refine G_end (X_then (G_ret ?_))
  refine G_leaveS (.keep _ (.drop _ (.nil _))) (by exact (.cons (.tmp rfl) (.nil))) rfl ?_ ?_
  · exact (.refl _)
  exact ⟨_, ⟨rfl, ⟨rfl, rfl⟩⟩⟩
end
end Go.Proofs.YtimiokmgnclggaaGreat
set_option linter.unusedSimpArgs false
set_option linter.unusedVariables false
set_option maxHeartbeats 2000000
set_option maxRecDepth 20000
namespace Go.Proofs.YtimiokmgnclggaaGreat
open Go.RowKit

theorem any_of {α : Type} {l : List α} {f : α → Bool} {i : Nat} (h : i < l.length) (hf : f l[i] = true) : l.any f = true := List.any_eq_true.2 ⟨l[i], List.getElem_mem h, hf⟩
theorem any_none {α : Type} {l : List α} {f : α → Bool} (h : ∀ i, (hi : i < l.length) → f l[i] = false) : l.any f = false := by
  rw [List.any_eq_false]
  intro x hx
  obtain ⟨i, hi, rfl⟩ := List.mem_iff_getElem.1 hx
  simp [h i hi]
theorem all_of {α : Type} {l : List α} {f : α → Bool} (h : ∀ i, (hi : i < l.length) → f l[i] = true) : l.all f = true := by
  rw [List.all_eq_true]
  intro x hx
  obtain ⟨i, hi, rfl⟩ := List.mem_iff_getElem.1 hx
  exact h i hi
theorem all_not {α : Type} {l : List α} {f : α → Bool} {i : Nat} (h : i < l.length) (hf : f l[i] = false) : l.all f = false := List.all_eq_false.2 ⟨l[i], List.getElem_mem h, by simp [hf]⟩
def fullB (g : Gr) : Bool := decide (8 < g.toks.length) || decide (8 < g.names.length) || decide (24 < g.prods.length) || g.prods.any (fun p => decide (6 < p.2.length))
theorem fullB_pos {g : Gr} (h : ¬ (g.toks.length ≤ 8 ∧ g.names.length ≤ 8 ∧ g.prods.length ≤ 24)) : fullB g = true := by
  have : 8 < g.toks.length ∨ 8 < g.names.length ∨ 24 < g.prods.length := by omega
  simp only [fullB, Bool.or_eq_true, decide_eq_true_eq]
  rcases this with h | h | h
  · exact .inl (.inl (.inl h))
  · exact .inl (.inl (.inr h))
  · exact .inl (.inr h)
theorem fullB_eq {g : Gr} (h : g.toks.length ≤ 8 ∧ g.names.length ≤ 8 ∧ g.prods.length ≤ 24) : fullB g = g.prods.any (fun p => decide (6 < p.2.length)) := by
  have h1 : decide (8 < g.toks.length) = false := decide_eq_false (by omega)
  have h2 : decide (8 < g.names.length) = false := decide_eq_false (by omega)
  have h3 : decide (24 < g.prods.length) = false := decide_eq_false (by omega)
  simp only [fullB, h1, h2, h3, Bool.false_or]
section
variable (E : Env) (L : List Res)
theorem many_call (gv : Value) (g : Gr) (hg : GrE E gv g) (hl : Light g) : CallV Tryz.prog 55 #[gv] E L (.int .i64 (if fullB g = true then 6 else 0)) := by
  obtain ⟨tp, tc, np, nc, pp, pc, rfl, ht, hn, ⟨rows, hrows, hps, hre⟩, k1, k2, k3⟩ := hg
  have hlen : g.prods.length = rows.length := by rw [← hrows]; simp
  have q1 := hl.t; have q2 := hl.n; have q3 := hl.p
  refine CallS.toV (CallS.intro (l := [_]) _ Tryz.func55 rfl Tryz.ntmps55 rfl ?_)
  by_cases h1 : g.toks.length ≤ 8 ∧ g.names.length ≤ 8 ∧ g.prods.length ≤ 24
  · have e : g.prods.any (fun p => decide (6 < p.2.length)) = rows.any (fun x => decide (6 < x.2.2.2.length)) := by rw [← hrows, List.any_map]; rfl
    rw [fullB_eq h1, e]
    obtain ⟨h1, h2, h3⟩ := h1
    refine G_seq (G_region ?_)
    (refine G_boxA rfl rfl rfl rfl (.none rfl) ?_; intro b1)
    (refine G_alloc rfl rfl rfl (.none rfl) ?_; intro b2)
    refine G_end (X_then (G_seq (G_seq (G_region ?_))))
    refine Gv (V_fieldAddr rfl rfl (by decide)) ?_
    refine Gv (V_load rfl rfl (Cell.own (.tail _ (.head _)) rfl)) ?_
    refine Gv (V_lenS rfl rfl) ?_
    refine Gv (V_gtr rfl rfl rfl) ?_
    refine Gm ?_
    refine G.bool_f 9 rfl (decide_eq_false (by omega)) ?_
    refine Gy (V_fieldAddr rfl rfl (by decide)) ?_
    refine Gy (V_load rfl rfl (Cell.own (.tail _ (.head _)) rfl)) ?_
    refine Gy (V_lenS rfl rfl) ?_
    refine Gy (V_gtr rfl rfl rfl) ?_
    refine Gv (V_pick_f rfl rfl rfl) ?_
    refine Gm ?_
    refine G.bool_f 15 rfl (decide_eq_false (by omega)) ?_
    refine Gy (V_fieldAddr rfl rfl (by decide)) ?_
    refine Gy (V_load rfl rfl (Cell.own (.tail _ (.head _)) rfl)) ?_
    refine Gy (V_lenS rfl rfl) ?_
    refine Gy (V_gtr rfl rfl rfl) ?_
    refine Gv (V_pick_f rfl rfl rfl) ?_
    refine G_end (X_then ?_)
    refine G_cond_f rfl (decide_eq_false (by omega)) ?_
    refine G_skip (X_then (G_seq (G_seq (G_region ?_))))
    refine Gv (V_loadA rfl rfl (Cells.own (.tail _ (.head _))) rfl) ?_
    refine G_call (k := 90) (.mk rfl rfl rfl rfl) rfl rfl (.none rfl) (prods_call _ _ _ _ _ _ _ _ _ _) ?_
    rintro r1 E2 L3 hE4 ⟨z5, ⟨rfl, ⟨rfl, rfl⟩⟩⟩
    replace ht := ht.mono hE4
    replace hn := hn.mono hE4
    replace hps := hps.mono hE4
    replace hre := hre.mono hE4
    refine G_end (X_then (G_block ?_))
    refine G_rangeI (σ := Int) (enc := rowEnc) rfl (iter_prods E z5 pp _ pc rows hps (by omega)) (fun _ => E) (fun v => .blk b2 (.cells #[.int .i64 v] 37 (0, 0)) :: GB b1 g tp tc np nc pp pc :: L)
      (fun pre v => v = 0 ∧ ∀ i, i < pre.length → (hi : i < rows.length) → decide (6 < rows[i].2.2.2.length) = false) (fun q pre v => q = .ret ∧ v = 6 ∧ rows.any (fun x => decide (6 < x.2.2.2.length)) = true) 0 ⟨rfl, fun i hi => by cases hi⟩ rfl (.refl _) rfl (fun _ => rfl) ?_ ?_ ?_
    · rintro y D tm fn M pre ⟨x, j⟩ v hpre ⟨rfl, hall⟩ hE
      obtain ⟨hx, hj, hlt⟩ := zip_pre hpre
      simp only at hx hj
      simp only [List.cons_append]
      dsimp only [rowEnc]
      by_cases hb : 6 < x.2.2.2.length
      · refine G_region ?_
        (refine G_alloc rfl rfl rfl (.none rfl) ?_; intro b4)
        refine G_storeA rfl rfl rfl rfl (by simp [Value.oneCell']) rfl (.none rfl) (.head _ _ _) rfl ?_
        refine G_end (X_then ?_)
        refine G_begin (.tail _ (.head _ _ _)) ?_
        refine G_block (G_seq (G_region ?_))
        refine Gv (V_fieldAddr rfl rfl (by decide)) ?_
        refine Gv (V_load rfl rfl (Cell.own (.head _) rfl)) ?_
        refine Gv (V_lenS rfl rfl) ?_
        refine Gv (V_gtr rfl rfl rfl) ?_
        refine G_end (X_then ?_)
        refine G_cond_t rfl (decide_eq_true (by omega)) ?_
        refine G_seq (G_region ?_)
        refine G_store1 rfl rfl rfl rfl rfl rfl (.none rfl) (.tail _ (.tail _ (.tail _ (.head _ _ _)))) ?_
        refine G_end (X_then (G_ret (X_block_ret ?_)))
        refine G.drop ?_
        exact G_rRet 6 ⟨rfl, rfl, List.any_eq_true.2 ⟨x, List.mem_of_getElem? hx, decide_eq_true hb⟩⟩ rfl (.refl _) rfl
      · refine G_region ?_
        (refine G_alloc rfl rfl rfl (.none rfl) ?_; intro b4)
        refine G_storeA rfl rfl rfl rfl (by simp [Value.oneCell']) rfl (.none rfl) (.head _ _ _) rfl ?_
        refine G_end (X_then ?_)
        refine G_begin (.tail _ (.head _ _ _)) ?_
        refine G_block (G_seq (G_region ?_))
        refine Gv (V_fieldAddr rfl rfl (by decide)) ?_
        refine Gv (V_load rfl rfl (Cell.own (.head _) rfl)) ?_
        refine Gv (V_lenS rfl rfl) ?_
        refine Gv (V_gtr rfl rfl rfl) ?_
        refine G_end (X_then ?_)
        refine G_cond_f rfl (decide_eq_false (by omega)) ?_
        refine G_skip (X_block ?_)
        refine G.drop ?_
        refine G_rEnd 0 ⟨rfl, ?_⟩ rfl (.refl _) rfl
        intro i hi hi2
        simp only [List.length_append, List.length_singleton] at hi
        by_cases he : i = pre.length
        · subst he
          have : rows[pre.length] = x := by rw [List.getElem?_eq_getElem hi2] at hx; exact Option.some.inj hx
          rw [this]; exact decide_eq_false hb
        · exact hall i (by omega) hi2
    · rintro D v ⟨rfl, hall⟩ hE
      rw [any_none fun i hi => hall i (by simpa using hi) hi]
      refine X_block (X_then (G_seq (G_region ?_)))
      refine G_store1 rfl rfl rfl rfl rfl rfl (.none rfl) (.tail _ (.head _ _ _)) ?_
      refine G_end (X_then (G_ret ?_))
      refine G_leave_ms [D] ?_
      refine G_leaveS (.drop _ (.drop _ (.nil _))) (by exact (.cons (.cell1 rfl (Cell.own1 (.head _))) (.nil))) rfl ?_ ?_
      · exact (.refl _)
      exact ⟨(by kernel_rfl), rfl⟩
    · rintro D q pre v hpre ⟨rfl, rfl, hs⟩ hE
      rw [hs]
      refine G_ret (X_block_ret (X_then_ret ?_))
      refine G_leave_ms [D] ?_
      refine G_leaveS (.drop _ (.drop _ (.nil _))) (by exact (.cons (.cell1 rfl (Cell.own1 (.head _))) (.nil))) rfl ?_ ?_
      · exact (.refl _)
      exact ⟨(by kernel_rfl), rfl⟩
  · have : fullB g = true := fullB_pos h1
    rw [if_pos this]
    refine G_seq (G_region ?_)
    (refine G_boxA rfl rfl rfl rfl (.none rfl) ?_; intro b1)
    (refine G_alloc rfl rfl rfl (.none rfl) ?_; intro b2)
    refine G_end (X_then (G_seq (G_seq (G_region ?_))))
    refine Gv (V_fieldAddr rfl rfl (by decide)) ?_
    refine Gv (V_load rfl rfl (Cell.own (.tail _ (.head _)) rfl)) ?_
    refine Gv (V_lenS rfl rfl) ?_
    refine Gv (V_gtr rfl rfl rfl) ?_
    refine Gm ?_
    apply G_joinOr 5 9 14 rfl
    · intro H1
      dsimp only [List.take]
      simp only [Bool.and_eq_true, Bool.or_eq_true, Bool.not_eq_true', Bool.not_eq_false', Bool.and_eq_false_iff, Bool.or_eq_false_iff, Bool.not_not, decide_eq_true_eq, decide_eq_false_iff_not, ne_eq, Decidable.not_not, Bool.decide_eq_true] at H1
      refine Gn ?_
      refine Gn ?_
      refine Gn ?_
      refine Gn ?_
      refine Gv (V_pick_t rfl rfl rfl) ?_
      refine G_end ?_
      exact JQ_end 5 rfl rfl (by kernel_rfl)
    · intro H2
      dsimp only [List.take]
      simp only [Bool.and_eq_true, Bool.or_eq_true, Bool.not_eq_true', Bool.not_eq_false', Bool.and_eq_false_iff, Bool.or_eq_false_iff, Bool.not_not, decide_eq_true_eq, decide_eq_false_iff_not, ne_eq, Decidable.not_not, Bool.decide_eq_true] at H2
      refine Gy (V_fieldAddr rfl rfl (by decide)) ?_
      refine Gy (V_load rfl rfl (Cell.own (.tail _ (.head _)) rfl)) ?_
      refine Gy (V_lenS rfl rfl) ?_
      refine Gy (V_gtr rfl rfl rfl) ?_
      refine Gv (V_pick_f rfl rfl rfl) ?_
      refine G_end ?_
      exact JQ_end 5 rfl rfl (by kernel_rfl)
    dsimp only [List.drop]
    refine Gm ?_
    apply G_joinOr 5 15 20 rfl
    · intro H3
      dsimp only [List.take]
      simp only [Bool.and_eq_true, Bool.or_eq_true, Bool.not_eq_true', Bool.not_eq_false', Bool.and_eq_false_iff, Bool.or_eq_false_iff, Bool.not_not, decide_eq_true_eq, decide_eq_false_iff_not, ne_eq, Decidable.not_not, Bool.decide_eq_true] at H3
      refine Gn ?_
      refine Gn ?_
      refine Gn ?_
      refine Gn ?_
      refine Gv (V_pick_t rfl rfl rfl) ?_
      refine G_end ?_
      exact JQ_end 5 rfl rfl (by kernel_rfl)
    · intro H4
      dsimp only [List.take]
      simp only [Bool.and_eq_true, Bool.or_eq_true, Bool.not_eq_true', Bool.not_eq_false', Bool.and_eq_false_iff, Bool.or_eq_false_iff, Bool.not_not, decide_eq_true_eq, decide_eq_false_iff_not, ne_eq, Decidable.not_not, Bool.decide_eq_true] at H4
      refine Gy (V_fieldAddr rfl rfl (by decide)) ?_
      refine Gy (V_load rfl rfl (Cell.own (.tail _ (.head _)) rfl)) ?_
      refine Gy (V_lenS rfl rfl) ?_
      refine Gy (V_gtr rfl rfl rfl) ?_
      refine Gv (V_pick_f rfl rfl rfl) ?_
      refine G_end ?_
      exact JQ_end 5 rfl rfl (by kernel_rfl)
    dsimp only [List.drop]
    refine G_end (X_then ?_)
    refine G_cond rfl (fun H5 => ?_) (fun H5 => ?_)
    · simp only [Bool.and_eq_true, Bool.or_eq_true, Bool.not_eq_true', Bool.not_eq_false', Bool.and_eq_false_iff, Bool.or_eq_false_iff, Bool.not_not, decide_eq_true_eq, decide_eq_false_iff_not, ne_eq, Decidable.not_not, Bool.decide_eq_true] at H5
      refine G_seq (G_region ?_)
      refine G_store1 rfl rfl rfl rfl rfl rfl (.none rfl) (.head _ _ _) ?_
      refine G_end (X_then (G_ret (X_then_ret ?_)))
      refine G_leaveS (.drop _ (.drop _ (.nil _))) (by exact (.cons (.cell1 rfl (Cell.own1 (.head _))) (.nil))) rfl ?_ ?_
      · exact (.refl _)
      exact ⟨(by kernel_rfl), rfl⟩
    simp only [Bool.and_eq_true, Bool.or_eq_true, Bool.not_eq_true', Bool.not_eq_false', Bool.and_eq_false_iff, Bool.or_eq_false_iff, Bool.not_not, decide_eq_true_eq, decide_eq_false_iff_not, ne_eq, Decidable.not_not, Bool.decide_eq_true] at H5
    (exfalso; omega)
end
end Go.Proofs.YtimiokmgnclggaaGreat
set_option linter.unusedSimpArgs false
set_option linter.unusedVariables false
set_option maxHeartbeats 2000000
set_option maxRecDepth 20000
namespace Go.Proofs.YtimiokmgnclggaaGreat
open Go.RowKit
section
variable (E : Env) (L : List Res)
def shortB (g : Gr) : Bool := decide (g.toks.length = 0) || decide (g.names.length = 0)
def smallsB (g : Gr) : Bool := (g.toks ++ [g.sep]).all smallB && g.names.all capB
theorem Light.small {g : Gr} (h : Light g) : ∀ s, s ∈ g.toks ++ [g.sep] → s.length ≤ 40 := by
  intro s hs
  rcases List.mem_append.1 hs with hs | hs
  · exact h.ts s hs
  · rw [List.mem_singleton.1 hs]; exact h.sep
theorem named_call (gv : Value) (g : Gr) (hg : GrE E gv g) (hl : Light g) : CallV Tryz.prog 56 #[gv] E L (.int .i64 (if shortB g = true then 5 else if smallsB g = true then 0 else 12)) := by
  obtain ⟨tp, tc, np, nc, pp, pc, rfl, ht, hn, ⟨rows, hrows, hps, hre⟩, k1, k2, k3⟩ := hg
  have hlen : g.prods.length = rows.length := by rw [← hrows]; simp
  have q1 := hl.t; have q2 := hl.n; have q3 := hl.p
  refine CallS.toV (CallS.intro (l := [_]) _ Tryz.func56 rfl Tryz.ntmps56 rfl ?_)
  by_cases h1 : g.toks.length = 0 ∨ g.names.length = 0
  · have : shortB g = true := by simp only [shortB, Bool.or_eq_true, decide_eq_true_eq]; exact h1
    rw [if_pos this]
    refine G_seq (G_region ?_)
    (refine G_boxA rfl rfl rfl rfl (.none rfl) ?_; intro b1)
    refine Ga ?_
    refine G_end (X_then (G_seq (G_seq (G_region ?_))))
    refine Gv (V_fieldAddr rfl rfl (by decide)) ?_
    refine Gv (V_load rfl rfl (Cell.own (.head _) rfl)) ?_
    refine Gv (V_lenS rfl rfl) ?_
    refine Gv (V_eql rfl rfl rfl) ?_
    refine Gm ?_
    apply G_joinOr 5 11 16 rfl
    · intro H1
      dsimp only [List.take]
      simp only [Bool.and_eq_true, Bool.or_eq_true, Bool.not_eq_true', Bool.not_eq_false', Bool.and_eq_false_iff, Bool.or_eq_false_iff, Bool.not_not, decide_eq_true_eq, decide_eq_false_iff_not, ne_eq, Decidable.not_not, Bool.decide_eq_true] at H1
      refine Gn ?_
      refine Gn ?_
      refine Gn ?_
      refine Gn ?_
      refine Gv (V_pick_t rfl rfl rfl) ?_
      refine G_end ?_
      exact JQ_end 5 rfl rfl (by kernel_rfl)
    · intro H2
      dsimp only [List.take]
      simp only [Bool.and_eq_true, Bool.or_eq_true, Bool.not_eq_true', Bool.not_eq_false', Bool.and_eq_false_iff, Bool.or_eq_false_iff, Bool.not_not, decide_eq_true_eq, decide_eq_false_iff_not, ne_eq, Decidable.not_not, Bool.decide_eq_true] at H2
      refine Gy (V_fieldAddr rfl rfl (by decide)) ?_
      refine Gy (V_load rfl rfl (Cell.own (.head _) rfl)) ?_
      refine Gy (V_lenS rfl rfl) ?_
      refine Gy (V_eql rfl rfl rfl) ?_
      refine Gv (V_pick_f rfl rfl rfl) ?_
      refine G_end ?_
      exact JQ_end 5 rfl rfl (by kernel_rfl)
    dsimp only [List.drop]
    refine G_end (X_then ?_)
    refine G_cond rfl (fun H3 => ?_) (fun H3 => ?_)
    · simp only [Bool.and_eq_true, Bool.or_eq_true, Bool.not_eq_true', Bool.not_eq_false', Bool.and_eq_false_iff, Bool.or_eq_false_iff, Bool.not_not, decide_eq_true_eq, decide_eq_false_iff_not, ne_eq, Decidable.not_not, Bool.decide_eq_true] at H3
      refine G_seq (G_region ?_)
      refine Ga ?_
      refine G_end (X_then (G_ret (X_then_ret ?_)))
      refine G_leaveS (.drop _ (.nil _)) (by exact (.cons (.tmp rfl) (.nil))) rfl ?_ ?_
      · exact (.refl _)
      exact ⟨(by kernel_rfl), rfl⟩
    simp only [Bool.and_eq_true, Bool.or_eq_true, Bool.not_eq_true', Bool.not_eq_false', Bool.and_eq_false_iff, Bool.or_eq_false_iff, Bool.not_not, decide_eq_true_eq, decide_eq_false_iff_not, ne_eq, Decidable.not_not, Bool.decide_eq_true] at H3
    (exfalso; omega)
  · have : ¬ shortB g = true := by simp only [shortB, Bool.or_eq_true, decide_eq_true_eq]; exact h1
    rw [if_neg this]
    have h2 : ¬ g.toks.length = 0 := fun h => h1 (.inl h)
    have h3 : ¬ g.names.length = 0 := fun h => h1 (.inr h)
    refine G_seq (G_region ?_)
    (refine G_boxA rfl rfl rfl rfl (.none rfl) ?_; intro b1)
    refine Ga ?_
    refine G_end (X_then (G_seq (G_seq (G_region ?_))))
    refine Gv (V_fieldAddr rfl rfl (by decide)) ?_
    refine Gv (V_load rfl rfl (Cell.own (.head _) rfl)) ?_
    refine Gv (V_lenS rfl rfl) ?_
    refine Gv (V_eql rfl rfl rfl) ?_
    refine Gm ?_
    refine G.bool_f 11 rfl (decide_eq_false (by omega)) ?_
    refine Gy (V_fieldAddr rfl rfl (by decide)) ?_
    refine Gy (V_load rfl rfl (Cell.own (.head _) rfl)) ?_
    refine Gy (V_lenS rfl rfl) ?_
    refine Gy (V_eql rfl rfl rfl) ?_
    refine Gv (V_pick_f rfl rfl rfl) ?_
    refine G_end (X_then ?_)
    refine G_cond_f rfl (decide_eq_false (by omega)) ?_
    refine G_skip (X_then (G_seq (G_seq ?_)))
    refine G_drawX 15 [(0, 0), (1, 1), (2, 0), (3, 1), (4, 0), (5, 0), (6, 1), (7, 0), (8, 0), (9, 0), (10, 1), (11, 2), (12, 3), (13, 0), (14, 0)] mixed (by kernel_rfl) ?_
    refine F_pure rfl (fun _ _ => V_fieldAddr rfl rfl (by decide)) rfl rfl (.none rfl) ?_
    refine F_load rfl (.head _) (V_load rfl rfl (Cell.own (.head _) rfl)) rfl rfl (.none rfl) ?_
    refine F_pure rfl (fun _ _ => V_fieldAddr rfl rfl (by decide)) rfl rfl (.none rfl) ?_
    refine F_load rfl (.head _) (V_load rfl rfl (Cell.own (.head _) rfl)) rfl rfl (.none rfl) ?_
    refine F_pure rfl (fun _ _ => V_lenS rfl rfl) rfl rfl (.none rfl) ?_
    refine F_pure rfl (fun _ _ => V_fieldAddr rfl rfl (by decide)) rfl rfl (.none rfl) ?_
    refine F_load rfl (.head _) (V_load rfl rfl (Cell.own (.head _) rfl)) rfl rfl (.none rfl) ?_
    refine F_pure rfl (fun _ _ => V_lenS rfl rfl) rfl rfl (.none rfl) ?_
    refine F_pure rfl (fun _ _ => V_sl3n rfl rfl rfl rfl (by omega) (by omega)) rfl rfl (.none rfl) ?_
    refine F_pure rfl (fun _ _ => V_fieldAddr rfl rfl (by decide)) rfl rfl (.none rfl) ?_
    refine F_load rfl (.head _) (V_load rfl rfl (Cell.own (.head _) rfl)) rfl rfl (.none rfl) ?_
    (refine F_litZ rfl rfl rfl (by decide) (by simp [fillS, zeros, setLs, setL, Value.cells, List.range, List.range.loop]; rfl) (by rfl) rfl rfl (.none rfl) ?_; intro b28 E28 hE28 hs28)
    replace ht := ht.mono hE28
    replace hn := hn.mono hE28
    replace hps := hps.mono hE28
    replace hre := hre.mono hE28
    (refine F_appendZ rfl rfl rfl rfl (by assumption) (by assumption) (by omega) (by omega) (by omega) rfl rfl (.none rfl) ?_; intro b29 c29 E29 hE29 hs29 hc29)
    replace hs28 := hs28.mono hE29
    replace ht := ht.mono hE29
    replace hn := hn.mono hE29
    replace hps := hps.mono hE29
    replace hre := hre.mono hE29
    refine F_pure rfl (fun _ _ => V_lenS rfl rfl) rfl rfl (.none rfl) ?_
    refine F_pure rfl (fun _ _ => V_move rfl rfl) rfl rfl (.none rfl) ?_
    (refine F_end (.nil _) ?_; dsimp only [List.drop])
    refine G_end (X_then (G_block ?_))
    obtain ⟨l, hll⟩ : ∃ l, g.toks ++ [g.sep] = l := ⟨_, rfl⟩
    have hlen2 : l.length = g.toks.length + 1 := by rw [← hll]; simp
    replace hs29 : SlE E29 1 (some ⟨b29, 0, none⟩) (g.toks.length + 1) (strs l) := by rw [← hll]; simpa [strs] using hs29
    have hsm : ∀ s, s ∈ l → s.length ≤ 40 := by rw [← hll]; exact hl.small
    rw [smallsB, hll]
    refine G_loop (α := Nat) (fun i => [(1, .pointer (some ⟨b1, 0, none⟩)), (29, .slice (some ⟨b29, 0, none⟩) (g.toks.length + 1) c29), (30, .int .i64 ((g.toks.length + 1 : Nat) : Int)), (31, .int .i64 i)]) (fun _ => E29) (fun _ => GB b1 g tp tc np nc pp pc :: L)
      (fun i => i ≤ l.length ∧ ∀ k, k < i → (hk : k < l.length) → smallB l[k] = true) (fun i => l.length - i) 0 ⟨Nat.zero_le _, fun k hk => by cases hk⟩ ⟨rfl, rfl, rfl, rfl, trivial⟩ rfl rfl ?_
    rintro i ⟨hi, hall⟩
    by_cases hlt : i < l.length
    · have hx := strs_get (List.getElem?_eq_getElem hlt)
      have hq : l[i].length ≤ 40 := hsm _ (List.getElem_mem hlt)
      cases hb : smallB l[i] with
      | true =>
        refine G_seq (G_region ?_)
        refine Gv (V_lss rfl rfl rfl) ?_
        refine G_end (X_then (G_seq ?_))
        refine G_cond_t rfl (decide_eq_true (by omega)) ?_
        refine G_skip (X_then (G_seq (G_block (G_seq (G_region ?_)))))
        refine Gv (V_idxAddr rfl rfl rfl (SlE.rd (by assumption)) (by omega) (by omega)) ?_
        refine Gv (V_loadS rfl rfl (SlE.rd (by assumption)) (by assumption) (by simp)) ?_
        refine Ga ?_
        refine G_end (X_then (G_seq (G_region ?_)))
        refine Gm ?_
        refine G_callv (k := 91) (.mk rfl rfl rfl rfl) rfl rfl (.none rfl) (Small_call _ _ _ (by omega)) ?_
        refine Gv (V_not rfl rfl) ?_
        refine G_end (X_then ?_)
        refine G_cond_f rfl (by simp [*]; done) ?_
        refine G_skip (X_block (X_then (G_region ?_)))
        refine Gv (V_add_i64 rfl rfl rfl (by omega) (by omega)) ?_
        refine Gm ?_
        refine G_end (X_then ?_)
        refine G_again (i + 1) ⟨hlt, ?_⟩ (by omega) ⟨rfl, rfl, rfl, rfl, trivial⟩ rfl rfl
        intro k hk hk2
        by_cases he : k = i
        · subst he; exact hb
        · exact hall k (by omega) hk2
      | false =>
        rw [all_not hlt hb]
        refine G_seq (G_region ?_)
        refine Gv (V_lss rfl rfl rfl) ?_
        refine G_end (X_then (G_seq ?_))
        refine G_cond_t rfl (decide_eq_true (by omega)) ?_
        refine G_skip (X_then (G_seq (G_block (G_seq (G_region ?_)))))
        refine Gv (V_idxAddr rfl rfl rfl (SlE.rd (by assumption)) (by omega) (by omega)) ?_
        refine Gv (V_loadS rfl rfl (SlE.rd (by assumption)) (by assumption) (by simp)) ?_
        refine Ga ?_
        refine G_end (X_then (G_seq (G_region ?_)))
        refine Gm ?_
        refine G_callv (k := 91) (.mk rfl rfl rfl rfl) rfl rfl (.none rfl) (Small_call _ _ _ (by omega)) ?_
        refine Gv (V_not rfl rfl) ?_
        refine G_end (X_then ?_)
        refine G_cond_t rfl (by simp [*]; done) ?_
        refine G_seq (G_region ?_)
        refine Ga ?_
        refine G_end (X_then (G_ret (X_block_ret (X_then_ret (X_then_ret (X_block_ret (X_then_ret ?_)))))))
        refine G_leaveS (.drop _ (.nil _)) (by exact (.cons (.tmp rfl) (.nil))) rfl ?_ ?_
        · exact (hE28.trans hE29)
        exact ⟨rfl, rfl⟩
    · have hie : i = l.length := by omega
      subst hie
      rw [all_of fun k hk => hall k hk hk]
      refine G_seq (G_region ?_)
      refine Gv (V_lss rfl rfl rfl) ?_
      refine G_end (X_then (G_seq ?_))
      refine G_cond_f rfl (decide_eq_false (by omega)) ?_
      refine G_exit (X_then_exit (X_then_exit (X_block_hit (X_then (G_seq (G_seq (G_region ?_)))))))
      refine Gv (V_fieldAddr rfl rfl (by decide)) ?_
      refine Gv (V_load rfl rfl (Cell.own (.head _) rfl)) ?_
      refine Gv (V_lenS rfl rfl) ?_
      refine Gm ?_
      refine G_end (X_then (G_block ?_))
      refine G_loop (α := Nat) (fun i => [(40, .slice np g.names.length nc), (41, .int .i64 g.names.length), (42, .int .i64 i)]) (fun _ => E29) (fun _ => GB b1 g tp tc np nc pp pc :: L)
        (fun i => i ≤ g.names.length ∧ ∀ k, k < i → (hk : k < g.names.length) → capB g.names[k] = true) (fun i => g.names.length - i) 0 ⟨Nat.zero_le _, fun k hk => by cases hk⟩ ⟨rfl, rfl, rfl, trivial⟩ rfl rfl ?_
      rintro i ⟨hi, hall2⟩
      by_cases hlt : i < g.names.length
      · have hx := strs_get (List.getElem?_eq_getElem hlt)
        have hq : g.names[i].length ≤ 40 := hl.ns _ (List.getElem_mem hlt)
        cases hb : capB g.names[i] with
        | true =>
          refine G_seq (G_region ?_)
          refine Gv (V_lss rfl rfl rfl) ?_
          refine G_end (X_then (G_seq ?_))
          refine G_cond_t rfl (decide_eq_true (by omega)) ?_
          refine G_skip (X_then (G_seq (G_block (G_seq (G_region ?_)))))
          refine Gv (V_idxAddr rfl rfl rfl (SlE.rd (by assumption)) (by omega) (by omega)) ?_
          refine Gv (V_loadS rfl rfl (SlE.rd (by assumption)) (by assumption) (by simp)) ?_
          refine Ga ?_
          refine G_end (X_then (G_seq (G_region ?_)))
          refine Gm ?_
          refine G_callv (k := 92) (.mk rfl rfl rfl rfl) rfl rfl (.none rfl) (Capital_call _ _ _ (by omega)) ?_
          refine Gv (V_not rfl rfl) ?_
          refine G_end (X_then ?_)
          refine G_cond_f rfl (by simp [*]; done) ?_
          refine G_skip (X_block (X_then (G_region ?_)))
          refine Gv (V_add_i64 rfl rfl rfl (by omega) (by omega)) ?_
          refine Gm ?_
          refine G_end (X_then ?_)
          refine G_again (i + 1) ⟨hlt, ?_⟩ (by omega) ⟨rfl, rfl, rfl, trivial⟩ rfl rfl
          intro k hk hk2
          by_cases he : k = i
          · subst he; exact hb
          · exact hall2 k (by omega) hk2
        | false =>
          rw [all_not hlt hb]
          refine G_seq (G_region ?_)
          refine Gv (V_lss rfl rfl rfl) ?_
          refine G_end (X_then (G_seq ?_))
          refine G_cond_t rfl (decide_eq_true (by omega)) ?_
          refine G_skip (X_then (G_seq (G_block (G_seq (G_region ?_)))))
          refine Gv (V_idxAddr rfl rfl rfl (SlE.rd (by assumption)) (by omega) (by omega)) ?_
          refine Gv (V_loadS rfl rfl (SlE.rd (by assumption)) (by assumption) (by simp)) ?_
          refine Ga ?_
          refine G_end (X_then (G_seq (G_region ?_)))
          refine Gm ?_
          refine G_callv (k := 92) (.mk rfl rfl rfl rfl) rfl rfl (.none rfl) (Capital_call _ _ _ (by omega)) ?_
          refine Gv (V_not rfl rfl) ?_
          refine G_end (X_then ?_)
          refine G_cond_t rfl (by simp [*]; done) ?_
          refine G_seq (G_region ?_)
          refine Ga ?_
          refine G_end (X_then (G_ret (X_block_ret (X_then_ret (X_then_ret (X_block_ret (X_then_ret ?_)))))))
          refine G_leaveS (.drop _ (.nil _)) (by exact (.cons (.tmp rfl) (.nil))) rfl ?_ ?_
          · exact (hE28.trans hE29)
          exact ⟨(by kernel_rfl), rfl⟩
      · rw [all_of fun k hk => hall2 k (by omega) hk]
        refine G_seq (G_region ?_)
        refine Gv (V_lss rfl rfl rfl) ?_
        refine G_end (X_then (G_seq ?_))
        refine G_cond_f rfl (decide_eq_false (by omega)) ?_
        refine G_exit (X_then_exit (X_then_exit (X_block_hit (X_then (G_seq (G_region ?_))))))
        refine Ga ?_
        refine G_end (X_then (G_ret ?_))
        refine G_leaveS (.drop _ (.nil _)) (by exact (.cons (.tmp rfl) (.nil))) rfl ?_ ?_
        · exact (hE28.trans hE29)
        exact ⟨(by kernel_rfl), rfl⟩
end
end Go.Proofs.YtimiokmgnclggaaGreat
set_option linter.unusedSimpArgs false
set_option linter.unusedVariables false
set_option maxHeartbeats 2000000
set_option maxRecDepth 20000
namespace Go.Proofs.YtimiokmgnclggaaGreat
open Go.RowKit
def yes (l : List (List UInt8)) : List (List UInt8 × Value) := l.map fun s => (s, .bool true)
theorem yes_get (l : List (List UInt8)) (s : List UInt8) : mget (yes l) s = if s ∈ l then some (.bool true) else none := by
  induction l with
  | nil => rfl
  | cons a l ih =>
    simp only [yes, List.map_cons, mget, List.mem_cons] at ih ⊢
    by_cases h : s = a
    · simp [h]
    · rw [if_neg h, ih]; simp [h]
theorem yes_put (l : List (List UInt8)) (s : List UInt8) (h : s ∉ l) : mput (yes l) s (.bool true) = yes (l ++ [s]) := by
  induction l with
  | nil => rfl
  | cons a l ih =>
    simp only [List.mem_cons, not_or] at h
    have := ih h.2
    simp only [yes, List.map_cons, List.cons_append, mput, if_neg h.1] at this ⊢
    rw [this]
def dupB (l : List (List UInt8)) : Bool := !decide l.Nodup
theorem nodup_take {α : Type} {l : List α} {i : Nat} (hi : i < l.length) (h : (l.take i).Nodup) (hn : l[i] ∉ l.take i) : (l.take (i + 1)).Nodup := by
  rw [List.take_succ_eq_append_getElem hi, List.nodup_append]
  refine ⟨h, by simp, fun a ha b hb => ?_⟩
  rw [List.mem_singleton.1 hb]
  exact fun e => hn (e ▸ ha)
theorem dup_at {α : Type} {l : List α} {i : Nat} (hi : i < l.length) (hn : l[i] ∈ l.take i) : ¬ l.Nodup := by
  intro h
  have h2 : (l.take (i + 1)).Nodup := (List.take_sublist _ _).nodup h
  rw [List.take_succ_eq_append_getElem hi, List.nodup_append] at h2
  exact h2.2.2 _ hn _ (List.mem_singleton.2 rfl) rfl
section
variable (E : Env) (L : List Res)
theorem different_call (gv : Value) (g : Gr) (hg : GrE E gv g) (hl : Light g) : CallV Tryz.prog 57 #[gv] E L (.int .i64 (if dupB (g.toks ++ [g.sep] ++ g.names) = true then 8 else 0)) := by
  obtain ⟨tp, tc, np, nc, pp, pc, rfl, ht, hn, ⟨rows, hrows, hps, hre⟩, k1, k2, k3⟩ := hg
  have hlen : g.prods.length = rows.length := by rw [← hrows]; simp
  have q1 := hl.t; have q2 := hl.n; have q3 := hl.p
  refine CallS.toV (CallS.intro (l := [_]) _ Tryz.func57 rfl Tryz.ntmps57 rfl ?_)
  refine G_seq (G_region ?_)
  (refine G_boxA rfl rfl rfl rfl (.none rfl) ?_; intro b1)
  refine Ga ?_
  refine G_end (X_then (G_seq (G_region ?_)))
  (refine G_makeMap kS rfl rfl rfl (.none rfl) ?_; intro b6)
  refine Ga ?_
  refine G_end (X_then (G_seq (G_seq ?_)))
  refine G_drawX 18 [(0, 0), (1, 1), (2, 0), (3, 1), (4, 0), (5, 0), (6, 1), (7, 0), (8, 0), (9, 0), (10, 1), (13, 0), (14, 1), (11, 2), (12, 3), (15, 3), (16, 0), (17, 0)] mixed (by kernel_rfl) ?_
  refine F_pure rfl (fun _ _ => V_fieldAddr rfl rfl (by decide)) rfl rfl (.none rfl) ?_
  refine F_load rfl (.tail _ (.head _)) (V_load rfl rfl (Cell.own (.head _) rfl)) rfl rfl (.none rfl) ?_
  refine F_pure rfl (fun _ _ => V_fieldAddr rfl rfl (by decide)) rfl rfl (.none rfl) ?_
  refine F_load rfl (.tail _ (.head _)) (V_load rfl rfl (Cell.own (.head _) rfl)) rfl rfl (.none rfl) ?_
  refine F_pure rfl (fun _ _ => V_lenS rfl rfl) rfl rfl (.none rfl) ?_
  refine F_pure rfl (fun _ _ => V_fieldAddr rfl rfl (by decide)) rfl rfl (.none rfl) ?_
  refine F_load rfl (.tail _ (.head _)) (V_load rfl rfl (Cell.own (.head _) rfl)) rfl rfl (.none rfl) ?_
  refine F_pure rfl (fun _ _ => V_lenS rfl rfl) rfl rfl (.none rfl) ?_
  refine F_pure rfl (fun _ _ => V_sl3n rfl rfl rfl rfl (by omega) (by omega)) rfl rfl (.none rfl) ?_
  refine F_pure rfl (fun _ _ => V_fieldAddr rfl rfl (by decide)) rfl rfl (.none rfl) ?_
  refine F_load rfl (.tail _ (.head _)) (V_load rfl rfl (Cell.own (.head _) rfl)) rfl rfl (.none rfl) ?_
  refine F_pure rfl (fun _ _ => V_fieldAddr rfl rfl (by decide)) rfl rfl (.none rfl) ?_
  refine F_load rfl (.tail _ (.head _)) (V_load rfl rfl (Cell.own (.head _) rfl)) rfl rfl (.none rfl) ?_
  (refine F_litZ rfl rfl rfl (by decide) (by simp [fillS, zeros, setLs, setL, Value.cells, List.range, List.range.loop]; rfl) (by rfl) rfl rfl (.none rfl) ?_; intro b18 E18 hE18 hs18)
  replace ht := ht.mono hE18
  replace hn := hn.mono hE18
  replace hps := hps.mono hE18
  replace hre := hre.mono hE18
  (refine F_appendO rfl rfl rfl rfl (by assumption) (by assumption) (by omega) (by omega) (by omega) rfl rfl (.none rfl) ?_; intro b19 c19)
  (refine F_append2 rfl rfl rfl rfl (by assumption) (by simp [Value.oneCell', strs, i64s]) (by omega) (by omega) rfl rfl (.none rfl) (fun _ _ => (.head _ _ _)) ?_; intro b22 c22 N22; dsimp only [List.cons_append])
  refine F_pure rfl (fun _ _ => V_lenS rfl rfl) rfl rfl (.none rfl) ?_
  refine F_pure rfl (fun _ _ => V_move rfl rfl) rfl rfl (.none rfl) ?_
  (refine F_end (.keep _ (.keep _ (.keep _ (.suf _ (.nil _))))) ?_; dsimp only [List.drop])
  refine G_end (X_then (G_block ?_))
  obtain ⟨l, hll⟩ : ∃ l, g.toks ++ [g.sep] ++ g.names = l := ⟨_, rfl⟩
  have hlen2 : l.length = g.toks.length + 1 + g.names.length := by rw [← hll]; simp; omega
  refine G.freezeSl (.head _ _) ?_
  intro E1 hE1 hs hc
  replace hs : SlE E1 1 (some ⟨b22, 0, none⟩) (g.toks.length + 1 + g.names.length) (strs l) := by rw [← hll]; simpa [strs] using hs
  rw [← hlen2] at hs ⊢
  rw [hll]
  refine G_loop (α := Nat) (fun i => [(3, .map (some b6)), (22, .slice (some ⟨b22, 0, none⟩) l.length c22), (23, .int .i64 l.length), (24, .int .i64 i)]) (fun _ => E1) (fun i => .blk b6 (mobj kS (yes (l.take i))) :: GB b1 g tp tc np nc pp pc :: L)
    (fun i => i ≤ l.length ∧ (l.take i).Nodup) (fun i => l.length - i) 0 ⟨Nat.zero_le _, by simp⟩ ⟨rfl, rfl, rfl, rfl, trivial⟩ rfl rfl ?_
  rintro i ⟨hi, hall⟩
  by_cases hlt : i < l.length
  · have hx := strs_get (List.getElem?_eq_getElem hlt)
    refine G_seq (G_region ?_)
    refine Gv (V_lss rfl rfl rfl) ?_
    refine G_end (X_then (G_seq ?_))
    refine G_cond_t rfl (decide_eq_true (by omega)) ?_
    refine G_skip (X_then (G_seq (G_block (G_seq (G_region ?_)))))
    refine Gv (V_idxAddr rfl rfl rfl (SlE.rd (by assumption)) (by omega) (by omega)) ?_
    refine Gv (V_loadS rfl rfl (SlE.rd (by assumption)) (by assumption) (by simp)) ?_
    refine Ga ?_
    refine G_end (X_then (G_seq (G_seq (G_region ?_))))
    refine Gm ?_
    refine Gm ?_
    refine Gv (V_lookup kS _ rfl rfl rfl (.head _)) ?_
    refine G_end (X_then ?_)
    rw [yes_get]
    by_cases hb : l[i] ∈ l.take i
    · have hd : dupB l = true := by simp [dupB, dup_at hlt hb]
      rw [if_pos hb, Option.getD_some, hd]
      refine G_cond_t rfl rfl ?_
      refine G_seq (G_region ?_)
      refine Ga ?_
      refine G_end (X_then (G_ret (X_then_ret (X_block_ret (X_then_ret (X_then_ret (X_block_ret (X_then_ret ?_))))))))
      refine G_leaveS (.drop _ (.drop _ (.nil _))) (by exact (.cons (.tmp rfl) (.nil))) rfl ?_ ?_
      · exact (hE18.trans hE1)
      exact ⟨(by kernel_rfl), rfl⟩
    · rw [if_neg hb, Option.getD_none]
      refine G_cond_f rfl rfl ?_
      refine G_skip (X_then (G_region ?_))
      refine Gm ?_
      refine Gm ?_
      refine G_mapUpdate kS _ (.inl rfl) rfl rfl rfl rfl (.none rfl) (.head _ _ _) ?_
      refine G_end (X_block (X_then (G_region ?_)))
      refine Gv (V_add_i64 rfl rfl rfl (by omega) (by omega)) ?_
      refine Gm ?_
      refine G_end (X_then ?_)
      rw [yes_put _ _ hb, ← List.take_succ_eq_append_getElem hlt]
      exact G_again (i + 1) ⟨hlt, nodup_take hlt hall hb⟩ (by omega) ⟨rfl, rfl, rfl, rfl, trivial⟩ rfl rfl
  · rw [List.take_of_length_le (by omega)] at hall
    have hd : dupB l = false := by simp [dupB, hall]
    rw [hd]
    refine G_seq (G_region ?_)
    refine Gv (V_lss rfl rfl rfl) ?_
    refine G_end (X_then (G_seq ?_))
    refine G_cond_f rfl (decide_eq_false (by omega)) ?_
    refine G_exit (X_then_exit (X_then_exit (X_block_hit (X_then (G_seq (G_region ?_))))))
    refine Ga ?_
    refine G_end (X_then (G_ret ?_))
    refine G_leaveS (.drop _ (.drop _ (.nil _))) (by exact (.cons (.tmp rfl) (.nil))) rfl ?_ ?_
    · exact (hE18.trans hE1)
    exact ⟨(by kernel_rfl), rfl⟩
def termB (g : Gr) (s : Int) : Bool := decide (0 ≤ s) && decide (s < g.toks.length)
def ntB (g : Gr) (s : Int) : Bool := decide (16 ≤ s) && decide (s < 16 + g.names.length)
theorem terminal_call (gv : Value) (g : Gr) (hg : GrE E gv g) (hl : Light g) (s : Int) : CallV Tryz.prog 96 #[gv, .int .i64 s] E L (.bool (termB g s)) := by
  obtain ⟨tp, tc, np, nc, pp, pc, rfl, ht, hn, ⟨rows, hrows, hps, hre⟩, k1, k2, k3⟩ := hg
  have q1 := hl.t; have q2 := hl.n; have q3 := hl.p
  refine CallS.toV (CallS.intro (l := [_, _]) _ Tryz.func96 rfl Tryz.ntmps96 rfl ?_)
  refine G_seq (G_region ?_)
  (refine G_boxA rfl rfl rfl rfl (.none rfl) ?_; intro b2)
  refine Ga ?_
  refine G_end (X_then (G_seq (G_region ?_)))
  refine Gm ?_
  refine Gv (V_geq rfl rfl rfl) ?_
  refine Gm ?_
  apply G_joinAnd 6 7 13 rfl
  · intro H1
    dsimp only [List.take]
    simp only [Bool.and_eq_true, Bool.or_eq_true, Bool.not_eq_true', Bool.not_eq_false', Bool.and_eq_false_iff, Bool.or_eq_false_iff, Bool.not_not, decide_eq_true_eq, decide_eq_false_iff_not, ne_eq, Decidable.not_not, Bool.decide_eq_true] at H1
    refine Gy (V_move rfl rfl) ?_
    refine Gy (V_fieldAddr rfl rfl (by decide)) ?_
    refine Gy (V_load rfl rfl (Cell.own (.head _) rfl)) ?_
    refine Gy (V_lenS rfl rfl) ?_
    refine Gy (V_lss rfl rfl rfl) ?_
    refine Gv (V_pick_t rfl rfl rfl) ?_
    refine G_end ?_
    exact JQ_end 6 rfl rfl (by kernel_rfl)
  · intro H2
    dsimp only [List.take]
    simp only [Bool.and_eq_true, Bool.or_eq_true, Bool.not_eq_true', Bool.not_eq_false', Bool.and_eq_false_iff, Bool.or_eq_false_iff, Bool.not_not, decide_eq_true_eq, decide_eq_false_iff_not, ne_eq, Decidable.not_not, Bool.decide_eq_true] at H2
    refine Gn ?_
    refine Gn ?_
    refine Gn ?_
    refine Gn ?_
    refine Gn ?_
    refine Gv (V_pick_f rfl rfl rfl) ?_
    refine G_end ?_
    exact JQ_end 6 rfl rfl (by kernel_rfl)
  dsimp only [List.drop]
  refine Ga ?_
  refine G_end (X_then (G_ret ?_))
  refine G_leaveS (.drop _ (.nil _)) (by exact (.cons (.tmp rfl) (.nil))) rfl ?_ ?_
  · exact (.refl _)
  exact ⟨rfl, rfl⟩
theorem nonterminal_call (gv : Value) (g : Gr) (hg : GrE E gv g) (hl : Light g) (s : Int) : CallV Tryz.prog 93 #[gv, .int .i64 s] E L (.bool (ntB g s)) := by
  obtain ⟨tp, tc, np, nc, pp, pc, rfl, ht, hn, ⟨rows, hrows, hps, hre⟩, k1, k2, k3⟩ := hg
  have q1 := hl.t; have q2 := hl.n; have q3 := hl.p
  refine CallS.toV (CallS.intro (l := [_, _]) _ Tryz.func93 rfl Tryz.ntmps93 rfl ?_)
  refine G_seq (G_region ?_)
  (refine G_boxA rfl rfl rfl rfl (.none rfl) ?_; intro b2)
  refine Ga ?_
  refine G_end (X_then (G_seq (G_region ?_)))
  refine Gm ?_
  refine Gv (V_geq rfl rfl rfl) ?_
  refine Gm ?_
  apply G_joinAnd 7 7 14 rfl
  · intro H1
    dsimp only [List.take]
    simp only [Bool.and_eq_true, Bool.or_eq_true, Bool.not_eq_true', Bool.not_eq_false', Bool.and_eq_false_iff, Bool.or_eq_false_iff, Bool.not_not, decide_eq_true_eq, decide_eq_false_iff_not, ne_eq, Decidable.not_not, Bool.decide_eq_true] at H1
    refine Gy (V_move rfl rfl) ?_
    refine Gy (V_fieldAddr rfl rfl (by decide)) ?_
    refine Gy (V_load rfl rfl (Cell.own (.head _) rfl)) ?_
    refine Gy (V_lenS rfl rfl) ?_
    refine Gy (V_add_i64 rfl rfl rfl (by omega) (by omega)) ?_
    refine Gy (V_lss rfl rfl rfl) ?_
    refine Gv (V_pick_t rfl rfl rfl) ?_
    refine G_end ?_
    exact JQ_end 7 rfl rfl (by kernel_rfl)
  · intro H2
    dsimp only [List.take]
    simp only [Bool.and_eq_true, Bool.or_eq_true, Bool.not_eq_true', Bool.not_eq_false', Bool.and_eq_false_iff, Bool.or_eq_false_iff, Bool.not_not, decide_eq_true_eq, decide_eq_false_iff_not, ne_eq, Decidable.not_not, Bool.decide_eq_true] at H2
    refine Gn ?_
    refine Gn ?_
    refine Gn ?_
    refine Gn ?_
    refine Gn ?_
    refine Gn ?_
    refine Gv (V_pick_f rfl rfl rfl) ?_
    refine G_end ?_
    exact JQ_end 7 rfl rfl (by kernel_rfl)
  dsimp only [List.drop]
  refine Ga ?_
  refine G_end (X_then (G_ret ?_))
  refine G_leaveS (.drop _ (.nil _)) (by exact (.cons (.tmp rfl) (.nil))) rfl ?_ ?_
  · exact (.refl _)
  exact ⟨rfl, rfl⟩
theorem symbols1_call (b : Nat) (g : Gr) (tp : Option Addr) (tc : Nat) (np : Option Addr) (nc : Nat) (pp : Option Addr) (pc : Nat) (hm : GB b g tp tc np nc pp pc ∈ L)
    (hg : GrE E (.agg #[.int .i64 g.k, .slice tp g.toks.length tc, .string (S g.sep), .slice np g.names.length nc, .int .i64 g.start, .slice pp g.prods.length pc]) g) (hl : Light g) (s : Int) :
    CallV Tryz.prog 95 #[.int .i64 s, .pointer (some ⟨b, 0, none⟩)] E L (.bool (!termB g s && !ntB g s)) := by
  refine CallS.toV (CallS.intro (l := [_, _]) _ Tryz.func95 rfl Tryz.ntmps95 rfl ?_)
  refine G_seq (G_region ?_)
  refine Ga ?_
  refine G_end (X_then (G_seq (G_region ?_)))
  refine Gv (V_loadF rfl rfl (by assumption) (by simp only [Nat.zero_add, List.drop_succ_cons, List.drop_zero, List.take_succ_cons, List.take_zero]; rfl) (by rfl)) ?_
  refine Gm ?_
  refine G_callv (k := 96) (.mk rfl rfl rfl rfl) rfl rfl (.none rfl) (terminal_call _ _ _ _ (by assumption) (by assumption) _) ?_
  refine Gv (V_not rfl rfl) ?_
  refine Gm ?_
  apply G_joinAnd 5 8 13 rfl
  · intro H1
    dsimp only [List.take]
    simp only [Bool.and_eq_true, Bool.or_eq_true, Bool.not_eq_true', Bool.not_eq_false', Bool.and_eq_false_iff, Bool.or_eq_false_iff, Bool.not_not, decide_eq_true_eq, decide_eq_false_iff_not, ne_eq, Decidable.not_not, Bool.decide_eq_true] at H1
    refine Gy (V_loadF rfl rfl (by assumption) (by simp only [Nat.zero_add, List.drop_succ_cons, List.drop_zero, List.take_succ_cons, List.take_zero]; rfl) (by rfl)) ?_
    refine Gy (V_move rfl rfl) ?_
    refine G_callv (k := 93) (.mk rfl rfl rfl rfl) rfl rfl (.yes rfl rfl rfl rfl) (nonterminal_call _ _ _ _ (by assumption) (by assumption) _) ?_
    refine Gy (V_not rfl rfl) ?_
    refine Gv (V_pick_t rfl rfl rfl) ?_
    refine G_end ?_
    exact JQ_end 5 rfl rfl (by kernel_rfl)
  · intro H2
    dsimp only [List.take]
    simp only [Bool.and_eq_true, Bool.or_eq_true, Bool.not_eq_true', Bool.not_eq_false', Bool.and_eq_false_iff, Bool.or_eq_false_iff, Bool.not_not, decide_eq_true_eq, decide_eq_false_iff_not, ne_eq, Decidable.not_not, Bool.decide_eq_true] at H2
    refine Gn ?_
    refine Gn ?_
    refine Gn ?_
    refine Gn ?_
    refine Gv (V_pick_f rfl rfl rfl) ?_
    refine G_end ?_
    exact JQ_end 5 rfl rfl (by kernel_rfl)
  dsimp only [List.drop]
  refine Ga ?_
  refine G_end (X_then (G_ret ?_))
  refine G_leaveS (.nil _) (by exact (.cons (.tmp rfl) (.nil))) rfl ?_ ?_
  · exact (.refl _)
  exact ⟨rfl, rfl⟩
theorem IndexFuncI_call (p : Option Addr) (n c : Nat) (l : List Int) (hx : SlE E 1 p n (i64s l)) (hn : n ≤ 1000000) (b : Nat) (g : Gr) (tp : Option Addr) (tc : Nat) (np : Option Addr) (nc : Nat) (pp : Option Addr) (pc : Nat) (hm : GB b g tp tc np nc pp pc ∈ L)
    (hg : GrE E (.agg #[.int .i64 g.k, .slice tp g.toks.length tc, .string (S g.sep), .slice np g.names.length nc, .int .i64 g.start, .slice pp g.prods.length pc]) g) (hl : Light g) :
    CallS Tryz.prog 113 #[.slice p n c, .func (.func 95) #[] #[.pointer (some ⟨b, 0, none⟩)]] E L (fun r E' L' => ∃ i : Int, r = .int .i64 i ∧ (0 ≤ i ↔ l.any (fun s => !termB g s && !ntB g s) = true) ∧ L' = L) := by
  have e1 := hx.nI
  subst e1
  refine CallS.intro (l := [_, _]) _ Tryz.func113 rfl Tryz.ntmps113 rfl ?_
  refine G_seq (G_region ?_)
  refine Ga ?_
  refine G_end (X_then (G_seq (G_seq (G_region ?_))))
  refine Gm ?_
  refine Gv (V_lenS rfl rfl) ?_
  refine Gm ?_
  refine G_end (X_then (G_block ?_))
  refine G_loop (α := Nat) (fun i => [(0, .slice p l.length c), (1, .func (.func 95) #[] #[.pointer (some ⟨b, 0, none⟩)]), (7, .int .i64 l.length), (8, .int .i64 i)]) (fun _ => E) (fun i => L)
    (fun i => i ≤ l.length ∧ ∀ k, k < i → (hk : k < l.length) → (!termB g l[k] && !ntB g l[k]) = false) (fun i => l.length - i) 0 ⟨Nat.zero_le _, fun k hk => by cases hk⟩ ⟨rfl, rfl, rfl, rfl, trivial⟩ rfl rfl ?_
  rintro i ⟨hi, hall⟩
  by_cases hlt : i < l.length
  · have hy := i64s_get (List.getElem?_eq_getElem hlt)
    cases hb : (!termB g l[i] && !ntB g l[i]) with
    | true =>
      have hfin : (0 : Int) ≤ (i : Int) ↔ l.any (fun s => !termB g s && !ntB g s) = true := ⟨fun _ => any_of hlt hb, fun _ => by omega⟩
      refine G_seq (G_region ?_)
      refine Gv (V_lss rfl rfl rfl) ?_
      refine G_end (X_then (G_seq ?_))
      refine G_cond_t rfl (decide_eq_true (by omega)) ?_
      refine G_skip (X_then (G_seq (G_block (G_seq (G_region ?_)))))
      refine Gm ?_
      refine Ga ?_
      refine G_end (X_then (G_seq (G_region ?_)))
      refine Gm ?_
      refine Gm ?_
      refine Gm ?_
      refine Gv (V_idxAddr rfl rfl rfl (SlE.rd (by assumption)) (by omega) (by omega)) ?_
      refine Gv (V_loadS rfl rfl (SlE.rd (by assumption)) (by assumption) (by simp)) ?_
      refine G_callv (k := 95) (.mk rfl rfl rfl rfl) rfl rfl (.none rfl) (symbols1_call _ _ _ _ _ _ _ _ _ _ (by assumption) (by assumption) (by assumption) _) ?_
      refine G_end (X_then ?_)
      refine G_cond_t rfl (by assumption) ?_
      refine G_seq (G_region ?_)
      refine Gm ?_
      refine Ga ?_
      refine G_end (X_then (G_ret (X_block_ret (X_then_ret (X_then_ret (X_block_ret (X_then_ret ?_)))))))
      refine G_leaveS (.nil _) (by exact (.cons (.tmp rfl) (.nil))) rfl ?_ ?_
      · exact (.refl _)
      exact ⟨_, ⟨rfl, ⟨(by assumption), rfl⟩⟩⟩
    | false =>
      refine G_seq (G_region ?_)
      refine Gv (V_lss rfl rfl rfl) ?_
      refine G_end (X_then (G_seq ?_))
      refine G_cond_t rfl (decide_eq_true (by omega)) ?_
      refine G_skip (X_then (G_seq (G_block (G_seq (G_region ?_)))))
      refine Gm ?_
      refine Ga ?_
      refine G_end (X_then (G_seq (G_region ?_)))
      refine Gm ?_
      refine Gm ?_
      refine Gm ?_
      refine Gv (V_idxAddr rfl rfl rfl (SlE.rd (by assumption)) (by omega) (by omega)) ?_
      refine Gv (V_loadS rfl rfl (SlE.rd (by assumption)) (by assumption) (by simp)) ?_
      refine G_callv (k := 95) (.mk rfl rfl rfl rfl) rfl rfl (.none rfl) (symbols1_call _ _ _ _ _ _ _ _ _ _ (by assumption) (by assumption) (by assumption) _) ?_
      refine G_end (X_then ?_)
      refine G_cond_f rfl (by assumption) ?_
      refine G_skip (X_block (X_then (G_region ?_)))
      refine Gv (V_add_i64 rfl rfl rfl (by omega) (by omega)) ?_
      refine Gm ?_
      refine G_end (X_then ?_)
      refine G_again (i + 1) ⟨hlt, ?_⟩ (by omega) ⟨rfl, rfl, rfl, rfl, trivial⟩ rfl rfl
      intro k hk hk2
      by_cases he : k = i
      · subst he; exact hb
      · exact hall k (by omega) hk2
  · have hfin : (0 : Int) ≤ -1 ↔ l.any (fun s => !termB g s && !ntB g s) = true := ⟨fun h => by omega, fun h => by rw [any_none fun k hk => hall k (by omega) hk] at h; cases h⟩
    refine G_seq (G_region ?_)
    refine Gv (V_lss rfl rfl rfl) ?_
    refine G_end (X_then (G_seq ?_))
    refine G_cond_f rfl (decide_eq_false (by omega)) ?_
    refine G_exit (X_then_exit (X_then_exit (X_block_hit (X_then (G_seq (G_region ?_))))))
    refine Ga ?_
    refine G_end (X_then (G_ret ?_))
    refine G_leaveS (.nil _) (by exact (.cons (.tmp rfl) (.nil))) rfl ?_ ?_
    · exact (.refl _)
    exact ⟨_, ⟨rfl, ⟨(by assumption), rfl⟩⟩⟩
theorem ContainsFuncI_call (p : Option Addr) (n c : Nat) (l : List Int) (hx : SlE E 1 p n (i64s l)) (hn : n ≤ 1000000) (b : Nat) (g : Gr) (tp : Option Addr) (tc : Nat) (np : Option Addr) (nc : Nat) (pp : Option Addr) (pc : Nat) (hm : GB b g tp tc np nc pp pc ∈ L)
    (hg : GrE E (.agg #[.int .i64 g.k, .slice tp g.toks.length tc, .string (S g.sep), .slice np g.names.length nc, .int .i64 g.start, .slice pp g.prods.length pc]) g) (hl : Light g) :
    CallV Tryz.prog 94 #[.slice p n c, .func (.func 95) #[] #[.pointer (some ⟨b, 0, none⟩)]] E L (.bool (l.any (fun s => !termB g s && !ntB g s))) := by
  refine CallS.toV (CallS.intro (l := [_, _]) _ Tryz.func94 rfl Tryz.ntmps94 rfl ?_)
  refine G_seq (G_region ?_)
  refine Ga ?_
  refine G_end (X_then (G_seq (G_region ?_)))
  refine Gm ?_
  refine Gm ?_
  refine G_call (k := 113) (.mk rfl rfl rfl rfl) rfl rfl (.none rfl) (IndexFuncI_call _ _ _ _ _ _ (by assumption) (by assumption) _ _ _ _ _ _ _ _ (by assumption) (by assumption) (by assumption)) ?_
  rintro r1 E2 L3 hE4 ⟨z5, ⟨rfl, ⟨Z6, rfl⟩⟩⟩
  replace hx := hx.mono hE4
  replace hg := hg.mono hE4
  refine Gv (V_geq rfl rfl rfl) ?_
  refine Ga ?_
  refine G_end (X_then (G_ret ?_))
  refine G_leaveS (.nil _) (by exact (.cons (.tmp rfl) (.nil))) rfl ?_ ?_
  · exact hE4
  rw [show decide (0 ≤ z5) = _ from Bool.eq_iff_iff.2 (decide_eq_true_iff.trans Z6)]
  exact ⟨rfl, rfl⟩
end
end Go.Proofs.YtimiokmgnclggaaGreat
set_option linter.unusedSimpArgs false
set_option linter.unusedVariables false
set_option maxHeartbeats 2000000
set_option maxRecDepth 20000
namespace Go.Proofs.YtimiokmgnclggaaGreat
open Go.RowKit
def symB (g : Gr) : Bool := ntB g g.start && g.prods.all fun p => ntB g p.1 && !p.2.any (fun s => !termB g s && !ntB g s)
/-- No production's left side is less than that of the one before. -/
def ordsB (l : List Pr) : Bool := (List.range l.length).all fun i => decide (i = 0) || decide ((l.getD (i - 1) (0, [])).1 ≤ (l.getD i (0, [])).1)
def compB (g : Gr) : Bool := (List.range g.names.length).all fun i => g.prods.any fun p => decide (p.1 = 16 + (i : Int))
theorem range_all {n : Nat} {f : Nat → Bool} (h : ∀ i, i < n → f i = true) : (List.range n).all f = true := by
  rw [List.all_eq_true]; intro i hi; exact h i (List.mem_range.1 hi)
theorem range_not {n i : Nat} {f : Nat → Bool} (hi : i < n) (h : f i = false) : (List.range n).all f = false := List.all_eq_false.2 ⟨i, List.mem_range.2 hi, by simp [h]⟩
theorem getD_at {α : Type} {l : List α} {i : Nat} (d : α) (h : i < l.length) : l.getD i d = l[i] := by simp [List.getD, List.getElem?_eq_getElem h]
section
variable (E : Env) (L : List Res)
theorem symbols_call (gv : Value) (g : Gr) (hg : GrE E gv g) (hl : Light g) : CallV Tryz.prog 58 #[gv] E L (.int .i64 (if symB g = true then 0 else 14)) := by
  have hg0 := hg
  obtain ⟨tp, tc, np, nc, pp, pc, rfl, ht, hn, ⟨rows, hrows, hps, hre⟩, k1, k2, k3⟩ := hg
  have hlen : g.prods.length = rows.length := by rw [← hrows]; simp
  have q1 := hl.t; have q2 := hl.n; have q3 := hl.p
  refine CallS.toV (CallS.intro (l := [_]) _ Tryz.func58 rfl Tryz.ntmps58 rfl ?_)
  cases hs : ntB g g.start with
  | false =>
    have : symB g = false := by simp [symB, hs]
    rw [this]
    refine G_seq (G_region ?_)
    (refine G_boxA rfl rfl rfl rfl (.none rfl) ?_; intro b1)
    (refine G_alloc rfl rfl rfl (.none rfl) ?_; intro b2)
    refine G_end (X_then (G_seq (G_seq (G_region ?_))))
    refine Gv (V_loadA rfl rfl (Cells.own (.tail _ (.head _))) rfl) ?_
    refine Gv (V_fieldAddr rfl rfl (by decide)) ?_
    refine Gv (V_load rfl rfl (Cell.own (.tail _ (.head _)) rfl)) ?_
    refine G_callv (k := 93) (.mk rfl rfl rfl rfl) rfl rfl (.none rfl) (nonterminal_call _ _ _ _ (by assumption) (by assumption) _) ?_
    refine Gv (V_not rfl rfl) ?_
    refine G_end (X_then ?_)
    refine G_cond_t rfl (by simp [*]; done) ?_
    refine G_seq (G_region ?_)
    refine G_store1 rfl rfl rfl rfl rfl rfl (.none rfl) (.head _ _ _) ?_
    refine G_end (X_then (G_ret (X_then_ret ?_)))
    refine G_leaveS (.drop _ (.drop _ (.nil _))) (by exact (.cons (.cell1 rfl (Cell.own1 (.head _))) (.nil))) rfl ?_ ?_
    · exact (.refl _)
    exact ⟨(by kernel_rfl), rfl⟩
  | true =>
    have e : symB g = rows.all (fun x => ntB g x.2.2.1 && !x.2.2.2.any (fun s => !termB g s && !ntB g s)) := by rw [symB, hs, ← hrows, List.all_map]; rfl
    rw [e]
    refine G_seq (G_region ?_)
    (refine G_boxA rfl rfl rfl rfl (.none rfl) ?_; intro b1)
    (refine G_alloc rfl rfl rfl (.none rfl) ?_; intro b2)
    refine G_end (X_then (G_seq (G_seq (G_region ?_))))
    refine Gv (V_loadA rfl rfl (Cells.own (.tail _ (.head _))) rfl) ?_
    refine Gv (V_fieldAddr rfl rfl (by decide)) ?_
    refine Gv (V_load rfl rfl (Cell.own (.tail _ (.head _)) rfl)) ?_
    refine G_callv (k := 93) (.mk rfl rfl rfl rfl) rfl rfl (.none rfl) (nonterminal_call _ _ _ _ (by assumption) (by assumption) _) ?_
    refine Gv (V_not rfl rfl) ?_
    refine G_end (X_then ?_)
    refine G_cond_f rfl (by simp [*]; done) ?_
    refine G_skip (X_then (G_seq (G_seq (G_region ?_))))
    refine Gv (V_loadA rfl rfl (Cells.own (.tail _ (.head _))) rfl) ?_
    refine G_call (k := 90) (.mk rfl rfl rfl rfl) rfl rfl (.none rfl) (prods_call _ _ _ _ _ _ _ _ _ _) ?_
    rintro r1 E2 L3 hE4 ⟨z5, ⟨rfl, ⟨rfl, rfl⟩⟩⟩
    replace hg0 := hg0.mono hE4
    replace ht := ht.mono hE4
    replace hn := hn.mono hE4
    replace hps := hps.mono hE4
    replace hre := hre.mono hE4
    refine G_end (X_then (G_block ?_))
    refine G_rangeI (σ := Int) (enc := rowEnc) rfl (iter_prods E z5 pp _ pc rows hps (by omega)) (fun _ => E) (fun v => .blk b2 (.cells #[.int .i64 v] 37 (0, 0)) :: GB b1 g tp tc np nc pp pc :: L)
      (fun pre v => v = 0 ∧ ∀ i, i < pre.length → (hi : i < rows.length) → (ntB g rows[i].2.2.1 && !rows[i].2.2.2.any (fun s => !termB g s && !ntB g s)) = true) (fun q pre v => q = .ret ∧ v = 14 ∧ rows.all (fun x => ntB g x.2.2.1 && !x.2.2.2.any (fun s => !termB g s && !ntB g s)) = false) 0 ⟨rfl, fun i hi => by cases hi⟩ rfl (.refl _) rfl (fun _ => rfl) ?_ ?_ ?_
    · rintro y D tm fn M pre ⟨x, j⟩ v hpre ⟨rfl, hall⟩ hE
      obtain ⟨hx, hj, hlt⟩ := zip_pre hpre
      simp only at hx hj
      have hxr : SlE E 1 x.1 x.2.2.2.length (i64s x.2.2.2) := hre.get hx
      have hx8 : x.2.2.2.length ≤ 8 := hl.ps _ (by rw [← hrows]; exact List.mem_map.2 ⟨x, List.mem_of_getElem? hx, rfl⟩)
      have hxe : rows[pre.length] = x := by rw [List.getElem?_eq_getElem hlt] at hx; exact Option.some.inj hx
      simp only [List.cons_append]
      dsimp only [rowEnc]
      cases hb : (ntB g x.2.2.1 && !x.2.2.2.any (fun s => !termB g s && !ntB g s)) with
      | true =>
        have hb' := hb
        simp only [Bool.and_eq_true, Bool.not_eq_true'] at hb'
        obtain ⟨hb1, hb2⟩ := hb'
        refine G_region ?_
        (refine G_alloc rfl rfl rfl (.none rfl) ?_; intro b4)
        refine G_storeA rfl rfl rfl rfl (by simp [Value.oneCell']) rfl (.none rfl) (.head _ _ _) rfl ?_
        refine G_end (X_then ?_)
        refine G_begin (.tail _ (.head _ _ _)) ?_
        refine G_block (G_seq (G_region ?_))
        refine Gv (V_loadA rfl rfl (Cells.own (.tail _ (.tail _ (.tail _ (.tail _ (.head _)))))) rfl) ?_
        refine Gv (V_fieldAddr rfl rfl (by decide)) ?_
        refine Gv (V_load rfl rfl (Cell.own (.head _) rfl)) ?_
        refine G_callv (k := 93) (.mk rfl rfl rfl rfl) rfl rfl (.none rfl) (nonterminal_call _ _ _ _ (by assumption) (by assumption) _) ?_
        refine Gv (V_not rfl rfl) ?_
        refine Gm ?_
        refine G.bool_f 19 rfl (by simp [*]; done) ?_
        refine Gy (V_fieldAddr rfl rfl (by decide)) ?_
        refine Gy (V_load rfl rfl (Cell.own (.head _) rfl)) ?_
        refine Gy (V_makeFunc rfl rfl rfl) ?_
        refine G_callv (k := 94) (.mk rfl rfl rfl rfl) rfl rfl (.yes rfl rfl rfl rfl) (ContainsFuncI_call _ _ _ _ _ _ (by assumption) (by omega) _ _ _ _ _ _ _ _ (by exact .tail _ (.tail _ (.tail _ (.tail _ (.head _))))) (by assumption) (by assumption)) ?_
        refine Gv (V_pick_f rfl rfl rfl) ?_
        refine G_end (X_then ?_)
        refine G_cond_f rfl (by assumption) ?_
        refine G_skip (X_block ?_)
        refine G.drop ?_
        refine G_rEnd 0 ⟨rfl, ?_⟩ rfl (.refl _) rfl
        intro i hi hi2
        simp only [List.length_append, List.length_singleton] at hi
        by_cases he : i = pre.length
        · subst he
          rw [hxe]; exact hb
        · exact hall i (by omega) hi2
      | false =>
        have hfin := all_not (f := fun x : Row => ntB g x.2.2.1 && !x.2.2.2.any (fun s => !termB g s && !ntB g s)) hlt (by rw [hxe]; exact hb)
        have hb' : (!ntB g x.2.2.1 || x.2.2.2.any (fun s => !termB g s && !ntB g s)) = true := by
          revert hb
          cases ntB g x.2.2.1 <;> simp
        refine G_region ?_
        (refine G_alloc rfl rfl rfl (.none rfl) ?_; intro b4)
        refine G_storeA rfl rfl rfl rfl (by simp [Value.oneCell']) rfl (.none rfl) (.head _ _ _) rfl ?_
        refine G_end (X_then ?_)
        refine G_begin (.tail _ (.head _ _ _)) ?_
        refine G_block (G_seq (G_region ?_))
        refine Gv (V_loadA rfl rfl (Cells.own (.tail _ (.tail _ (.tail _ (.tail _ (.head _)))))) rfl) ?_
        refine Gv (V_fieldAddr rfl rfl (by decide)) ?_
        refine Gv (V_load rfl rfl (Cell.own (.head _) rfl)) ?_
        refine G_callv (k := 93) (.mk rfl rfl rfl rfl) rfl rfl (.none rfl) (nonterminal_call _ _ _ _ (by assumption) (by assumption) _) ?_
        refine Gv (V_not rfl rfl) ?_
        refine Gm ?_
        apply G_joinOr 5 19 24 rfl
        · intro H1
          dsimp only [List.take]
          simp only [Bool.and_eq_true, Bool.or_eq_true, Bool.not_eq_true', Bool.not_eq_false', Bool.and_eq_false_iff, Bool.or_eq_false_iff, Bool.not_not, decide_eq_true_eq, decide_eq_false_iff_not, ne_eq, Decidable.not_not, Bool.decide_eq_true] at H1
          refine Gn ?_
          refine Gn ?_
          refine Gn ?_
          refine Gn ?_
          refine Gv (V_pick_t rfl rfl rfl) ?_
          refine G_end ?_
          exact JQ_end 5 rfl rfl (by kernel_rfl)
        · intro H2
          dsimp only [List.take]
          simp only [Bool.and_eq_true, Bool.or_eq_true, Bool.not_eq_true', Bool.not_eq_false', Bool.and_eq_false_iff, Bool.or_eq_false_iff, Bool.not_not, decide_eq_true_eq, decide_eq_false_iff_not, ne_eq, Decidable.not_not, Bool.decide_eq_true] at H2
          refine Gy (V_fieldAddr rfl rfl (by decide)) ?_
          refine Gy (V_load rfl rfl (Cell.own (.head _) rfl)) ?_
          refine Gy (V_makeFunc rfl rfl rfl) ?_
          refine G_callv (k := 94) (.mk rfl rfl rfl rfl) rfl rfl (.yes rfl rfl rfl rfl) (ContainsFuncI_call _ _ _ _ _ _ (by assumption) (by omega) _ _ _ _ _ _ _ _ (by exact .tail _ (.tail _ (.tail _ (.tail _ (.head _))))) (by assumption) (by assumption)) ?_
          refine Gv (V_pick_f rfl rfl rfl) ?_
          refine G_end ?_
          exact JQ_end 5 rfl rfl (by kernel_rfl)
        dsimp only [List.drop]
        refine G_end (X_then ?_)
        refine G_cond_t rfl (by assumption) ?_
        refine G_seq (G_region ?_)
        refine G_store1 rfl rfl rfl rfl rfl rfl (.none rfl) (.tail _ (.tail _ (.tail _ (.head _ _ _)))) ?_
        refine G_end (X_then (G_ret (X_block_ret ?_)))
        refine G.drop ?_
        exact G_rRet 14 ⟨rfl, rfl, hfin⟩ rfl (.refl _) rfl
    · rintro D v ⟨rfl, hall⟩ hE
      rw [all_of fun i hi => hall i (by simpa using hi) hi]
      refine X_block (X_then (G_seq (G_region ?_)))
      refine G_store1 rfl rfl rfl rfl rfl rfl (.none rfl) (.tail _ (.head _ _ _)) ?_
      refine G_end (X_then (G_ret ?_))
      refine G_leave_ms [D] ?_
      refine G_leaveS (.drop _ (.drop _ (.nil _))) (by exact (.cons (.cell1 rfl (Cell.own1 (.head _))) (.nil))) rfl ?_ ?_
      · exact (.refl _)
      exact ⟨(by kernel_rfl), rfl⟩
    · rintro D q pre v hpre ⟨rfl, rfl, hs⟩ hE
      rw [hs]
      refine G_ret (X_block_ret (X_then_ret ?_))
      refine G_leave_ms [D] ?_
      refine G_leaveS (.drop _ (.drop _ (.nil _))) (by exact (.cons (.cell1 rfl (Cell.own1 (.head _))) (.nil))) rfl ?_ ?_
      · exact (.refl _)
      exact ⟨(by kernel_rfl), rfl⟩
theorem ordered_call (gv : Value) (g : Gr) (hg : GrE E gv g) (hl : Light g) : CallV Tryz.prog 59 #[gv] E L (.int .i64 (if ordsB g.prods = true then 0 else 9)) := by
  have hg0 := hg
  obtain ⟨tp, tc, np, nc, pp, pc, rfl, ht, hn, ⟨rows, hrows, hps, hre⟩, k1, k2, k3⟩ := hg
  have hlen : g.prods.length = rows.length := by rw [← hrows]; simp
  have q1 := hl.t; have q2 := hl.n; have q3 := hl.p
  refine CallS.toV (CallS.intro (l := [_]) _ Tryz.func59 rfl Tryz.ntmps59 rfl ?_)
  have hat : ∀ i, (hi : i < rows.length) → g.prods.getD i (0, []) = rows[i].2.2 := fun i hi => by rw [← hrows, getD_at _ (by simpa using hi)]; simp
  refine G_seq (G_region ?_)
  (refine G_boxA rfl rfl rfl rfl (.none rfl) ?_; intro b1)
  (refine G_alloc rfl rfl rfl (.none rfl) ?_; intro b2)
  refine G_end (X_then (G_seq (G_seq (G_region ?_))))
  refine Gv (V_loadA rfl rfl (Cells.own (.tail _ (.head _))) rfl) ?_
  refine G_call (k := 90) (.mk rfl rfl rfl rfl) rfl rfl (.none rfl) (prods_call _ _ _ _ _ _ _ _ _ _) ?_
  rintro r1 E2 L3 hE4 ⟨z5, ⟨rfl, ⟨rfl, rfl⟩⟩⟩
  replace hg0 := hg0.mono hE4
  replace ht := ht.mono hE4
  replace hn := hn.mono hE4
  replace hps := hps.mono hE4
  replace hre := hre.mono hE4
  refine G_end (X_then (G_block ?_))
  refine G_rangeI (σ := Int) (enc := rowEnc) rfl (iter_prods E z5 pp _ pc rows hps (by omega)) (fun _ => E) (fun v => .blk b2 (.cells #[.int .i64 v] 37 (0, 0)) :: GB b1 g tp tc np nc pp pc :: L)
    (fun pre v => v = 0 ∧ ∀ i, i < pre.length → (decide (i = 0) || decide ((g.prods.getD (i - 1) (0, [])).1 ≤ (g.prods.getD i (0, [])).1)) = true) (fun q pre v => q = .ret ∧ v = 9 ∧ ordsB g.prods = false) 0 ⟨rfl, fun i hi => by cases hi⟩ rfl (.refl _) rfl (fun _ => rfl) ?_ ?_ ?_
  · rintro y D tm fn M pre ⟨x, j⟩ v hpre ⟨rfl, hall⟩ hE
    obtain ⟨hx, hj, hlt⟩ := zip_pre hpre
    simp only at hx hj
    have hxe : rows[pre.length] = x := by rw [List.getElem?_eq_getElem hlt] at hx; exact Option.some.inj hx
    simp only [List.cons_append]
    dsimp only [rowEnc]
    subst hj
    generalize hj : pre.length = j at *
    have hstep : (decide (j = 0) || decide ((g.prods.getD (j - 1) (0, [])).1 ≤ (g.prods.getD j (0, [])).1)) = true → ∀ i, i < (pre ++ [(x, j)]).length → (decide (i = 0) || decide ((g.prods.getD (i - 1) (0, [])).1 ≤ (g.prods.getD i (0, [])).1)) = true := by
      intro h i hi
      simp only [List.length_append, List.length_singleton, hj] at hi
      by_cases he : i = j
      · subst he; exact h
      · exact hall i (by omega)
    cases j with
    | zero =>
      refine G_seq (G_region ?_)
      refine Ga ?_
      refine G_end (X_then (G_region ?_))
      (refine G_alloc rfl rfl rfl (.none rfl) ?_; intro b4)
      refine G_storeA rfl rfl rfl rfl (by simp [Value.oneCell']) rfl (.none rfl) (.head _ _ _) rfl ?_
      refine G_end (X_then ?_)
      refine G_begin (.tail _ (.head _ _ _)) ?_
      refine G_block (G_seq ?_)
      refine G_draw mixed (by kernel_rfl) ?_
      refine Q_val (V_move rfl rfl) rfl rfl (.none rfl) ?_
      refine Q_val (V_gtr rfl rfl rfl) rfl rfl (.none rfl) ?_
      refine Q_val (V_move rfl rfl) rfl rfl (.none rfl) ?_
      refine Q_bool_f 11 rfl (by kernel_rfl) ?_
      refine Q_stay (.no rfl rfl rfl rfl) rfl rfl ?_
      refine Q_stay (.no rfl rfl rfl rfl) rfl rfl ?_
      refine Q_stay (.no rfl rfl rfl rfl) rfl rfl ?_
      refine Q_stay (.no rfl rfl rfl rfl) rfl rfl ?_
      refine Q_stay (.no rfl rfl rfl rfl) rfl rfl ?_
      refine Q_stay (.no rfl rfl rfl rfl) rfl rfl ?_
      refine Q_stay (.no rfl rfl rfl rfl) rfl rfl ?_
      refine Q_stay (.no rfl rfl rfl rfl) rfl rfl ?_
      refine Q_stay (.no rfl rfl rfl rfl) rfl rfl ?_
      refine Q_stay (.no rfl rfl rfl rfl) rfl rfl ?_
      refine Q_val (V_pick_f rfl rfl rfl) rfl rfl (.none rfl) ?_
      refine Q_end ?_
      refine X_then ?_
      refine G_cond_f rfl rfl ?_
      refine G_skip (X_block ?_)
      refine G.drop ?_
      exact G_rEnd 0 ⟨rfl, hstep rfl⟩ rfl (.refl _) rfl
    | succ j =>
      have hj1 : j < rows.length := by omega
      have hx1 := prows_left (List.getElem?_eq_getElem hj1)
      rw [Nat.add_sub_cancel, hat j hj1, hat (j + 1) hlt, hxe] at hstep
      by_cases hb : rows[j].2.2.1 ≤ x.2.2.1
      · refine G_seq ?_
        refine G_region ?_
        refine Ga ?_
        refine G_end (X_then (G_region ?_))
        (refine G_alloc rfl rfl rfl (.none rfl) ?_; intro b4)
        refine G_storeA rfl rfl rfl rfl (by simp [Value.oneCell']) rfl (.none rfl) (.head _ _ _) rfl ?_
        refine G_end (X_then ?_)
        refine G_begin (.tail _ (.head _ _ _)) ?_
        refine G_block (G_seq ?_)
        refine G_draw mixed (by kernel_rfl) ?_
        refine Q_val (V_move rfl rfl) rfl rfl (.none rfl) ?_
        refine Q_val (V_gtr rfl rfl rfl) rfl rfl (.none rfl) ?_
        refine Q_val (V_move rfl rfl) rfl rfl (.none rfl) ?_
        refine Q_bool_t 11 rfl (decide_eq_true (by omega)) ?_
        refine Q_val (V_fieldAddr rfl rfl (by decide)) rfl rfl (.yes rfl rfl rfl rfl) ?_
        refine Q_val (V_load rfl rfl (Cell.own (.head _) rfl)) rfl rfl (.yes rfl rfl rfl rfl) ?_
        refine Q_val (V_fieldAddr rfl rfl (by decide)) rfl rfl (.yes rfl rfl rfl rfl) ?_
        refine Q_val (V_load rfl rfl (Cell.own (.tail _ (.tail _ (.tail _ (.tail _ (.head _))))) rfl)) rfl rfl (.yes rfl rfl rfl rfl) ?_
        refine Q_val (V_move rfl rfl) rfl rfl (.yes rfl rfl rfl rfl) ?_
        refine Q_val (V_sub_i64 rfl rfl rfl (by omega) (by omega)) rfl rfl (.yes rfl rfl rfl rfl) ?_
        refine Q_val (V_idxAddr rfl rfl rfl (SlE.rd (by assumption)) (by omega) (by omega)) rfl rfl (.yes rfl rfl rfl rfl) ?_
        refine Q_val (V_fieldAddrE rfl rfl (by assumption) (by omega) (by decide)) rfl rfl (.yes rfl rfl rfl rfl) ?_
        refine Q_val (V_loadS rfl rfl (SlE.rd (by assumption)) (by assumption) (by simp)) rfl rfl (.yes rfl rfl rfl rfl) ?_
        refine Q_val (V_lss rfl rfl rfl) rfl rfl (.yes rfl rfl rfl rfl) ?_
        refine Q_val (V_pick_t rfl rfl rfl) rfl rfl (.none rfl) ?_
        refine Q_end ?_
        refine X_then ?_
        refine G_cond_f rfl (decide_eq_false (by omega)) ?_
        refine G_skip (X_block ?_)
        refine G.drop ?_
        exact G_rEnd 0 ⟨rfl, hstep (by simp [hb])⟩ rfl (.refl _) rfl
      · refine G_seq ?_
        refine G_region ?_
        refine Ga ?_
        refine G_end (X_then (G_region ?_))
        (refine G_alloc rfl rfl rfl (.none rfl) ?_; intro b4)
        refine G_storeA rfl rfl rfl rfl (by simp [Value.oneCell']) rfl (.none rfl) (.head _ _ _) rfl ?_
        refine G_end (X_then ?_)
        refine G_begin (.tail _ (.head _ _ _)) ?_
        refine G_block (G_seq ?_)
        refine G_draw mixed (by kernel_rfl) ?_
        refine Q_val (V_move rfl rfl) rfl rfl (.none rfl) ?_
        refine Q_val (V_gtr rfl rfl rfl) rfl rfl (.none rfl) ?_
        refine Q_val (V_move rfl rfl) rfl rfl (.none rfl) ?_
        refine Q_bool_t 11 rfl (decide_eq_true (by omega)) ?_
        refine Q_val (V_fieldAddr rfl rfl (by decide)) rfl rfl (.yes rfl rfl rfl rfl) ?_
        refine Q_val (V_load rfl rfl (Cell.own (.head _) rfl)) rfl rfl (.yes rfl rfl rfl rfl) ?_
        refine Q_val (V_fieldAddr rfl rfl (by decide)) rfl rfl (.yes rfl rfl rfl rfl) ?_
        refine Q_val (V_load rfl rfl (Cell.own (.tail _ (.tail _ (.tail _ (.tail _ (.head _))))) rfl)) rfl rfl (.yes rfl rfl rfl rfl) ?_
        refine Q_val (V_move rfl rfl) rfl rfl (.yes rfl rfl rfl rfl) ?_
        refine Q_val (V_sub_i64 rfl rfl rfl (by omega) (by omega)) rfl rfl (.yes rfl rfl rfl rfl) ?_
        refine Q_val (V_idxAddr rfl rfl rfl (SlE.rd (by assumption)) (by omega) (by omega)) rfl rfl (.yes rfl rfl rfl rfl) ?_
        refine Q_val (V_fieldAddrE rfl rfl (by assumption) (by omega) (by decide)) rfl rfl (.yes rfl rfl rfl rfl) ?_
        refine Q_val (V_loadS rfl rfl (SlE.rd (by assumption)) (by assumption) (by simp)) rfl rfl (.yes rfl rfl rfl rfl) ?_
        refine Q_val (V_lss rfl rfl rfl) rfl rfl (.yes rfl rfl rfl rfl) ?_
        refine Q_val (V_pick_t rfl rfl rfl) rfl rfl (.none rfl) ?_
        refine Q_end ?_
        refine X_then ?_
        refine G_cond_t rfl (decide_eq_true (by omega)) ?_
        refine G_seq (G_region ?_)
        refine G_store1 rfl rfl rfl rfl rfl rfl (.none rfl) (.tail _ (.tail _ (.tail _ (.head _ _ _)))) ?_
        refine G_end (X_then (G_ret (X_block_ret ?_)))
        refine G.drop ?_
        refine G_rRet 9 ⟨rfl, rfl, range_not (i := j + 1) (by omega) ?_⟩ rfl (.refl _) rfl
        rw [Nat.add_sub_cancel, hat j hj1, hat (j + 1) hlt, hxe]
        simp [hb]
  · rintro D v ⟨rfl, hall⟩ hE
    have : ordsB g.prods = true := range_all fun i hi => hall i (by simpa [hlen] using hi)
    rw [this]
    refine X_block (X_then (G_seq (G_region ?_)))
    refine G_store1 rfl rfl rfl rfl rfl rfl (.none rfl) (.tail _ (.head _ _ _)) ?_
    refine G_end (X_then (G_ret ?_))
    refine G_leave_ms [D] ?_
    refine G_leaveS (.drop _ (.drop _ (.nil _))) (by exact (.cons (.cell1 rfl (Cell.own1 (.head _))) (.nil))) rfl ?_ ?_
    · exact (.refl _)
    exact ⟨(by kernel_rfl), rfl⟩
  · rintro D q pre v hpre ⟨rfl, rfl, hs⟩ hE
    rw [hs]
    refine G_ret (X_block_ret (X_then_ret ?_))
    refine G_leave_ms [D] ?_
    refine G_leaveS (.drop _ (.drop _ (.nil _))) (by exact (.cons (.cell1 rfl (Cell.own1 (.head _))) (.nil))) rfl ?_ ?_
    · exact (.refl _)
    exact ⟨(by kernel_rfl), rfl⟩
end
end Go.Proofs.YtimiokmgnclggaaGreat
