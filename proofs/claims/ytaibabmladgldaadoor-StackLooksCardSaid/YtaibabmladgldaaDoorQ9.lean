/-
  Rules and contracts, packed: S15, D19, D20, D1, D2, D3, D4, D5, D6, D7, D8, D9, D21, S16, T3, T4, T5, Sep38, T6, T7, S41, Sep40, Sep41, T16, S43.
-/
import Derived.Lib.BufferWrite
import Derived.FnData
import GoSem.ClaimJoined
import Derived.OpenShut
import Derived.Test.YtaibabmladgldaaDoorQ8
set_option maxHeartbeats 1000000
set_option linter.unusedSimpArgs false
set_option linter.unusedVariables false
set_option maxHeartbeats 2000000
set_option maxRecDepth 20000
namespace Go.Proofs.YtaibabmladgldaaDoor
open Go.RowKit
/-! The law's awake. -/
section
variable (E : Env) (L : List Res)
theorem awake25_call : CallS Tryd.prog 6 #[] E L (fun r E' L' => r = .bool true ∧ L' = L) := by
  refine CallS.intro (l := []) _ Tryd.func6 rfl Tryd.ntmps6 rfl ?_
  refine G_seq (G_region ?_)
  refine Ga ?_
  refine G_end (X_then (G_seq (G_region ?_)))
  refine G_call (k := 20) (.mk rfl rfl rfl rfl) rfl rfl (.none rfl) (shown25_call' _ _) ?_
  rintro r1 E2 L3 hE4 ⟨Z5, rfl⟩
  (refine G_litZ rfl rfl (by decide) (by simp [fillS, zeros, setLs, setL, Value.cells, List.range, List.range.loop]; rfl) (by rfl) rfl rfl (.none rfl) ?_; intro b7 E7 hE7 hs7)
  replace Z5 := Z5.mono hE7
  refine G_call (k := 21) (.mk rfl rfl rfl rfl) rfl rfl (.none rfl) (of_call _ _ _ _ _ _ (by exact SlE.toI (by assumption) rfl) (by omega)) ?_
  rintro r6 E8 L9 hE10 ⟨z11, ⟨z12, ⟨z13, ⟨rfl, ⟨Z14, ⟨Z15, rfl⟩⟩⟩⟩⟩⟩
  replace hs7 := hs7.mono hE10
  replace Z5 := Z5.mono hE10
  refine G_call (k := 19) (.mk rfl rfl rfl rfl) rfl rfl (.none rfl) (push_ex _ _ _ (by assumption) _ _ _ (by assumption) (by assumption)) ?_
  rintro r16 E17 L18 hE19 ⟨z20, ⟨z21, ⟨z22, ⟨rfl, ⟨Z23, ⟨Z24, rfl⟩⟩⟩⟩⟩⟩
  replace Z14 := Z14.mono hE19
  replace hs7 := hs7.mono hE19
  replace Z5 := Z5.mono hE19
  refine Gm ?_
  refine Gv (V_extract rfl rfl rfl) ?_
  refine Gv (V_extract rfl rfl rfl) ?_
  refine Ga ?_
  refine Ga ?_
  refine G_end (X_then (G_seq (G_region ?_)))
  (refine G_litZ rfl rfl (by decide) (by simp [fillS, zeros, setLs, setL, Value.cells, List.range, List.range.loop]; rfl) (by rfl) rfl rfl (.none rfl) ?_; intro b13 E13 hE13 hs13)
  replace Z23 := Z23.mono hE13
  replace Z14 := Z14.mono hE13
  replace hs7 := hs7.mono hE13
  replace Z5 := Z5.mono hE13
  refine G_call (k := 21) (.mk rfl rfl rfl rfl) rfl rfl (.none rfl) (of_call _ _ _ _ _ _ (by exact SlE.toI (by assumption) rfl) (by omega)) ?_
  rintro r25 E26 L27 hE28 ⟨z29, ⟨z30, ⟨z31, ⟨rfl, ⟨Z32, ⟨Z33, rfl⟩⟩⟩⟩⟩⟩
  replace hs13 := hs13.mono hE28
  replace Z23 := Z23.mono hE28
  replace Z14 := Z14.mono hE28
  replace hs7 := hs7.mono hE28
  replace Z5 := Z5.mono hE28
  refine G_call (k := 13) (.mk rfl rfl rfl rfl) rfl rfl (.none rfl) (text_ex _ _ _ _ _ (by assumption)) ?_
  rintro r34 E35 L36 hE37 ⟨rfl, rfl⟩
  replace Z32 := Z32.mono hE37
  replace hs13 := hs13.mono hE37
  replace Z23 := Z23.mono hE37
  replace Z14 := Z14.mono hE37
  replace hs7 := hs7.mono hE37
  replace Z5 := Z5.mono hE37
  refine Gm ?_
  refine Gv (V_extract rfl rfl rfl) ?_
  refine Gv (V_extract rfl rfl rfl) ?_
  refine Ga ?_
  refine Ga ?_
  refine G_end (X_then (G_seq (G_region ?_)))
  (refine G_litZ rfl rfl (by decide) (by simp [fillS, zeros, setLs, setL, Value.cells, List.range, List.range.loop]; rfl) (by rfl) rfl rfl (.none rfl) ?_; intro b18 E18 hE18 hs18)
  replace Z32 := Z32.mono hE18
  replace hs13 := hs13.mono hE18
  replace Z23 := Z23.mono hE18
  replace Z14 := Z14.mono hE18
  replace hs7 := hs7.mono hE18
  replace Z5 := Z5.mono hE18
  refine G_call (k := 22) (.mk rfl rfl rfl rfl) rfl rfl (.none rfl) (awaits25_call _ _ _ _ _ _ _ _ (by exact SlE.toI (by assumption) rfl) (by omega) (by exact (by kernel_rfl : (_ : Bool) = _))) ?_
  rintro r38 E39 L40 hE41 ⟨rfl, rfl⟩
  replace hs18 := hs18.mono hE41
  replace Z32 := Z32.mono hE41
  replace hs13 := hs13.mono hE41
  replace Z23 := Z23.mono hE41
  replace Z14 := Z14.mono hE41
  replace hs7 := hs7.mono hE41
  replace Z5 := Z5.mono hE41
  refine Gm ?_
  (refine G_litZ rfl rfl (by decide) (by simp [fillS, zeros, setLs, setL, Value.cells, List.range, List.range.loop]; rfl) (by rfl) rfl rfl (.yes rfl rfl rfl rfl) ?_; intro b21 E21 hE21 hs21)
  replace hs18 := hs18.mono hE21
  replace Z32 := Z32.mono hE21
  replace hs13 := hs13.mono hE21
  replace Z23 := Z23.mono hE21
  replace Z14 := Z14.mono hE21
  replace hs7 := hs7.mono hE21
  replace Z5 := Z5.mono hE21
  refine G_call (k := 22) (.mk rfl rfl rfl rfl) rfl rfl (.yes rfl rfl rfl rfl) (awaits25_call _ _ _ _ _ _ _ _ (by exact SlE.toI (by assumption) rfl) (by omega) (by exact (by kernel_rfl : (_ : Bool) = _))) ?_
  rintro r42 E43 L44 hE45 ⟨rfl, rfl⟩
  replace hs21 := hs21.mono hE45
  replace hs18 := hs18.mono hE45
  replace Z32 := Z32.mono hE45
  replace hs13 := hs13.mono hE45
  replace Z23 := Z23.mono hE45
  replace Z14 := Z14.mono hE45
  replace hs7 := hs7.mono hE45
  replace Z5 := Z5.mono hE45
  refine Gv (V_pick_t rfl rfl rfl) ?_
  refine Gm ?_
  (refine G_litZ rfl rfl (by decide) (by simp [fillS, zeros, setLs, setL, Value.cells, List.range, List.range.loop]; rfl) (by rfl) rfl rfl (.yes rfl rfl rfl rfl) ?_; intro b25 E25 hE25 hs25)
  replace hs21 := hs21.mono hE25
  replace hs18 := hs18.mono hE25
  replace Z32 := Z32.mono hE25
  replace hs13 := hs13.mono hE25
  replace Z23 := Z23.mono hE25
  replace Z14 := Z14.mono hE25
  replace hs7 := hs7.mono hE25
  replace Z5 := Z5.mono hE25
  refine G_call (k := 22) (.mk rfl rfl rfl rfl) rfl rfl (.yes rfl rfl rfl rfl) (awaits25_call _ _ _ _ _ _ _ _ (by exact SlE.toI (by assumption) rfl) (by omega) (by exact (by kernel_rfl : (_ : Bool) = _))) ?_
  rintro r46 E47 L48 hE49 ⟨rfl, rfl⟩
  replace hs25 := hs25.mono hE49
  replace hs21 := hs21.mono hE49
  replace hs18 := hs18.mono hE49
  replace Z32 := Z32.mono hE49
  replace hs13 := hs13.mono hE49
  replace Z23 := Z23.mono hE49
  replace Z14 := Z14.mono hE49
  replace hs7 := hs7.mono hE49
  replace Z5 := Z5.mono hE49
  refine Gv (V_pick_t rfl rfl rfl) ?_
  refine Gm ?_
  refine Gy (V_move rfl rfl) ?_
  refine Gy (V_eql rfl rfl rfl) ?_
  refine Gv (V_pick_t rfl rfl rfl) ?_
  refine Gm ?_
  refine G.bool_t 32 rfl (by kernel_rfl) ?_
  refine Gy (V_move rfl rfl) ?_
  (refine G_litZ rfl rfl (by decide) (by simp [fillS, zeros, setLs, setL, Value.cells, List.range, List.range.loop]; rfl) (by rfl) rfl rfl (.yes rfl rfl rfl rfl) ?_; intro b34 E34 hE34 hs34)
  replace hs25 := hs25.mono hE34
  replace hs21 := hs21.mono hE34
  replace hs18 := hs18.mono hE34
  replace Z32 := Z32.mono hE34
  replace hs13 := hs13.mono hE34
  replace Z23 := Z23.mono hE34
  replace Z14 := Z14.mono hE34
  replace hs7 := hs7.mono hE34
  replace Z5 := Z5.mono hE34
  refine G_call (k := 21) (.mk rfl rfl rfl rfl) rfl rfl (.yes rfl rfl rfl rfl) (of_call _ _ _ _ _ _ (by exact SlE.toI (by assumption) rfl) (by omega)) ?_
  rintro r50 E51 L52 hE53 ⟨z54, ⟨z55, ⟨z56, ⟨rfl, ⟨Z57, ⟨Z58, rfl⟩⟩⟩⟩⟩⟩
  replace hs34 := hs34.mono hE53
  replace hs25 := hs25.mono hE53
  replace hs21 := hs21.mono hE53
  replace hs18 := hs18.mono hE53
  replace Z32 := Z32.mono hE53
  replace hs13 := hs13.mono hE53
  replace Z23 := Z23.mono hE53
  replace Z14 := Z14.mono hE53
  replace hs7 := hs7.mono hE53
  replace Z5 := Z5.mono hE53
  have g1 : SlE E51 2 z54 z55 (spC (prs [0, 2, 2, 0])) := by assumption
  have g2 := g1.nSp
  have g3 : (prs [0, 2, 2, 0]).length = 2 := rfl
  refine G_callv (k := 17) (.mk rfl rfl rfl rfl) rfl rfl (.yes rfl rfl rfl rfl) (Same25_call _ _ _ _ _ _ _ _ _ _ (by assumption) (by assumption) (by omega) (by omega)) ?_
  refine Gv (V_pick_t rfl rfl rfl) ?_
  refine Gm ?_
  refine G.bool_t 38 rfl (by kernel_rfl) ?_
  refine Gy (V_move rfl rfl) ?_
  refine Gy (V_eql rfl rfl rfl) ?_
  refine Gv (V_pick_t rfl rfl rfl) ?_
  refine Gm ?_
  refine G.bool_t 42 rfl (by kernel_rfl) ?_
  refine Gy (V_move rfl rfl) ?_
  refine Gy (V_seql rfl rfl rfl) ?_
  refine Gv (V_pick_t rfl rfl rfl) ?_
  refine Gm ?_
  refine G.bool_t 46 rfl (by kernel_rfl) ?_
  (refine G_litZ rfl rfl (by decide) (by simp [fillS, zeros, setLs, setL, Value.cells, List.range, List.range.loop]; rfl) (by rfl) rfl rfl (.yes rfl rfl rfl rfl) ?_; intro b47 E47 hE47 hs47)
  replace Z57 := Z57.mono hE47
  replace hs34 := hs34.mono hE47
  replace hs25 := hs25.mono hE47
  replace hs21 := hs21.mono hE47
  replace hs18 := hs18.mono hE47
  replace Z32 := Z32.mono hE47
  replace hs13 := hs13.mono hE47
  replace Z23 := Z23.mono hE47
  replace Z14 := Z14.mono hE47
  replace hs7 := hs7.mono hE47
  replace Z5 := Z5.mono hE47
  replace g1 := g1.mono hE47
  refine G_call (k := 23) (.mk rfl rfl rfl rfl) rfl rfl (.yes rfl rfl rfl rfl) (checks25_call _ _ _ _ _ _ _ (by exact SlE.toI (by assumption) rfl) (by omega) (by exact (by kernel_rfl : (_ : Bool) = _))) ?_
  rintro r2 E3 L4 hE5 ⟨rfl, rfl⟩
  replace hs47 := hs47.mono hE5
  replace Z57 := Z57.mono hE5
  replace hs34 := hs34.mono hE5
  replace hs25 := hs25.mono hE5
  replace hs21 := hs21.mono hE5
  replace hs18 := hs18.mono hE5
  replace Z32 := Z32.mono hE5
  replace hs13 := hs13.mono hE5
  replace Z23 := Z23.mono hE5
  replace Z14 := Z14.mono hE5
  replace hs7 := hs7.mono hE5
  replace Z5 := Z5.mono hE5
  replace g1 := g1.mono hE5
  refine Gv (V_pick_t rfl rfl rfl) ?_
  refine Ga ?_
  refine G_end (X_then (G_ret ?_))
  refine G_leaveS (.nil _) (by exact (.cons (.tmp rfl) (.nil))) rfl ?_ ?_
  · exact ((((((((((((((((hE4.trans hE7).trans hE10).trans hE19).trans hE13).trans hE28).trans hE37).trans hE18).trans hE41).trans hE21).trans hE45).trans hE25).trans hE49).trans hE34).trans hE53).trans hE47).trans hE5)
  exact ⟨(by kernel_rfl), rfl⟩
end
end Go.Proofs.YtaibabmladgldaaDoor
set_option linter.unusedSimpArgs false
set_option linter.unusedVariables false
set_option maxHeartbeats 2000000
set_option maxRecDepth 20000
namespace Go.Proofs.YtaibabmladgldaaDoor
open Go.RowKit
section
variable (E : Env) (L : List Res)
theorem OwnTexts_call' (p : Option Addr) (c : Nat) (l : List (List UInt8)) (hl : SlE E 1 p l.length (strs l)) (hn : l.length ≤ 1000000000) :
    CallS Tryd.prog 24 #[.slice p l.length c] E L (fun r E' L' => ∃ a c', r = .slice a l.length c' ∧ SlE E' 1 a l.length (strs l) ∧ l.length ≤ c' ∧ L' = L) := by
  refine CallS.intro (l := [.slice p l.length c]) _ Tryd.func24 rfl Tryd.ntmps24 rfl ?_
  refine G_seq (G_region ?_)
  refine Ga ?_
  refine G_end (X_then (G_seq (G_region ?_)))
  (refine G_lit0z rfl rfl rfl (.none rfl) ?_; intro b3)
  refine Gm ?_
  refine G_append rfl rfl rfl (SlE.rd hl) (strs_one l) (by omega) (by omega) rfl rfl (.none rfl) (fun _ _ => .head _ _ _) ?_
  intro a5 c5
  refine G.freezeSl (.head _ _) ?_
  intro E1 hE1 hal hc
  simp only [Nat.zero_add, List.nil_append] at hal hc ⊢
  refine Ga ?_
  refine G_end (X_then (G_ret ?_))
  refine G_leaveS (.nil _) (by exact (.cons (.tmp rfl) (.nil))) rfl ?_ ?_
  · exact hE1
  exact ⟨_, ⟨_, ⟨rfl, ⟨(by assumption), ⟨(by assumption), rfl⟩⟩⟩⟩⟩
theorem OwnGrammar_call (gv : Value) (g : Gr) (hg : GrE E gv g) (hl : Light g) : CallS Tryd.prog 7 #[gv] E L (fun r E' L' => GrE E' r g ∧ L' = L) := by
  obtain ⟨tp, tc, np, nc, pp, pc, rfl, ht, hn, ⟨rows, hrows, hps, hre⟩, k1, k2, k3⟩ := hg
  have hlen : g.prods.length = rows.length := by rw [← hrows]; simp
  have q1 := hl.t; have q2 := hl.n; have q3 := hl.p
  refine CallS.intro (l := [_]) _ Tryd.func7 rfl Tryd.ntmps7 rfl ?_
  refine G_seq (G_region ?_)
  (refine G_boxA rfl rfl rfl rfl (.none rfl) ?_; intro b1)
  (refine G_alloc rfl rfl rfl (.none rfl) ?_; intro b2)
  refine G_end (X_then (G_seq (G_region ?_)))
  refine Gv (V_fieldAddr rfl rfl (by decide)) ?_
  refine Gv (V_load rfl rfl (Cell.own (.tail _ (.head _)) rfl)) ?_
  refine G_call (k := 24) (.mk rfl rfl rfl rfl) rfl rfl (.none rfl) (OwnTexts_call' _ _ _ _ _ (by assumption) (by omega)) ?_
  rintro r1 E2 L3 hE4 ⟨z5, ⟨z6, ⟨rfl, ⟨Z7, ⟨Z8, rfl⟩⟩⟩⟩⟩
  replace ht := ht.mono hE4
  replace hn := hn.mono hE4
  replace hps := hps.mono hE4
  replace hre := hre.mono hE4
  refine Gv (V_fieldAddr rfl rfl (by decide)) ?_
  refine G_storeAt rfl rfl rfl rfl rfl rfl (.none rfl) (.tail _ (.head _ _ _)) (Nat.le_of_ble_eq_true rfl) (by simp only [putAll, Nat.zero_add, Nat.reduceAdd, List.setIfInBounds_toArray, List.set_cons_succ, List.set_cons_zero]; rfl) ?_
  refine G_end (X_then (G_seq (G_region ?_)))
  refine Gv (V_fieldAddr rfl rfl (by decide)) ?_
  refine Gv (V_load rfl rfl (Cell.own (.tail _ (.head _)) rfl)) ?_
  refine G_call (k := 24) (.mk rfl rfl rfl rfl) rfl rfl (.none rfl) (OwnTexts_call' _ _ _ _ _ (by assumption) (by omega)) ?_
  rintro r9 E10 L11 hE12 ⟨z13, ⟨z14, ⟨rfl, ⟨Z15, ⟨Z16, rfl⟩⟩⟩⟩⟩
  replace Z7 := Z7.mono hE12
  replace ht := ht.mono hE12
  replace hn := hn.mono hE12
  replace hps := hps.mono hE12
  replace hre := hre.mono hE12
  refine Gv (V_fieldAddr rfl rfl (by decide)) ?_
  refine G_storeAt rfl rfl rfl rfl rfl rfl (.none rfl) (.tail _ (.head _ _ _)) (Nat.le_of_ble_eq_true rfl) (by simp only [putAll, Nat.zero_add, Nat.reduceAdd, List.setIfInBounds_toArray, List.set_cons_succ, List.set_cons_zero]; rfl) ?_
  refine G_end (X_then (G_seq (G_region ?_)))
  refine Ga ?_
  refine G_end (X_then (G_seq (G_seq (G_region ?_))))
  refine Ga ?_
  refine G_end (X_then (G_block ?_))
  refine G.nilSl 43 2 ?_
  refine G_loop (α := Nat × Env × Option Addr × Nat × List Row) (fun x => [(1, .pointer (some ⟨b1, 0, none⟩)), (2, .pointer (some ⟨b2, 0, none⟩)), (3, .slice x.2.2.1 x.1 x.2.2.2.1), (4, .int .i64 x.1)]) (fun x => x.2.1)
    (fun x => .sl 43 2 x.2.2.1 x.1 x.2.2.2.1 (prows x.2.2.2.2) :: .blk b2 (.cells #[.int .i64 0, .slice none 0 0, .string ⟨#[]⟩, .slice none 0 0, .int .i64 0, .slice none 0 0] 25 (0, 0)) :: .blk b1 (.cells #[.int .i64 g.k, .slice z5 g.toks.length z6, .string (S g.sep), .slice z13 g.names.length z14, .int .i64 g.start, .slice pp g.prods.length pc] 25 (0, 0)) :: L)
    (fun x => E10.Le x.2.1 ∧ x.1 ≤ rows.length ∧ x.2.2.2.2.map (·.2.2) = (rows.take x.1).map (·.2.2) ∧ RowsE x.2.1 x.2.2.2.2) (fun x => rows.length - x.1) (0, E10, none, 0, [])
    ⟨.refl _, Nat.zero_le _, rfl, fun r hr => (by cases hr)⟩ ⟨rfl, rfl, rfl, rfl, trivial⟩ rfl rfl ?_
  rintro ⟨i, E, a, ca, rs⟩ ⟨hE, hi, hrs, hrE⟩
  simp only at hE hi hrs hrE ⊢
  replace hps := hps.mono hE
  replace hre := hre.mono hE
  have hrl : rs.length = i := by have := congrArg List.length hrs; simp at this; omega
  by_cases hlt : i < rows.length
  · have hg1 := List.getElem?_eq_getElem hlt
    have hyl := prows_left hg1
    have hyr := prows_right hg1
    have hre1 := hre.get hg1
    have hp : rows[i].2.2 ∈ g.prods := by rw [← hrows]; exact List.mem_map.2 ⟨rows[i], List.getElem_mem hlt, rfl⟩
    have h8 := hl.ps _ hp
    have htk : (rows.take (i + 1)).map (·.2.2) = (rows.take i).map (·.2.2) ++ [rows[i].2.2] := by rw [List.take_succ_eq_append_getElem hlt, List.map_append]; rfl
    have hrl2 := prows_len rs
    refine G_seq (G_seq (G_region ?_))
    refine Gm ?_
    refine Gv (V_fieldAddr rfl rfl (by decide)) ?_
    refine Gv (V_load rfl rfl (Cell.own (.tail _ (.tail _ (.head _))) rfl)) ?_
    refine Gv (V_lenS rfl rfl) ?_
    refine Gv (V_lss rfl rfl rfl) ?_
    refine G_end (X_then ?_)
    refine G_cond_t rfl (decide_eq_true (by omega)) ?_
    refine G_skip (X_then (G_seq (G_block ?_)))
    refine G_drawX 16 [(0, 0), (1, 0), (2, 1), (3, 0), (4, 1), (5, 0), (6, 1), (7, 0), (8, 1), (9, 0), (10, 1), (11, 0), (12, 1), (13, 3), (14, 0), (15, 2)] mixed (by kernel_rfl) ?_
    refine F_pure rfl (fun _ _ => V_move rfl rfl) rfl rfl (.none rfl) ?_
    refine F_pure rfl (fun _ _ => V_fieldAddr rfl rfl (by decide)) rfl rfl (.none rfl) ?_
    refine F_load rfl (.tail _ (.tail _ (.head _))) (V_load rfl rfl (Cell.own (.head _) rfl)) rfl rfl (.none rfl) ?_
    refine F_pure rfl (fun _ _ => V_move rfl rfl) rfl rfl (.none rfl) ?_
    refine F_loadE rfl (V_idxAddr rfl rfl rfl (SlE.rd (by assumption)) (by omega) (by omega)) rfl rfl (.none rfl) ?_
    refine F_pure rfl (fun _ _ => V_fieldAddrX rfl rfl (by assumption) (by omega) (by decide)) rfl rfl (.none rfl) ?_
    refine F_loadE rfl (V_loadS rfl rfl (SlE.rd (by assumption)) hyl (by simp)) rfl rfl (.none rfl) ?_
    refine F_pure rfl (fun _ _ => V_fieldAddr rfl rfl (by decide)) rfl rfl (.none rfl) ?_
    refine F_load rfl (.tail _ (.tail _ (.head _))) (V_load rfl rfl (Cell.own (.head _) rfl)) rfl rfl (.none rfl) ?_
    refine F_pure rfl (fun _ _ => V_move rfl rfl) rfl rfl (.none rfl) ?_
    refine F_loadE rfl (V_idxAddr rfl rfl rfl (SlE.rd (by assumption)) (by omega) (by omega)) rfl rfl (.none rfl) ?_
    refine F_pure rfl (fun _ _ => V_fieldAddrX rfl rfl (by assumption) (by omega) (by decide)) rfl rfl (.none rfl) ?_
    refine F_loadE rfl (V_loadS rfl rfl (SlE.rd (by assumption)) (by assumption) (by simp)) rfl rfl (.none rfl) ?_
    apply F_call (k := 25) rfl (.mk rfl rfl rfl rfl) rfl rfl (.none rfl)
    · (intro L0; refine CallS.mono (OwnInts_call _ _ _ _ _ (by assumption) (by omega)) ?_; exact fun _ _ _ _ h => h)
    · (rintro L0 r E' L' ⟨z1, ⟨z2, ⟨rfl, ⟨Z3, ⟨Z4, rfl⟩⟩⟩⟩⟩; exact ⟨rfl, ⟨_, ⟨_, ⟨rfl, ⟨(by assumption), ⟨(by assumption), rfl⟩⟩⟩⟩⟩⟩)
    rintro r5 E6 hE7 ⟨z8, ⟨z9, ⟨rfl, ⟨Z10, ⟨Z11, _⟩⟩⟩⟩⟩
    replace hrE := hrE.mono hE7
    replace hps := hps.mono hE7
    replace hre := hre.mono hE7
    replace hre1 := hre1.mono hE7
    refine F_pure rfl (fun _ _ => V_build rfl rfl (by simp [fillV, setLs, setL, Value.cells]; rfl)) rfl rfl (.none rfl) ?_
    (refine F_litZ rfl rfl rfl (by decide) (by simp [fillS, zeros, setLs, setL, Value.cells, List.range, List.range.loop]; rfl) (by rfl) rfl rfl (.none rfl) ?_; intro b35 E35 hE35 hs35)
    replace Z10 := Z10.mono hE35
    replace hrE := hrE.mono hE35
    replace hps := hps.mono hE35
    replace hre := hre.mono hE35
    replace hre1 := hre1.mono hE35
    (refine F_end (.nil _) ?_; dsimp only [List.drop])
    (refine G_append rfl rfl rfl (SlE.rd (by assumption)) (by simp [Value.oneCell']) (by omega) (by omega) rfl rfl (.none rfl) (fun _ _ => (.head _ _ _)) ?_; intro a36 c36)
    refine Ga ?_
    refine G_end (X_block (X_then (G_region ?_)))
    refine Gm ?_
    refine Gv (V_add_i64 rfl rfl rfl (by omega) (by omega)) ?_
    refine Ga ?_
    refine G_end (X_then ?_)
    have hap := prows_append rs [(z8, z9, rows[i].2.2)]
    refine G_again (i + 1, E35, a36, c36, rs ++ [(z8, z9, rows[i].2.2)]) ⟨(hE.trans hE7).trans hE35, hlt, by rw [List.map_append, hrs, htk]; rfl, ?_⟩ (by simp only; omega) ⟨rfl, rfl, rfl, rfl, trivial⟩ rfl (by rw [hap]; rfl)
    intro r hr
    rcases List.mem_append.1 hr with h | h
    · exact hrE r h
    · rw [List.mem_singleton.1 h]; exact ⟨by assumption, by assumption⟩
  · refine G.freezeSl (.head _ _) ?_
    intro E1 hE1 hal hc
    have hi2 : i = rows.length := by omega
    have hfin : GrE E1 (.agg #[.int .i64 g.k, .slice z5 g.toks.length z6, .string (S g.sep), .slice z13 g.names.length z14, .int .i64 g.start, .slice a i ca]) g := by
      have := GrE.mk (E := E1) (g := g) (pp := a) (pc := ca) ((Z7.mono hE).mono hE1) ((Z15.mono hE).mono hE1) ⟨rs, by rw [hrs, hi2, List.take_length, hrows], by rw [hlen, ← hi2]; exact hal, hrE.mono hE1⟩ Z8 Z16 (by omega)
      rwa [hlen, ← hi2] at this
    refine G_seq (G_seq (G_region ?_))
    refine Gm ?_
    refine Gv (V_fieldAddr rfl rfl (by decide)) ?_
    refine Gv (V_load rfl rfl (Cell.own (.tail _ (.head _)) rfl)) ?_
    refine Gv (V_lenS rfl rfl) ?_
    refine Gv (V_lss rfl rfl rfl) ?_
    refine G_end (X_then ?_)
    refine G_cond_f rfl (decide_eq_false (by omega)) ?_
    refine G_exit (X_then_exit (X_then_exit (X_block_hit (X_then (G_seq (G_region ?_))))))
    refine Gm ?_
    refine Gv (V_fieldAddr rfl rfl (by decide)) ?_
    refine G_storeAt rfl rfl rfl rfl rfl rfl (.none rfl) (.tail _ (.head _ _ _)) (Nat.le_of_ble_eq_true rfl) (by simp only [putAll, Nat.zero_add, Nat.reduceAdd, List.setIfInBounds_toArray, List.set_cons_succ, List.set_cons_zero]; rfl) ?_
    refine G_end (X_then (G_seq (G_region ?_)))
    refine Gv (V_loadA rfl rfl (Cells.own (.tail _ (.head _))) rfl) ?_
    refine G_storeA rfl rfl rfl rfl (by simp [Value.oneCell']) rfl (.none rfl) (.head _ _ _) rfl ?_
    refine G_end (X_then (G_ret ?_))
    refine G_leaveS (.drop _ (.drop _ (.nil _))) (by exact (.cons (.cellA rfl (Cells.own (.head _)) rfl) (.nil))) rfl ?_ ?_
    · exact (((hE4.trans hE12).trans hE).trans hE1)
    exact ⟨(by assumption), rfl⟩
end
end Go.Proofs.YtaibabmladgldaaDoor
set_option linter.unusedSimpArgs false
set_option linter.unusedVariables false
set_option maxHeartbeats 2000000
set_option maxRecDepth 20000
namespace Go.Proofs.YtaibabmladgldaaDoor
open Go.RowKit
abbrev heavyB (g : Gr) : Bool := (decide ((10 : Int) < g.toks.length) || decide ((10 : Int) < g.names.length) || decide ((30 : Int) < g.prods.length) || decide ((40 : Int) < g.sep.length) || !g.toks.all fun s => decide ((s.length : Int) ≤ 40)) || !g.names.all fun s => decide ((s.length : Int) ≤ 40)
theorem heavy_iff {g : Gr} : heavyB g = false ↔ g.toks.length ≤ 10 ∧ g.names.length ≤ 10 ∧ g.prods.length ≤ 30 ∧ g.sep.length ≤ 40 ∧ (∀ s, s ∈ g.toks → s.length ≤ 40) ∧ ∀ s, s ∈ g.names → s.length ≤ 40 := by
  simp only [heavyB, Bool.or_eq_false_iff, decide_eq_false_iff_not, Bool.not_eq_false', List.all_eq_true, decide_eq_true_eq]
  constructor
  · rintro ⟨⟨⟨⟨⟨h1, h2⟩, h3⟩, h4⟩, h5⟩, h6⟩
    exact ⟨by omega, by omega, by omega, by omega, fun s hs => by have := h5 s hs; omega, fun s hs => by have := h6 s hs; omega⟩
  · rintro ⟨h1, h2, h3, h4, h5, h6⟩
    exact ⟨⟨⟨⟨⟨by omega, by omega⟩, by omega⟩, by omega⟩, fun s hs => by have := h5 s hs; omega⟩, fun s hs => by have := h6 s hs; omega⟩
section
variable (E : Env) (L : List Res)
theorem LightGrammar_call (gv : Value) (g : Gr) (hg : GrE E gv g) (h1 : g.toks.length ≤ 9223372036854775807) (h2 : g.names.length ≤ 9223372036854775807) (h3 : g.prods.length ≤ 9223372036854775807) (h4 : ∀ p, p ∈ g.prods → p.2.length ≤ 9223372036854775807) : CallV Tryd.prog 4 #[gv] E L (.bool (lightB g)) := by
  obtain ⟨tp, tc, np, nc, pp, pc, rfl, ht, hn, ⟨rows, hrows, hps, hre⟩, k1, k2, k3⟩ := hg
  have hlen : g.prods.length = rows.length := by rw [← hrows]; simp
  refine CallS.toV (CallS.intro (l := [_]) _ Tryd.func4 rfl Tryd.ntmps4 rfl ?_)
  cases hc : heavyB g with
  | true =>
    have hno : lightB g = false := by
      refine Bool.eq_false_iff.2 fun h => ?_
      have hl := lightB_iff.1 h
      rw [heavy_iff.2 ⟨hl.t, hl.n, hl.p, hl.sep, hl.ts, hl.ns⟩] at hc
      cases hc
    rw [hno]
    refine G_seq (G_region ?_)
    (refine G_boxA rfl rfl rfl rfl (.none rfl) ?_; intro b1)
    refine Ga ?_
    refine G_end (X_then (G_seq (G_seq (G_region ?_))))
    refine Gv (V_fieldAddr rfl rfl (by decide)) ?_
    refine Gv (V_load rfl rfl (Cell.own (.head _) rfl)) ?_
    refine Gv (V_lenS rfl rfl) ?_
    refine Gv (V_gtr rfl rfl rfl) ?_
    refine Gm ?_
    apply G_joinOr 5 8 13 rfl
    · intro H1
      dsimp only [List.take]
      simp only [Bool.and_eq_true, Bool.or_eq_true, Bool.not_eq_true', Bool.not_eq_false', Bool.and_eq_false_iff, Bool.or_eq_false_iff, Bool.not_not, decide_eq_true_eq, decide_eq_false_iff_not, ne_eq, Decidable.not_not, Bool.decide_eq_true] at H1
      refine Gn ?_
      refine Gn ?_
      refine Gn ?_
      refine Gn ?_
      refine Gv (V_pick_t rfl rfl rfl) ?_
      refine G_end ?_
      exact JQ_end 5 rfl rfl (by kernel_rfl)
    · intro H2
      dsimp only [List.take]
      simp only [Bool.and_eq_true, Bool.or_eq_true, Bool.not_eq_true', Bool.not_eq_false', Bool.and_eq_false_iff, Bool.or_eq_false_iff, Bool.not_not, decide_eq_true_eq, decide_eq_false_iff_not, ne_eq, Decidable.not_not, Bool.decide_eq_true] at H2
      refine Gy (V_fieldAddr rfl rfl (by decide)) ?_
      refine Gy (V_load rfl rfl (Cell.own (.head _) rfl)) ?_
      refine Gy (V_lenS rfl rfl) ?_
      refine Gy (V_gtr rfl rfl rfl) ?_
      refine Gv (V_pick_f rfl rfl rfl) ?_
      refine G_end ?_
      exact JQ_end 5 rfl rfl (by kernel_rfl)
    dsimp only [List.drop]
    refine Gm ?_
    apply G_joinOr 5 14 19 rfl
    · intro H3
      dsimp only [List.take]
      simp only [Bool.and_eq_true, Bool.or_eq_true, Bool.not_eq_true', Bool.not_eq_false', Bool.and_eq_false_iff, Bool.or_eq_false_iff, Bool.not_not, decide_eq_true_eq, decide_eq_false_iff_not, ne_eq, Decidable.not_not, Bool.decide_eq_true] at H3
      refine Gn ?_
      refine Gn ?_
      refine Gn ?_
      refine Gn ?_
      refine Gv (V_pick_t rfl rfl rfl) ?_
      refine G_end ?_
      exact JQ_end 5 rfl rfl (by kernel_rfl)
    · intro H4
      dsimp only [List.take]
      simp only [Bool.and_eq_true, Bool.or_eq_true, Bool.not_eq_true', Bool.not_eq_false', Bool.and_eq_false_iff, Bool.or_eq_false_iff, Bool.not_not, decide_eq_true_eq, decide_eq_false_iff_not, ne_eq, Decidable.not_not, Bool.decide_eq_true] at H4
      refine Gy (V_fieldAddr rfl rfl (by decide)) ?_
      refine Gy (V_load rfl rfl (Cell.own (.head _) rfl)) ?_
      refine Gy (V_lenS rfl rfl) ?_
      refine Gy (V_gtr rfl rfl rfl) ?_
      refine Gv (V_pick_f rfl rfl rfl) ?_
      refine G_end ?_
      exact JQ_end 5 rfl rfl (by kernel_rfl)
    dsimp only [List.drop]
    refine Gm ?_
    apply G_joinOr 5 20 25 rfl
    · intro H5
      dsimp only [List.take]
      simp only [Bool.and_eq_true, Bool.or_eq_true, Bool.not_eq_true', Bool.not_eq_false', Bool.and_eq_false_iff, Bool.or_eq_false_iff, Bool.not_not, decide_eq_true_eq, decide_eq_false_iff_not, ne_eq, Decidable.not_not, Bool.decide_eq_true] at H5
      refine Gn ?_
      refine Gn ?_
      refine Gn ?_
      refine Gn ?_
      refine Gv (V_pick_t rfl rfl rfl) ?_
      refine G_end ?_
      exact JQ_end 5 rfl rfl (by kernel_rfl)
    · intro H6
      dsimp only [List.take]
      simp only [Bool.and_eq_true, Bool.or_eq_true, Bool.not_eq_true', Bool.not_eq_false', Bool.and_eq_false_iff, Bool.or_eq_false_iff, Bool.not_not, decide_eq_true_eq, decide_eq_false_iff_not, ne_eq, Decidable.not_not, Bool.decide_eq_true] at H6
      refine Gy (V_fieldAddr rfl rfl (by decide)) ?_
      refine Gy (V_load rfl rfl (Cell.own (.head _) rfl)) ?_
      refine Gy (V_len rfl rfl) ?_
      refine Gy (V_gtr rfl rfl rfl) ?_
      refine Gv (V_pick_f rfl rfl rfl) ?_
      refine G_end ?_
      exact JQ_end 5 rfl rfl (by kernel_rfl)
    dsimp only [List.drop]
    refine Gm ?_
    apply G_joinOr 5 26 31 rfl
    · intro H7
      dsimp only [List.take]
      simp only [Bool.and_eq_true, Bool.or_eq_true, Bool.not_eq_true', Bool.not_eq_false', Bool.and_eq_false_iff, Bool.or_eq_false_iff, Bool.not_not, decide_eq_true_eq, decide_eq_false_iff_not, ne_eq, Decidable.not_not, Bool.decide_eq_true] at H7
      refine Gn ?_
      refine Gn ?_
      refine Gn ?_
      refine Gn ?_
      refine Gv (V_pick_t rfl rfl rfl) ?_
      refine G_end ?_
      exact JQ_end 5 rfl rfl (by kernel_rfl)
    · intro H8
      dsimp only [List.take]
      simp only [Bool.and_eq_true, Bool.or_eq_true, Bool.not_eq_true', Bool.not_eq_false', Bool.and_eq_false_iff, Bool.or_eq_false_iff, Bool.not_not, decide_eq_true_eq, decide_eq_false_iff_not, ne_eq, Decidable.not_not, Bool.decide_eq_true] at H8
      refine Gy (V_fieldAddr rfl rfl (by decide)) ?_
      refine Gy (V_load rfl rfl (Cell.own (.head _) rfl)) ?_
      refine G_callv (k := 18) (.mk rfl rfl rfl rfl) rfl rfl (.yes rfl rfl rfl rfl) (Short_call _ _ _ _ _ (by assumption) (by assumption) _) ?_
      refine Gy (V_not rfl rfl) ?_
      refine Gv (V_pick_f rfl rfl rfl) ?_
      refine G_end ?_
      exact JQ_end 5 rfl rfl (by kernel_rfl)
    dsimp only [List.drop]
    refine Gm ?_
    apply G_joinOr 5 32 37 rfl
    · intro H9
      dsimp only [List.take]
      simp only [Bool.and_eq_true, Bool.or_eq_true, Bool.not_eq_true', Bool.not_eq_false', Bool.and_eq_false_iff, Bool.or_eq_false_iff, Bool.not_not, decide_eq_true_eq, decide_eq_false_iff_not, ne_eq, Decidable.not_not, Bool.decide_eq_true] at H9
      refine Gn ?_
      refine Gn ?_
      refine Gn ?_
      refine Gn ?_
      refine Gv (V_pick_t rfl rfl rfl) ?_
      refine G_end ?_
      exact JQ_end 5 rfl rfl (by kernel_rfl)
    · intro H10
      dsimp only [List.take]
      simp only [Bool.and_eq_true, Bool.or_eq_true, Bool.not_eq_true', Bool.not_eq_false', Bool.and_eq_false_iff, Bool.or_eq_false_iff, Bool.not_not, decide_eq_true_eq, decide_eq_false_iff_not, ne_eq, Decidable.not_not, Bool.decide_eq_true] at H10
      refine Gy (V_fieldAddr rfl rfl (by decide)) ?_
      refine Gy (V_load rfl rfl (Cell.own (.head _) rfl)) ?_
      refine G_callv (k := 18) (.mk rfl rfl rfl rfl) rfl rfl (.yes rfl rfl rfl rfl) (Short_call _ _ _ _ _ (by assumption) (by assumption) _) ?_
      refine Gy (V_not rfl rfl) ?_
      refine Gv (V_pick_f rfl rfl rfl) ?_
      refine G_end ?_
      exact JQ_end 5 rfl rfl (by kernel_rfl)
    dsimp only [List.drop]
    refine G_end (X_then ?_)
    refine G_cond_t rfl (by assumption) ?_
    refine G_seq (G_region ?_)
    refine Ga ?_
    refine G_end (X_then (G_ret (X_then_ret ?_)))
    refine G_leaveS (.drop _ (.nil _)) (by exact (.cons (.tmp rfl) (.nil))) rfl ?_ ?_
    · exact (.refl _)
    exact ⟨(by kernel_rfl), rfl⟩
  | false =>
    refine G_seq (G_region ?_)
    (refine G_boxA rfl rfl rfl rfl (.none rfl) ?_; intro b1)
    refine Ga ?_
    refine G_end (X_then (G_seq (G_seq (G_region ?_))))
    refine Gv (V_fieldAddr rfl rfl (by decide)) ?_
    refine Gv (V_load rfl rfl (Cell.own (.head _) rfl)) ?_
    refine Gv (V_lenS rfl rfl) ?_
    refine Gv (V_gtr rfl rfl rfl) ?_
    refine Gm ?_
    apply G_joinOr 5 8 13 rfl
    · intro H1
      dsimp only [List.take]
      simp only [Bool.and_eq_true, Bool.or_eq_true, Bool.not_eq_true', Bool.not_eq_false', Bool.and_eq_false_iff, Bool.or_eq_false_iff, Bool.not_not, decide_eq_true_eq, decide_eq_false_iff_not, ne_eq, Decidable.not_not, Bool.decide_eq_true] at H1
      refine Gn ?_
      refine Gn ?_
      refine Gn ?_
      refine Gn ?_
      refine Gv (V_pick_t rfl rfl rfl) ?_
      refine G_end ?_
      exact JQ_end 5 rfl rfl (by kernel_rfl)
    · intro H2
      dsimp only [List.take]
      simp only [Bool.and_eq_true, Bool.or_eq_true, Bool.not_eq_true', Bool.not_eq_false', Bool.and_eq_false_iff, Bool.or_eq_false_iff, Bool.not_not, decide_eq_true_eq, decide_eq_false_iff_not, ne_eq, Decidable.not_not, Bool.decide_eq_true] at H2
      refine Gy (V_fieldAddr rfl rfl (by decide)) ?_
      refine Gy (V_load rfl rfl (Cell.own (.head _) rfl)) ?_
      refine Gy (V_lenS rfl rfl) ?_
      refine Gy (V_gtr rfl rfl rfl) ?_
      refine Gv (V_pick_f rfl rfl rfl) ?_
      refine G_end ?_
      exact JQ_end 5 rfl rfl (by kernel_rfl)
    dsimp only [List.drop]
    refine Gm ?_
    apply G_joinOr 5 14 19 rfl
    · intro H3
      dsimp only [List.take]
      simp only [Bool.and_eq_true, Bool.or_eq_true, Bool.not_eq_true', Bool.not_eq_false', Bool.and_eq_false_iff, Bool.or_eq_false_iff, Bool.not_not, decide_eq_true_eq, decide_eq_false_iff_not, ne_eq, Decidable.not_not, Bool.decide_eq_true] at H3
      refine Gn ?_
      refine Gn ?_
      refine Gn ?_
      refine Gn ?_
      refine Gv (V_pick_t rfl rfl rfl) ?_
      refine G_end ?_
      exact JQ_end 5 rfl rfl (by kernel_rfl)
    · intro H4
      dsimp only [List.take]
      simp only [Bool.and_eq_true, Bool.or_eq_true, Bool.not_eq_true', Bool.not_eq_false', Bool.and_eq_false_iff, Bool.or_eq_false_iff, Bool.not_not, decide_eq_true_eq, decide_eq_false_iff_not, ne_eq, Decidable.not_not, Bool.decide_eq_true] at H4
      refine Gy (V_fieldAddr rfl rfl (by decide)) ?_
      refine Gy (V_load rfl rfl (Cell.own (.head _) rfl)) ?_
      refine Gy (V_lenS rfl rfl) ?_
      refine Gy (V_gtr rfl rfl rfl) ?_
      refine Gv (V_pick_f rfl rfl rfl) ?_
      refine G_end ?_
      exact JQ_end 5 rfl rfl (by kernel_rfl)
    dsimp only [List.drop]
    refine Gm ?_
    apply G_joinOr 5 20 25 rfl
    · intro H5
      dsimp only [List.take]
      simp only [Bool.and_eq_true, Bool.or_eq_true, Bool.not_eq_true', Bool.not_eq_false', Bool.and_eq_false_iff, Bool.or_eq_false_iff, Bool.not_not, decide_eq_true_eq, decide_eq_false_iff_not, ne_eq, Decidable.not_not, Bool.decide_eq_true] at H5
      refine Gn ?_
      refine Gn ?_
      refine Gn ?_
      refine Gn ?_
      refine Gv (V_pick_t rfl rfl rfl) ?_
      refine G_end ?_
      exact JQ_end 5 rfl rfl (by kernel_rfl)
    · intro H6
      dsimp only [List.take]
      simp only [Bool.and_eq_true, Bool.or_eq_true, Bool.not_eq_true', Bool.not_eq_false', Bool.and_eq_false_iff, Bool.or_eq_false_iff, Bool.not_not, decide_eq_true_eq, decide_eq_false_iff_not, ne_eq, Decidable.not_not, Bool.decide_eq_true] at H6
      refine Gy (V_fieldAddr rfl rfl (by decide)) ?_
      refine Gy (V_load rfl rfl (Cell.own (.head _) rfl)) ?_
      refine Gy (V_len rfl rfl) ?_
      refine Gy (V_gtr rfl rfl rfl) ?_
      refine Gv (V_pick_f rfl rfl rfl) ?_
      refine G_end ?_
      exact JQ_end 5 rfl rfl (by kernel_rfl)
    dsimp only [List.drop]
    refine Gm ?_
    apply G_joinOr 5 26 31 rfl
    · intro H7
      dsimp only [List.take]
      simp only [Bool.and_eq_true, Bool.or_eq_true, Bool.not_eq_true', Bool.not_eq_false', Bool.and_eq_false_iff, Bool.or_eq_false_iff, Bool.not_not, decide_eq_true_eq, decide_eq_false_iff_not, ne_eq, Decidable.not_not, Bool.decide_eq_true] at H7
      refine Gn ?_
      refine Gn ?_
      refine Gn ?_
      refine Gn ?_
      refine Gv (V_pick_t rfl rfl rfl) ?_
      refine G_end ?_
      exact JQ_end 5 rfl rfl (by kernel_rfl)
    · intro H8
      dsimp only [List.take]
      simp only [Bool.and_eq_true, Bool.or_eq_true, Bool.not_eq_true', Bool.not_eq_false', Bool.and_eq_false_iff, Bool.or_eq_false_iff, Bool.not_not, decide_eq_true_eq, decide_eq_false_iff_not, ne_eq, Decidable.not_not, Bool.decide_eq_true] at H8
      refine Gy (V_fieldAddr rfl rfl (by decide)) ?_
      refine Gy (V_load rfl rfl (Cell.own (.head _) rfl)) ?_
      refine G_callv (k := 18) (.mk rfl rfl rfl rfl) rfl rfl (.yes rfl rfl rfl rfl) (Short_call _ _ _ _ _ (by assumption) (by assumption) _) ?_
      refine Gy (V_not rfl rfl) ?_
      refine Gv (V_pick_f rfl rfl rfl) ?_
      refine G_end ?_
      exact JQ_end 5 rfl rfl (by kernel_rfl)
    dsimp only [List.drop]
    refine Gm ?_
    apply G_joinOr 5 32 37 rfl
    · intro H9
      dsimp only [List.take]
      simp only [Bool.and_eq_true, Bool.or_eq_true, Bool.not_eq_true', Bool.not_eq_false', Bool.and_eq_false_iff, Bool.or_eq_false_iff, Bool.not_not, decide_eq_true_eq, decide_eq_false_iff_not, ne_eq, Decidable.not_not, Bool.decide_eq_true] at H9
      refine Gn ?_
      refine Gn ?_
      refine Gn ?_
      refine Gn ?_
      refine Gv (V_pick_t rfl rfl rfl) ?_
      refine G_end ?_
      exact JQ_end 5 rfl rfl (by kernel_rfl)
    · intro H10
      dsimp only [List.take]
      simp only [Bool.and_eq_true, Bool.or_eq_true, Bool.not_eq_true', Bool.not_eq_false', Bool.and_eq_false_iff, Bool.or_eq_false_iff, Bool.not_not, decide_eq_true_eq, decide_eq_false_iff_not, ne_eq, Decidable.not_not, Bool.decide_eq_true] at H10
      refine Gy (V_fieldAddr rfl rfl (by decide)) ?_
      refine Gy (V_load rfl rfl (Cell.own (.head _) rfl)) ?_
      refine G_callv (k := 18) (.mk rfl rfl rfl rfl) rfl rfl (.yes rfl rfl rfl rfl) (Short_call _ _ _ _ _ (by assumption) (by assumption) _) ?_
      refine Gy (V_not rfl rfl) ?_
      refine Gv (V_pick_f rfl rfl rfl) ?_
      refine G_end ?_
      exact JQ_end 5 rfl rfl (by kernel_rfl)
    dsimp only [List.drop]
    refine G_end (X_then ?_)
    refine G_cond_f rfl (by assumption) ?_
    refine G_skip (X_then (G_seq (G_seq (G_region ?_))))
    refine Ga ?_
    refine G_end (X_then (G_block ?_))
    have hh := heavy_iff.1 hc
    refine G_loop (α := Nat) (fun i => [(1, .pointer (some ⟨b1, 0, none⟩)), (3, .int .i64 i)]) (fun _ => E) (fun _ => .blk b1 (.cells #[.int .i64 g.k, .slice tp g.toks.length tc, .string (S g.sep), .slice np g.names.length nc, .int .i64 g.start, .slice pp g.prods.length pc] 25 (0, 0)) :: L)
      (fun i => i ≤ rows.length ∧ ∀ k, k < i → (hk : k < rows.length) → rows[k].2.2.2.length ≤ 8) (fun i => rows.length - i) 0 ⟨Nat.zero_le _, fun k hk => by cases hk⟩ ⟨rfl, rfl, trivial⟩ rfl rfl ?_
    rintro i ⟨hi, hall⟩
    by_cases hlt : i < rows.length
    · have hg1 := List.getElem?_eq_getElem hlt
      have hyr := prows_right hg1
      have hp : rows[i].2.2 ∈ g.prods := by rw [← hrows]; exact List.mem_map.2 ⟨rows[i], List.getElem_mem hlt, rfl⟩
      have h5 := h4 _ hp
      by_cases h8 : rows[i].2.2.2.length ≤ 8
      · refine G_seq ?_
        refine G_seq (G_region ?_)
        refine Gm ?_
        refine Gv (V_fieldAddr rfl rfl (by decide)) ?_
        refine Gv (V_load rfl rfl (Cell.own (.head _) rfl)) ?_
        refine Gv (V_lenS rfl rfl) ?_
        refine Gv (V_lss rfl rfl rfl) ?_
        refine G_end (X_then ?_)
        refine G_cond_t rfl (decide_eq_true (by omega)) ?_
        refine G_skip (X_then (G_seq (G_block (G_seq (G_region ?_)))))
        refine Gv (V_fieldAddr rfl rfl (by decide)) ?_
        refine Gv (V_load rfl rfl (Cell.own (.head _) rfl)) ?_
        refine Gm ?_
        refine Gv (V_idxAddr rfl rfl rfl (SlE.rd (by assumption)) (by omega) (by omega)) ?_
        refine Gv (V_fieldAddrE rfl rfl (by assumption) (by omega) (by decide)) ?_
        refine Gv (V_loadS rfl rfl (SlE.rd (by assumption)) (by assumption) (by simp)) ?_
        refine Gv (V_lenS rfl rfl) ?_
        refine Gv (V_gtr rfl rfl rfl) ?_
        refine G_end (X_then ?_)
        refine G_cond_f rfl (decide_eq_false (by omega)) ?_
        refine G_skip (X_block (X_then (G_region ?_)))
        refine Gm ?_
        refine Gv (V_add_i64 rfl rfl rfl (by omega) (by omega)) ?_
        refine Ga ?_
        refine G_end (X_then ?_)
        refine G_again (i + 1) ⟨hlt, ?_⟩ (by omega) ⟨rfl, rfl, trivial⟩ rfl rfl
        intro k hk hk2
        by_cases he : k = i
        · subst he; exact h8
        · exact hall k (by omega) hk2
      · have hno : lightB g = false := by
          refine Bool.eq_false_iff.2 fun h => ?_
          exact h8 ((lightB_iff.1 h).ps _ hp)
        rw [hno]
        refine G_seq (G_seq (G_region ?_))
        refine Gm ?_
        refine Gv (V_fieldAddr rfl rfl (by decide)) ?_
        refine Gv (V_load rfl rfl (Cell.own (.head _) rfl)) ?_
        refine Gv (V_lenS rfl rfl) ?_
        refine Gv (V_lss rfl rfl rfl) ?_
        refine G_end (X_then ?_)
        refine G_cond_t rfl (decide_eq_true (by omega)) ?_
        refine G_skip (X_then (G_seq (G_block (G_seq (G_region ?_)))))
        refine Gv (V_fieldAddr rfl rfl (by decide)) ?_
        refine Gv (V_load rfl rfl (Cell.own (.head _) rfl)) ?_
        refine Gm ?_
        refine Gv (V_idxAddr rfl rfl rfl (SlE.rd (by assumption)) (by omega) (by omega)) ?_
        refine Gv (V_fieldAddrE rfl rfl (by assumption) (by omega) (by decide)) ?_
        refine Gv (V_loadS rfl rfl (SlE.rd (by assumption)) (by assumption) (by simp)) ?_
        refine Gv (V_lenS rfl rfl) ?_
        refine Gv (V_gtr rfl rfl rfl) ?_
        refine G_end (X_then ?_)
        refine G_cond_t rfl (decide_eq_true (by omega)) ?_
        refine G_seq (G_region ?_)
        refine Ga ?_
        refine G_end (X_then (G_ret (X_block_ret (X_then_ret (X_then_ret (X_block_ret (X_then_ret ?_)))))))
        refine G_leaveS (.drop _ (.nil _)) (by exact (.cons (.tmp rfl) (.nil))) rfl ?_ ?_
        · exact (.refl _)
        exact ⟨(by kernel_rfl), rfl⟩
    · have hyes : lightB g = true := lightB_iff.2 ⟨hh.1, hh.2.1, hh.2.2.1, hh.2.2.2.1, hh.2.2.2.2.1, hh.2.2.2.2.2, fun p hp => by
        rw [← hrows] at hp
        obtain ⟨x, hx, rfl⟩ := List.mem_map.1 hp
        obtain ⟨k, hk, rfl⟩ := List.getElem_of_mem hx
        exact hall k (by omega) hk⟩
      rw [hyes]
      refine G_seq (G_seq (G_region ?_))
      refine Gm ?_
      refine Gv (V_fieldAddr rfl rfl (by decide)) ?_
      refine Gv (V_load rfl rfl (Cell.own (.head _) rfl)) ?_
      refine Gv (V_lenS rfl rfl) ?_
      refine Gv (V_lss rfl rfl rfl) ?_
      refine G_end (X_then ?_)
      refine G_cond_f rfl (decide_eq_false (by omega)) ?_
      refine G_exit (X_then_exit (X_then_exit (X_block_hit (X_then (G_seq (G_region ?_))))))
      refine Ga ?_
      refine G_end (X_then (G_ret ?_))
      refine G_leaveS (.drop _ (.nil _)) (by exact (.cons (.tmp rfl) (.nil))) rfl ?_ ?_
      · exact (.refl _)
      exact ⟨(by kernel_rfl), rfl⟩
end
end Go.Proofs.YtaibabmladgldaaDoor
namespace Go.Proofs.YtaibabmladgldaaDoor

/-! Least costs, in plain Lean. -/
abbrev Tab := List (Option Nat)
def tget (f : Tab) (s : Int) : Option Nat := (f[(s - 16).toNat]?).getD none
def symc (t : Option Nat) (f : Tab) (s : Int) : Option Nat := if s < 16 then t else tget f s
def addO : Option Nat → Option Nat → Option Nat
  | some a, some b => some (a + b)
  | _, _ => none
theorem addO_zero (a : Option Nat) : addO a (some 0) = a := by cases a <;> rfl
theorem addO_some {a b : Option Nat} {c : Nat} (h : addO a b = some c) : ∃ x y, a = some x ∧ b = some y ∧ c = x + y := by
  cases a with
  | none => cases h
  | some x => cases b with
    | none => cases h
    | some y => exact ⟨x, y, rfl, rfl, (Option.some.inj h).symm⟩
def cost (t : Option Nat) (f : Tab) : List Int → Option Nat
  | [] => some 0
  | s :: r => addO (symc t f s) (cost t f r)
/-- What a string of symbols may cost. -/
inductive D (ps : List Pr) (t : Option Nat) (own : Nat) : List Int → Nat → Prop
  | nil : D ps t own [] 0
  | term {s : Int} {r : List Int} {k c : Nat} : s < 16 → t = some k → D ps t own r c → D ps t own (s :: r) (k + c)
  | non {p : Pr} {r : List Int} {a b : Nat} : p ∈ ps → 16 ≤ p.1 → D ps t own p.2 a → D ps t own r b → D ps t own (p.1 :: r) (own + a + b)
def Stable (ps : List Pr) (t : Option Nat) (own : Nat) (f : Tab) : Prop := ∀ p, p ∈ ps → ∀ c, cost t f p.2 = some c → ∃ c', tget f p.1 = some c' ∧ c' ≤ own + c
def Sound (ps : List Pr) (t : Option Nat) (own : Nat) (f : Tab) : Prop := ∀ s c, 16 ≤ s → tget f s = some c → D ps t own [s] c
section
variable {ps : List Pr} {t : Option Nat} {own : Nat} {f : Tab}
theorem D.cons {s : Int} {a : Nat} {r : List Int} {b : Nat} (h : D ps t own [s] a) (hr : D ps t own r b) : D ps t own (s :: r) (a + b) := by
  generalize hl : [s] = l at h
  cases h with
  | nil => cases hl
  | term h1 h2 h3 =>
    obtain ⟨rfl, rfl⟩ := List.cons.inj hl
    cases h3
    exact D.term h1 h2 hr
  | non h1 h2 h3 h4 =>
    obtain ⟨rfl, rfl⟩ := List.cons.inj hl
    cases h4
    exact D.non h1 h2 h3 hr
theorem D.one {p : Pr} {a : Nat} (h1 : p ∈ ps) (h2 : 16 ≤ p.1) (h3 : D ps t own p.2 a) : D ps t own [p.1] (own + a) := D.non h1 h2 h3 .nil
theorem Stable.le (hs : Stable ps t own f) {r : List Int} {c : Nat} (h : D ps t own r c) : ∃ c', cost t f r = some c' ∧ c' ≤ c := by
  induction h with
  | nil => exact ⟨0, rfl, Nat.le_refl _⟩
  | term h1 h2 _ ih =>
    obtain ⟨x, hx, hle⟩ := ih
    refine ⟨_, ?_, Nat.add_le_add_left hle _⟩
    rw [cost, hx, symc, if_pos h1, h2]; rfl
  | non h1 h2 _ _ ih1 ih2 =>
    obtain ⟨x, hx, hle⟩ := ih1
    obtain ⟨y, hy, hle2⟩ := ih2
    obtain ⟨z, hz, hle3⟩ := hs _ h1 _ hx
    refine ⟨z + y, ?_, by omega⟩
    rw [cost, hy, symc, if_neg (by omega), hz]; rfl
theorem Sound.cost (hs : Sound ps t own f) {r : List Int} {c : Nat} (h : cost t f r = some c) : D ps t own r c := by
  induction r generalizing c with
  | nil => rw [Option.some.inj h.symm]; exact .nil
  | cons s r ih =>
    obtain ⟨x, y, hx, hy, rfl⟩ := addO_some h
    rw [symc] at hx
    by_cases hlt : s < 16
    · rw [if_pos hlt] at hx
      exact .term hlt hx (ih hy)
    · rw [if_neg hlt] at hx
      exact (hs s x (by omega) hx).cons (ih hy)
theorem tget_ext {f f' : Tab} (hl : f.length = f'.length) (h : ∀ s, 16 ≤ s → tget f s = tget f' s) : f = f' := by
  apply List.ext_getElem hl
  intro i h1 h2
  have := h (16 + i) (by omega)
  have e : ((16 : Int) + i - 16).toNat = i := by omega
  simpa [tget, e, h1, h2] using this
/-- The least costs of n nonterminals. -/
structure IsLeast (ps : List Pr) (n : Nat) (t : Option Nat) (own : Nat) (f : Tab) : Prop where
  len : f.length = n
  stable : Stable ps t own f
  sound : Sound ps t own f
theorem IsLeast.uniq {n : Nat} {f' : Tab} (h : IsLeast ps n t own f) (h' : IsLeast ps n t own f') : f = f' := by
  apply tget_ext (h.len.trans h'.len.symm)
  have key : ∀ {g g' : Tab}, IsLeast ps n t own g → IsLeast ps n t own g' → ∀ s, 16 ≤ s → ∀ c, tget g s = some c → ∃ c', tget g' s = some c' ∧ c' ≤ c := by
    intro g g' h h' s hs c hc
    obtain ⟨c', h1, h2⟩ := h'.stable.le (h.sound s c hs hc)
    have e : cost t g' [s] = tget g' s := by show addO (symc t g' s) (some 0) = _; rw [addO_zero, symc, if_neg (by omega)]
    rw [e] at h1
    exact ⟨c', h1, h2⟩
  intro s hs
  cases h1 : tget f s with
  | none =>
    cases h2 : tget f' s with
    | none => rfl
    | some c =>
      obtain ⟨c', h3, _⟩ := key h' h s hs c h2
      rw [h1] at h3; cases h3
  | some c =>
    obtain ⟨c', h3, h4⟩ := key h h' s hs c h1
    obtain ⟨c'', h5, h6⟩ := key h' h s hs c' h3
    rw [h1] at h5
    have := Option.some.inj h5
    rw [h3]
    congr 1
    omega
end
end Go.Proofs.YtaibabmladgldaaDoor
namespace Go.Proofs.YtaibabmladgldaaDoor

/-! Least costs exist, and are found step by step. -/
def wide (f : Tab) : Nat := f.countP Option.isSome
def mo : Option Nat → Nat
  | none => 1099511627777
  | some c => c
def meas (f : Tab) : Nat := (f.map mo).sum
def Bd (f : Tab) : Prop := ∀ s c, tget f s = some c → c ≤ 16 ^ wide f
structure Wf (ps : List Pr) (n : Nat) : Prop where
  nn : n ≤ 10
  left : ∀ p, p ∈ ps → 16 ≤ p.1 ∧ p.1 < 16 + n
  right : ∀ p, p ∈ ps → p.2.length ≤ 8
  syms : ∀ p, p ∈ ps → ∀ s, s ∈ p.2 → s < 16 + n
structure Small (t : Option Nat) (own : Nat) : Prop where
  t : ∀ k, t = some k → k ≤ 1
  own : own ≤ 1
structure Inv (ps : List Pr) (n : Nat) (t : Option Nat) (own : Nat) (f : Tab) : Prop where
  len : f.length = n
  sound : Sound ps t own f
  bd : Bd f
def better (t : Option Nat) (own : Nat) (f : Tab) (p : Pr) : Option Nat :=
  match cost t f p.2 with
  | none => none
  | some c => match tget f p.1 with
    | none => some (own + c)
    | some c' => if own + c < c' then some (own + c) else none
def upd (f : Tab) (p : Pr) (v : Nat) : Tab := f.set (p.1 - 16).toNat (some v)
theorem better_iff {t : Option Nat} {own : Nat} {f : Tab} {p : Pr} {v : Nat} : better t own f p = some v ↔ ∃ c, cost t f p.2 = some c ∧ v = own + c ∧ ∀ c', tget f p.1 = some c' → own + c < c' := by
  rw [better]
  cases h1 : cost t f p.2 with
  | none => simp
  | some c =>
    cases h2 : tget f p.1 with
    | none =>
      constructor
      · intro h; exact ⟨c, rfl, (Option.some.inj h).symm, fun c' h => by cases h⟩
      · rintro ⟨c', h, rfl, _⟩; rw [Option.some.inj h]
    | some c' =>
      show (if own + c < c' then some (own + c) else none) = some v ↔ _
      by_cases hlt : own + c < c'
      · rw [if_pos hlt]
        constructor
        · intro h; exact ⟨c, rfl, (Option.some.inj h).symm, fun c' h => by rw [Option.some.inj h.symm]; exact hlt⟩
        · rintro ⟨c', h, rfl, _⟩; rw [Option.some.inj h]
      · rw [if_neg hlt]
        constructor
        · intro h; cases h
        · rintro ⟨x, h, rfl, h3⟩
          have := h3 c' rfl
          rw [Option.some.inj h] at hlt
          exact absurd this hlt
theorem better_stable {t : Option Nat} {own : Nat} {f : Tab} {ps : List Pr} : Stable ps t own f ↔ ∀ p, p ∈ ps → better t own f p = none := by
  constructor
  · intro h p hp
    cases hb : better t own f p with
    | none => rfl
    | some v =>
      obtain ⟨c, h1, _, h3⟩ := better_iff.1 hb
      obtain ⟨c', h4, h5⟩ := h p hp c h1
      have := h3 c' h4
      omega
  · intro h p hp c hc
    cases h2 : tget f p.1 with
    | none =>
      have := h p hp
      simp [better, hc, h2] at this
    | some c' =>
      refine ⟨c', rfl, ?_⟩
      have := h p hp
      simp only [better, hc, h2] at this
      by_cases hlt : own + c < c'
      · rw [if_pos hlt] at this; cases this
      · omega
theorem tget_upd {f : Tab} {p : Pr} {v : Nat} {s : Int} (h : (p.1 - 16).toNat < f.length) : tget (upd f p v) s = if (p.1 - 16).toNat = (s - 16).toNat then some v else tget f s := by
  rw [tget, upd, List.getElem?_set]
  by_cases he : (p.1 - 16).toNat = (s - 16).toNat
  · rw [if_pos he, if_pos he, if_pos h]; rfl
  · rw [if_neg he, if_neg he]; rfl
theorem wide_upd {f : Tab} {p : Pr} {v : Nat} (h : (p.1 - 16).toNat < f.length) : wide (upd f p v) = wide f + (if tget f p.1 = none then 1 else 0) := by
  have key : ∀ (f : Tab) (k : Nat), k < f.length → (f.set k (some v)).countP Option.isSome = f.countP Option.isSome + (if (f[k]?).getD none = none then 1 else 0) := by
    intro f
    induction f with
    | nil => intro k h; cases h
    | cons x f ih =>
      intro k h
      cases k with
      | zero => cases x <;> simp
      | succ k =>
        have := ih k (Nat.lt_of_succ_lt_succ h)
        simp only [List.set_cons_succ, List.countP_cons, this, List.getElem?_cons_succ]
        omega
  exact key f _ h
theorem meas_upd {f : Tab} {p : Pr} {v : Nat} (h : (p.1 - 16).toNat < f.length) (hv : v < mo (tget f p.1)) : meas (upd f p v) < meas f := by
  have key : ∀ (f : Tab) (k : Nat), k < f.length → v < mo ((f[k]?).getD none) → ((f.set k (some v)).map mo).sum < (f.map mo).sum := by
    intro f
    induction f with
    | nil => intro k h; cases h
    | cons x f ih =>
      intro k h hv
      cases k with
      | zero =>
        simp only [List.getElem?_cons_zero, Option.getD_some] at hv
        simp only [List.set_cons_zero, List.map_cons, List.sum_cons]
        have e : mo (some v) = v := rfl
        omega
      | succ k =>
        have := ih k (Nat.lt_of_succ_lt_succ h) hv
        simp only [List.set_cons_succ, List.map_cons, List.sum_cons]
        omega
  exact key f _ h hv
theorem cost_le {t : Option Nat} {f : Tab} {B : Nat} (ht : ∀ k, t = some k → k ≤ B) (hf : ∀ s c, tget f s = some c → c ≤ B) : ∀ (l : List Int) (c : Nat), cost t f l = some c → c ≤ l.length * B := by
  intro l
  induction l with
  | nil => intro c h; rw [Option.some.inj h.symm]; exact Nat.zero_le _
  | cons s l ih =>
    intro c h
    obtain ⟨x, y, hx, hy, rfl⟩ := addO_some h
    have h1 := ih y hy
    have h2 : x ≤ B := by
      rw [symc] at hx
      by_cases hlt : s < 16
      · rw [if_pos hlt] at hx; exact ht x hx
      · rw [if_neg hlt] at hx; exact hf s x hx
    rw [List.length_cons, Nat.succ_mul]
    omega
theorem wide_le (f : Tab) : wide f ≤ f.length := List.countP_le_length
theorem Inv.le {ps : List Pr} {n : Nat} {t : Option Nat} {own : Nat} {f : Tab} (h : Inv ps n t own f) (hw : Wf ps n) {s : Int} {c : Nat} (hc : tget f s = some c) : c ≤ 1099511627776 := by
  have h1 := h.bd s c hc
  have h2 := wide_le f
  have h3 : wide f ≤ 10 := by have := h.len; have := hw.nn; omega
  have h4 : 16 ^ wide f ≤ 16 ^ 10 := Nat.pow_le_pow_right (by decide) h3
  have h5 : (16 : Nat) ^ 10 = 1099511627776 := by decide
  omega
theorem Inv.upd {ps : List Pr} {n : Nat} {t : Option Nat} {own : Nat} {f : Tab} (h : Inv ps n t own f) (hw : Wf ps n) (hs : Small t own) {p : Pr} (hp : p ∈ ps) {v : Nat} (hb : better t own f p = some v) :
    Inv ps n t own (upd f p v) ∧ meas (Proofs.YtaibabmladgldaaDoor.upd f p v) < meas f ∧ v ≤ 1099511627776 := by
  obtain ⟨c, hc, rfl, hlt⟩ := better_iff.1 hb
  have hl := hw.left p hp
  have hlen := h.len
  have hk : (p.1 - 16).toNat < f.length := by omega
  have hinv : Inv ps n t own (Proofs.YtaibabmladgldaaDoor.upd f p (own + c)) := by
    refine ⟨by simp [Proofs.YtaibabmladgldaaDoor.upd, h.len], ?_, ?_⟩
    · intro s x hs16 hx
      rw [tget_upd hk] at hx
      by_cases he : (p.1 - 16).toNat = (s - 16).toNat
      · rw [if_pos he] at hx
        have : s = p.1 := by omega
        subst this
        rw [← Option.some.inj hx]
        exact D.one hp hs16 (h.sound.cost hc)
      · rw [if_neg he] at hx
        exact h.sound s x hs16 hx
    · have hB : 1 ≤ 16 ^ wide f := Nat.pow_pos (by decide)
      have hcl : c ≤ p.2.length * 16 ^ wide f := cost_le (fun k hk => Nat.le_trans (hs.t k hk) hB) h.bd p.2 c hc
      have h8 : p.2.length * 16 ^ wide f ≤ 8 * 16 ^ wide f := Nat.mul_le_mul_right _ (hw.right p hp)
      have hown := hs.own
      intro s x hx
      rw [tget_upd hk] at hx
      rw [wide_upd hk]
      by_cases he : (p.1 - 16).toNat = (s - 16).toNat
      · rw [if_pos he] at hx
        have hx := Option.some.inj hx
        cases hn : tget f p.1 with
        | none =>
          rw [if_pos rfl, Nat.pow_succ]
          omega
        | some c' =>
          rw [if_neg (by simp)]
          have h1 := hlt c' hn
          have h2 := h.bd _ _ hn
          show x ≤ 16 ^ wide f
          omega
      · rw [if_neg he] at hx
        have h1 := h.bd s x hx
        have h2 : 16 ^ wide f ≤ 16 ^ (wide f + if tget f p.1 = none then 1 else 0) := Nat.pow_le_pow_right (by decide) (Nat.le_add_right _ _)
        omega
  have hv : own + c ≤ 1099511627776 := by
    refine hinv.le hw (s := p.1) ?_
    rw [tget_upd hk, if_pos rfl]
  refine ⟨hinv, meas_upd hk ?_, hv⟩
  cases hn : tget f p.1 with
  | none => show _ < 1099511627777; omega
  | some c' => exact hlt c' hn
/-- The first production that makes a cost less. -/
def step (t : Option Nat) (own : Nat) (f : Tab) : List Pr → Option Tab
  | [] => none
  | p :: ps => match better t own f p with
    | some v => some (upd f p v)
    | none => step t own f ps
theorem step_none {t : Option Nat} {own : Nat} {f : Tab} {ps : List Pr} (h : step t own f ps = none) : Stable ps t own f := by
  rw [better_stable]
  induction ps with
  | nil => intro p hp; cases hp
  | cons q ps ih =>
    intro p hp
    rw [step] at h
    cases hb : better t own f q with
    | some v => rw [hb] at h; cases h
    | none =>
      rw [hb] at h
      cases hp with
      | head => exact hb
      | tail _ hp => exact ih h p hp
theorem step_some {t : Option Nat} {own : Nat} {f f' : Tab} {ps : List Pr} (h : step t own f ps = some f') : ∃ p v, p ∈ ps ∧ better t own f p = some v ∧ f' = upd f p v := by
  induction ps with
  | nil => cases h
  | cons q ps ih =>
    rw [step] at h
    cases hb : better t own f q with
    | some v => rw [hb] at h; exact ⟨q, v, .head _, hb, (Option.some.inj h).symm⟩
    | none =>
      rw [hb] at h
      obtain ⟨p, v, h1, h2, h3⟩ := ih h
      exact ⟨p, v, .tail _ h1, h2, h3⟩
def lfp (t : Option Nat) (own : Nat) (ps : List Pr) : Nat → Tab → Tab
  | 0, f => f
  | k + 1, f => match step t own f ps with
    | none => f
    | some f' => lfp t own ps k f'
theorem lfp_least {ps : List Pr} {n : Nat} {t : Option Nat} {own : Nat} (hw : Wf ps n) (hs : Small t own) : ∀ (k : Nat) (f : Tab), meas f < k → Inv ps n t own f → IsLeast ps n t own (lfp t own ps k f) ∧ Inv ps n t own (lfp t own ps k f) := by
  intro k
  induction k with
  | zero => intro f h; cases h
  | succ k ih =>
    intro f hk h
    rw [lfp]
    cases hb : step t own f ps with
    | none => exact ⟨⟨h.len, step_none hb, h.sound⟩, h⟩
    | some f' =>
      obtain ⟨p, v, h1, h2, rfl⟩ := step_some hb
      obtain ⟨h3, h4, _⟩ := h.upd hw hs h1 h2
      exact ih _ (by omega) h3
def start (n : Nat) : Tab := List.replicate n none
theorem tget_start (n : Nat) (s : Int) : tget (start n) s = none := by
  rw [tget, start, List.getElem?_replicate]
  by_cases h : (s - 16).toNat < n
  · rw [if_pos h]; rfl
  · rw [if_neg h]; rfl
theorem inv_start (ps : List Pr) (n : Nat) (t : Option Nat) (own : Nat) : Inv ps n t own (start n) :=
  ⟨by simp [start], fun s c _ h => (by rw [tget_start] at h; cases h), fun s c h => (by rw [tget_start] at h; cases h)⟩
theorem meas_start (n : Nat) : meas (start n) = n * 1099511627777 := by
  simp [meas, start, mo]
def best (ps : List Pr) (n : Nat) (t : Option Nat) (own : Nat) : Tab := lfp t own ps 10995116277771 (start n)
theorem best_all {ps : List Pr} {n : Nat} {t : Option Nat} {own : Nat} (hw : Wf ps n) (hs : Small t own) : IsLeast ps n t own (best ps n t own) ∧ Inv ps n t own (best ps n t own) := by
  refine lfp_least hw hs _ _ ?_ (inv_start ps n t own)
  rw [meas_start]
  have := hw.nn
  omega
theorem best_least {ps : List Pr} {n : Nat} {t : Option Nat} {own : Nat} (hw : Wf ps n) (hs : Small t own) : IsLeast ps n t own (best ps n t own) := (best_all hw hs).1
theorem best_eq {ps : List Pr} {n : Nat} {t : Option Nat} {own : Nat} {f : Tab} (hw : Wf ps n) (hs : Small t own) (h : IsLeast ps n t own f) : f = best ps n t own := h.uniq (best_least hw hs)
example : best [(16, [0, 17]), (17, [1]), (17, []), (18, [18, 0])] 3 (some 1) 0 = [some 1, some 0, none] := by rfl
end Go.Proofs.YtaibabmladgldaaDoor
namespace Go.Proofs.YtaibabmladgldaaDoor

/-! What can be made at all: tables of booleans. -/
def tb (b : Bool) : Option Nat := if b = true then some 0 else none
def tab (l : List Bool) : Tab := l.map tb
def bget (l : List Bool) (s : Int) : Bool := (l[(s - 16).toNat]?).getD false
def goodB (terms : Bool) (l : List Bool) (s : Int) : Bool := if s < 16 then terms else bget l s
theorem tb_some (b : Bool) : (tb b).isSome = b := by cases b <;> rfl
theorem tab_some (l : List Bool) : (tab l).map Option.isSome = l := by
  induction l with
  | nil => rfl
  | cons b l ih =>
    have e : (tab (b :: l)).map Option.isSome = (tb b).isSome :: (tab l).map Option.isSome := rfl
    rw [e, ih, tb_some]
theorem tget_tab (l : List Bool) (s : Int) : tget (tab l) s = tb (bget l s) := by
  rw [tget, tab, List.getElem?_map, bget]
  cases l[(s - 16).toNat]? <;> rfl
theorem symc_tab (terms : Bool) (l : List Bool) (s : Int) : symc (tb terms) (tab l) s = tb (goodB terms l s) := by
  rw [symc, goodB]
  by_cases h : s < 16
  · rw [if_pos h, if_pos h]
  · rw [if_neg h, if_neg h, tget_tab]
theorem cost_tab (terms : Bool) (l : List Bool) (r : List Int) : cost (tb terms) (tab l) r = tb (r.all (goodB terms l)) := by
  induction r with
  | nil => rfl
  | cons s r ih =>
    rw [cost, ih, symc_tab, List.all_cons]
    cases goodB terms l s <;> cases r.all (goodB terms l) <;> rfl
theorem better_tab (terms : Bool) (l : List Bool) (p : Pr) : better (tb terms) 0 (tab l) p = tb (!bget l p.1 && p.2.all (goodB terms l)) := by
  rw [better, cost_tab, tget_tab]
  cases bget l p.1 <;> cases p.2.all (goodB terms l) <;> rfl
theorem upd_tab (l : List Bool) (p : Pr) : upd (tab l) p 0 = tab (l.set (p.1 - 16).toNat true) := by
  rw [upd, tab, tab, List.map_set]; rfl
theorem small_tb (b : Bool) (own : Nat) (h : own ≤ 1) : Small (tb b) own := ⟨fun k hk => by cases b <;> simp [tb] at hk; omega, h⟩
abbrev InvB (ps : List Pr) (n : Nat) (terms : Bool) (l : List Bool) : Prop := Inv ps n (tb terms) 0 (tab l)
def gen (ps : List Pr) (n : Nat) (terms : Bool) : List Bool := (best ps n (tb terms) 0).map Option.isSome
theorem InvB.upd {ps : List Pr} {n : Nat} {terms : Bool} {l : List Bool} (h : InvB ps n terms l) (hw : Wf ps n) {p : Pr} (hp : p ∈ ps) (h1 : bget l p.1 = false) (h2 : p.2.all (goodB terms l) = true) :
    InvB ps n terms (l.set (p.1 - 16).toNat true) ∧ meas (tab (l.set (p.1 - 16).toNat true)) < meas (tab l) := by
  have hb : better (tb terms) 0 (tab l) p = some 0 := by rw [better_tab, h1, h2]; rfl
  obtain ⟨h3, h4, _⟩ := Inv.upd h hw (small_tb terms 0 (by decide)) hp hb
  rw [upd_tab] at h3 h4
  exact ⟨h3, h4⟩
theorem InvB.done {ps : List Pr} {n : Nat} {terms : Bool} {l : List Bool} (h : InvB ps n terms l) (hw : Wf ps n) (hs : ∀ p, p ∈ ps → (!bget l p.1 && p.2.all (goodB terms l)) = false) : l = gen ps n terms := by
  have hst : Stable ps (tb terms) 0 (tab l) := better_stable.2 fun p hp => by rw [better_tab, hs p hp]; rfl
  rw [gen, ← best_eq hw (small_tb terms 0 (by decide)) ⟨h.len, hst, h.sound⟩, tab_some]
theorem D.any {ps : List Pr} {t t' : Option Nat} {own own' : Nat} (ht : t.isSome = true → t'.isSome = true) {r : List Int} {c : Nat} (h : D ps t own r c) : ∃ c', D ps t' own' r c' := by
  induction h with
  | nil => exact ⟨0, .nil⟩
  | term h1 h2 _ ih =>
    obtain ⟨c', h'⟩ := ih
    obtain ⟨k, hk⟩ := Option.isSome_iff_exists.1 (ht (by rw [h2]; rfl))
    exact ⟨_, .term h1 hk h'⟩
  | non h1 h2 _ _ ih1 ih2 =>
    obtain ⟨a, ha⟩ := ih1
    obtain ⟨b, hb⟩ := ih2
    exact ⟨_, .non h1 h2 ha hb⟩
/-! What is reached. -/
inductive Rch (ps : List Pr) (a : Int) : Int → Prop
  | refl : Rch ps a a
  | step {p : Pr} {s : Int} : Rch ps a p.1 → p ∈ ps → s ∈ p.2 → 16 ≤ s → Rch ps a s
def rrules (ps : List Pr) (a : Int) : List Pr := (a, []) :: ps.flatMap fun p => (p.2.filter fun s => decide (16 ≤ s)).map fun s => (s, [p.1])
theorem mem_rrules {ps : List Pr} {a : Int} {q : Pr} : q ∈ rrules ps a ↔ q = (a, []) ∨ ∃ p s, p ∈ ps ∧ s ∈ p.2 ∧ 16 ≤ s ∧ q = (s, [p.1]) := by
  rw [rrules, List.mem_cons, List.mem_flatMap]
  constructor
  · rintro (h | ⟨p, hp, h⟩)
    · exact .inl h
    · obtain ⟨s, hs, rfl⟩ := List.mem_map.1 h
      obtain ⟨h1, h2⟩ := List.mem_filter.1 hs
      exact .inr ⟨p, s, hp, h1, of_decide_eq_true h2, rfl⟩
  · rintro (h | ⟨p, s, h1, h2, h3, rfl⟩)
    · exact .inl h
    · exact .inr ⟨p, h1, List.mem_map.2 ⟨s, List.mem_filter.2 ⟨h2, decide_eq_true h3⟩, rfl⟩⟩
theorem wf_rrules {ps : List Pr} {n : Nat} {a : Int} (hw : Wf ps n) (h1 : 16 ≤ a) (h2 : a < 16 + n) : Wf (rrules ps a) n := by
  refine ⟨hw.nn, ?_, ?_, ?_⟩
  · intro q hq
    rcases mem_rrules.1 hq with rfl | ⟨p, s, hp, hs, h16, rfl⟩
    · exact ⟨h1, h2⟩
    · exact ⟨h16, hw.syms p hp s hs⟩
  · intro q hq
    rcases mem_rrules.1 hq with rfl | ⟨p, s, hp, hs, h16, rfl⟩
    · exact Nat.zero_le _
    · show 1 ≤ 8; decide
  · intro q hq x hx
    rcases mem_rrules.1 hq with rfl | ⟨p, s, hp, hs, h16, rfl⟩
    · cases hx
    · have := List.mem_singleton.1 hx
      subst this
      exact (hw.left p hp).2
def reachL (ps : List Pr) (n : Nat) (a : Int) : List Bool := gen (rrules ps a) n false
/-- A table that is being made: what is marked is reached. -/
abbrev InvR (ps : List Pr) (n : Nat) (a : Int) (l : List Bool) : Prop := InvB (rrules ps a) n false l
theorem InvR.upd {ps : List Pr} {n : Nat} {a : Int} {l : List Bool} (h : InvR ps n a l) (hw : Wf ps n) (h1 : 16 ≤ a) (h2 : a < 16 + n) {p : Pr} {s : Int} (hp : p ∈ ps) (hs : s ∈ p.2) (h16 : 16 ≤ s) (h3 : bget l p.1 = true) (h4 : bget l s = false) :
    InvR ps n a (l.set (s - 16).toNat true) ∧ meas (tab (l.set (s - 16).toNat true)) < meas (tab l) := by
  refine InvB.upd (p := (s, [p.1])) h (wf_rrules hw h1 h2) (mem_rrules.2 (.inr ⟨p, s, hp, hs, h16, rfl⟩)) h4 ?_
  have := (hw.left p hp).1
  show (goodB false l p.1 && true) = true
  rw [goodB, if_neg (by omega), h3]; rfl
theorem InvR.done {ps : List Pr} {n : Nat} {a : Int} {l : List Bool} (h : InvR ps n a l) (hw : Wf ps n) (h1 : 16 ≤ a) (h2 : a < 16 + n) (ha : bget l a = true) (hs : ∀ p, p ∈ ps → bget l p.1 = true → ∀ s, s ∈ p.2 → 16 ≤ s → bget l s = true) : l = reachL ps n a := by
  refine InvB.done h (wf_rrules hw h1 h2) fun q hq => ?_
  rcases mem_rrules.1 hq with rfl | ⟨p, s, hp, hx, h16, rfl⟩
  · rw [ha]; rfl
  · have := (hw.left p hp).1
    show (!bget l s && (goodB false l p.1 && true)) = false
    rw [goodB, if_neg (by omega)]
    cases hb : bget l p.1 with
    | false => cases bget l s <;> rfl
    | true => rw [hs p hp hb s hx h16]; rfl
end Go.Proofs.YtaibabmladgldaaDoor
set_option linter.unusedSimpArgs false
set_option linter.unusedVariables false
set_option maxHeartbeats 2000000
set_option maxRecDepth 20000
namespace Go.Proofs.YtaibabmladgldaaDoor
open Go.RowKit
section
variable (E : Env) (L : List Res)
end
end Go.Proofs.YtaibabmladgldaaDoor
set_option linter.unusedSimpArgs false
set_option linter.unusedVariables false
set_option maxHeartbeats 2000000
set_option maxRecDepth 20000
namespace Go.Proofs.YtaibabmladgldaaDoor
open Go.RowKit
def bools (l : List Bool) : List Value := l.map fun b => .bool b
section
variable (E : Env) (L : List Res)
end
end Go.Proofs.YtaibabmladgldaaDoor
set_option linter.unusedSimpArgs false
set_option linter.unusedVariables false
set_option maxHeartbeats 2000000
set_option maxRecDepth 20000
namespace Go.Proofs.YtaibabmladgldaaDoor
open Go.RowKit
section
variable (E : Env) (L : List Res)
end
end Go.Proofs.YtaibabmladgldaaDoor
set_option linter.unusedSimpArgs false
set_option linter.unusedVariables false
set_option maxHeartbeats 2000000
set_option maxRecDepth 20000
namespace Go.Proofs.YtaibabmladgldaaDoor
open Go.RowKit
section
variable (E : Env) (L : List Res)
end
end Go.Proofs.YtaibabmladgldaaDoor
set_option linter.unusedSimpArgs false
set_option linter.unusedVariables false
set_option maxHeartbeats 2000000
set_option maxRecDepth 20000
namespace Go.Proofs.YtaibabmladgldaaDoor
open Go.RowKit
/-! Numbers that are marked in a map. -/
def marks (n : Nat) (ks : List Int) : List Bool := (List.range n).map fun i => decide ((16 : Int) + (i : Nat) ∈ ks)
section
variable (E : Env) (L : List Res)
end
end Go.Proofs.YtaibabmladgldaaDoor
set_option linter.unusedSimpArgs false
set_option linter.unusedVariables false
set_option maxHeartbeats 2000000
set_option maxRecDepth 20000
namespace Go.Proofs.YtaibabmladgldaaDoor
open Go.RowKit
structure Valid (g : Gr) : Prop where
  wf : Wf g.prods g.names.length
  start : 16 ≤ g.start ∧ g.start < 16 + g.names.length
  syms : ∀ p, p ∈ g.prods → ∀ s, s ∈ p.2 → (0 ≤ s ∧ s < g.toks.length) ∨ (16 ≤ s ∧ s < 16 + g.names.length)
  toks : 1 ≤ g.toks.length ∧ g.toks.length ≤ 8
  names : 1 ≤ g.names.length ∧ g.names.length ≤ 8
  prods : g.prods.length ≤ 24
  right : ∀ p, p ∈ g.prods → p.2.length ≤ 6
section
variable (E : Env) (L : List Res)
end
end Go.Proofs.YtaibabmladgldaaDoor
set_option linter.unusedSimpArgs false
set_option linter.unusedVariables false
set_option maxHeartbeats 2000000
set_option maxRecDepth 20000
namespace Go.Proofs.YtaibabmladgldaaDoor
open Go.RowKit
section
variable (E : Env) (L : List Res)
end
end Go.Proofs.YtaibabmladgldaaDoor
set_option linter.unusedSimpArgs false
set_option linter.unusedVariables false
set_option maxHeartbeats 2000000
set_option maxRecDepth 20000
namespace Go.Proofs.YtaibabmladgldaaDoor
open Go.RowKit
/-! The law StackMoves. -/
section
variable (E : Env) (L : List Res)
theorem light25_call (p : Option Addr) (n c : Nat) : CallV Tryd.prog 5 #[.slice p n c] E L (.bool (decide (n ≤ 70))) := by
  refine CallS.toV (CallS.intro (l := [_]) _ Tryd.func5 rfl Tryd.ntmps5 rfl ?_)
  by_cases h : n ≤ 70
  · refine G_seq ?_
    refine G_region ?_
    refine Ga ?_
    refine G_end (X_then (G_seq (G_region ?_)))
    refine Gm ?_
    refine Gv (V_lenS rfl rfl) ?_
    refine Gv (V_leq rfl rfl rfl) ?_
    refine Ga ?_
    refine G_end (X_then (G_ret ?_))
    refine G_leaveS (.nil _) (by exact (.cons (.tmp rfl) (.nil))) rfl ?_ ?_
    · exact (.refl _)
    exact ⟨(by ((try simp only [resVal]); (repeat' split) <;> first | rfl | (exfalso; omega) | (simp_all; done) | (simp_all; omega))), (by rfl)⟩
  · refine G_seq ?_
    refine G_region ?_
    refine Ga ?_
    refine G_end (X_then (G_seq (G_region ?_)))
    refine Gm ?_
    refine Gv (V_lenS rfl rfl) ?_
    refine Gv (V_leq rfl rfl rfl) ?_
    refine Ga ?_
    refine G_end (X_then (G_ret ?_))
    refine G_leaveS (.nil _) (by exact (.cons (.tmp rfl) (.nil))) rfl ?_ ?_
    · exact (.refl _)
    exact ⟨(by ((try simp only [resVal]); (repeat' split) <;> first | rfl | (exfalso; omega) | (simp_all; done) | (simp_all; omega))), (by rfl)⟩
end
end Go.Proofs.YtaibabmladgldaaDoor
set_option linter.unusedSimpArgs false
set_option linter.unusedVariables false
set_option maxHeartbeats 2000000
set_option maxRecDepth 20000
namespace Go.Proofs.YtaibabmladgldaaDoor
open Go.RowKit
/-! strconv.Itoa of numbers below 1,000: the parts. -/
def smls : List UInt8 := (List.range 100).flatMap fun i => [UInt8.ofNat (48 + i / 10), UInt8.ofNat (48 + i % 10)]
theorem smls_len : smls.length = 200 := by decide +kernel
theorem smls_cut {k : Nat} (h : k < 100) : (smls.take (2 * k + 2)).drop (2 * k) = [UInt8.ofNat (48 + k / 10), UInt8.ofNat (48 + k % 10)] := by
  have : ∀ i : Fin 100, (smls.take (2 * i.val + 2)).drop (2 * i.val) = [UInt8.ofNat (48 + i.val / 10), UInt8.ofNat (48 + i.val % 10)] := by decide +kernel
  exact this ⟨k, h⟩
theorem log10_shr {k : Nat} (h : k < 64) : shrI .i64 ((k : Int) * 78913) 18 = ((k * 78913 / 262144 : Nat) : Int) := by
  have : ∀ i : Fin 64, shrI .i64 ((i.val : Int) * 78913) 18 = ((i.val * 78913 / 262144 : Nat) : Int) := by decide +kernel
  exact this ⟨k, h⟩
section
variable (E : Env) (L : List Res)
theorem small2_call (k : Nat) (h : 10 ≤ k ∧ k < 100) : CallV Tryd.prog 71 #[.int .i64 (k : Nat)] E L (.string (S [UInt8.ofNat (48 + k / 10), UInt8.ofNat (48 + k % 10)])) := by
  have hl := smls_len
  have hc := smls_cut h.2
  refine CallS.toV (CallS.intro (l := [_]) _ Tryd.func71 rfl Tryd.ntmps71 rfl ?_)
  refine G_seq (G_region ?_)
  refine Ga ?_
  refine G_end (X_then (G_seq (G_seq (G_region ?_))))
  refine Gm ?_
  refine Gv (V_lss rfl rfl rfl) ?_
  refine G_end (X_then ?_)
  refine G_cond_f rfl (decide_eq_false (by omega)) ?_
  refine G_skip (X_then (G_seq (G_region ?_)))
  refine Gm ?_
  refine Gv (V_mul_i64 rfl rfl rfl (by omega) (by omega)) ?_
  refine Gm ?_
  refine Gv (V_mul_i64 rfl rfl rfl (by omega) (by omega)) ?_
  refine Gv (V_add_i64 rfl rfl rfl (by omega) (by omega)) ?_
  refine Gv (V_cut (s := smls) rfl (by kernel_rfl) rfl rfl (by omega) (by omega) (by omega)) ?_
  rw [show ((k : Int) * 2 + 2).toNat = 2 * k + 2 by omega, show ((k : Int) * 2).toNat = 2 * k by omega, hc]
  refine Ga ?_
  refine G_end (X_then (G_ret ?_))
  refine G_leaveS (.nil _) (by exact (.cons (.tmp rfl) (.nil))) rfl ?_ ?_
  · exact (.refl _)
  exact ⟨rfl, rfl⟩
theorem log10_call (k : Nat) (h : k < 64) : CallV Tryd.prog 82 #[.int .i64 (k : Nat)] E L (.int .i64 ((k * 78913 / 262144 : Nat) : Int)) := by
  rw [← log10_shr h]
  refine CallS.toV (CallS.intro (l := [_]) _ Tryd.func82 rfl Tryd.ntmps82 rfl ?_)
  refine G_seq (G_region ?_)
  refine Ga ?_
  refine G_end (X_then (G_seq (G_region ?_)))
  refine Gm ?_
  refine Gv (V_mul_i64 rfl rfl rfl (by omega) (by omega)) ?_
  refine Gv (V_shr rfl rfl rfl (by omega)) ?_
  refine Ga ?_
  refine G_end (X_then (G_ret ?_))
  refine G_leaveS (.nil _) (by exact (.cons (.tmp rfl) (.nil))) rfl ?_ ?_
  · exact (.refl _)
  exact ⟨rfl, rfl⟩
theorem bool2_call (b : Bool) : CallV Tryd.prog 84 #[.bool b] E L (.int .i64 (if b then 1 else 0)) := by
  refine CallS.toV (CallS.intro (l := [_]) _ Tryd.func84 rfl Tryd.ntmps84 rfl ?_)
  cases b
  · refine G_seq ?_
    refine G_region ?_
    refine Ga ?_
    refine G_end (X_then (G_seq (G_seq (G_region ?_))))
    refine Gm ?_
    refine G_end (X_then ?_)
    refine G_cond_f rfl rfl ?_
    refine G_skip (X_then (G_seq (G_region ?_)))
    refine Ga ?_
    refine G_end (X_then (G_ret ?_))
    refine G_leaveS (.nil _) (by exact (.cons (.tmp rfl) (.nil))) rfl ?_ ?_
    · exact (.refl _)
    exact ⟨(by kernel_rfl), rfl⟩
  · refine G_seq ?_
    refine G_region ?_
    refine Ga ?_
    refine G_end (X_then (G_seq (G_seq (G_region ?_))))
    refine Gm ?_
    refine G_end (X_then ?_)
    refine G_cond_t rfl rfl ?_
    refine G_seq (G_region ?_)
    refine Ga ?_
    refine G_end (X_then (G_ret (X_then_ret ?_)))
    refine G_leaveS (.nil _) (by exact (.cons (.tmp rfl) (.nil))) rfl ?_ ?_
    · exact (.refl _)
    exact ⟨(by kernel_rfl), rfl⟩
end
end Go.Proofs.YtaibabmladgldaaDoor
set_option linter.unusedSimpArgs false
set_option linter.unusedVariables false
set_option maxHeartbeats 2000000
set_option maxRecDepth 20000
namespace Go.Proofs.YtaibabmladgldaaDoor
open Go.RowKit
/-! The number of digits of numbers from 100 to 999. -/
def len8 : List UInt8 := (List.range 256).map fun i => UInt8.ofNat (if i = 0 then 0 else Nat.log2 i + 1)
def lenN (d : Nat) : Nat := if d < 128 then 7 else if d < 256 then 8 else if d < 512 then 9 else 10
theorem len8_lo {d : Nat} (h : 100 ≤ d ∧ d < 256) : len8[d]? = some (UInt8.ofNat (lenN d)) := by
  have : ∀ i : Fin 256, 100 ≤ i.val → len8[i.val]? = some (UInt8.ofNat (lenN i.val)) := by decide +kernel
  exact this ⟨d, h.2⟩ h.1
theorem len8_hi {d : Nat} (h : 1 ≤ d ∧ d < 4) : len8[d]? = some (UInt8.ofNat (if d < 2 then 1 else 2)) := by
  have : ∀ i : Fin 4, 1 ≤ i.val → len8[i.val]? = some (UInt8.ofNat (if i.val < 2 then 1 else 2)) := by decide +kernel
  exact this ⟨d, h.2⟩ h.1
theorem shr8 {d : Nat} (h : d < 1000) : IntKind.u8.wrap (shrI .u64 (d : Int) 8) = ((d / 256 : Nat) : Int) := by
  have : ∀ i : Fin 1000, IntKind.u8.wrap (shrI .u64 (i.val : Int) 8) = ((i.val / 256 : Nat) : Int) := by decide +kernel
  exact this ⟨d, h⟩
theorem lenN_lo {d : Nat} : ((UInt8.ofNat (lenN d)).toNat : Int) = (lenN d : Nat) := by
  unfold lenN
  split
  · rfl
  · split
    · rfl
    · split <;> rfl
section
variable (E : Env) (L : List Res)
theorem Len64_call (d : Nat) (h : 100 ≤ d ∧ d < 1000) : CallV Tryd.prog 83 #[.int .u64 (d : Nat)] E L (.int .i64 ((lenN d : Nat) : Int)) := by
  refine CallS.toV (CallS.intro (l := [_]) _ Tryd.func83 rfl Tryd.ntmps83 rfl ?_)
  by_cases h2 : d < 256
  · have h8 := len8_lo ⟨h.1, h2⟩
    have h9 : lenN d = 7 ∨ lenN d = 8 := by unfold lenN; split; simp; simp [h2]
    have hw : IntKind.i64.wrap (0 + IntKind.i64.wrap ((UInt8.ofNat (lenN d)).toNat : Int)) = ((lenN d : Nat) : Int) := by
      rw [lenN_lo, wrap_i64 (a := ((lenN d : Nat) : Int)) (by omega) (by omega), wrap_i64 (by omega) (by omega)]; omega
    refine G_seq (G_region ?_)
    refine Ga ?_
    refine G_end (X_then (G_seq (G_seq (G_region ?_))))
    refine Gm ?_
    refine Gv (V_geq rfl rfl rfl) ?_
    refine G_end (X_then ?_)
    refine G_cond_f rfl (decide_eq_false (by omega)) ?_
    refine G_skip (X_then (G_seq (G_seq (G_region ?_))))
    refine Gm ?_
    refine Gv (V_geq rfl rfl rfl) ?_
    refine G_end (X_then ?_)
    refine G_cond_f rfl (decide_eq_false (by omega)) ?_
    refine G_skip (X_then (G_seq (G_seq (G_region ?_))))
    refine Gm ?_
    refine Gv (V_geq rfl rfl rfl) ?_
    refine G_end (X_then ?_)
    refine G_cond_f rfl (decide_eq_false (by omega)) ?_
    refine G_skip (X_then (G_seq (G_region ?_)))
    refine Gm ?_
    refine Gm ?_
    refine Gv (V_conv_u8 rfl rfl (by omega) (by omega)) ?_
    refine Gv (V_sidx rfl rfl rfl (by omega) (by assumption)) ?_
    refine Gv (V_conv rfl rfl) ?_
    refine Gv (V_add rfl rfl rfl) ?_
    refine Ga ?_
    refine G_end (X_then (G_ret ?_))
    refine G_leaveS (.nil _) (by exact (.cons (.tmp rfl) (.nil))) rfl ?_ ?_
    · exact (.refl _)
    exact ⟨(by ((try simp only [resVal]); (repeat' split) <;> first | rfl | (exfalso; omega) | (simp_all; done) | (simp_all; omega))), (by rfl)⟩
  · have h8 := len8_hi (d := d / 256) (by omega)
    have hs := shr8 h.2
    refine G_seq (G_region ?_)
    refine Ga ?_
    refine G_end (X_then (G_seq (G_seq (G_region ?_))))
    refine Gm ?_
    refine Gv (V_geq rfl rfl rfl) ?_
    refine G_end (X_then ?_)
    refine G_cond_f rfl (decide_eq_false (by omega)) ?_
    refine G_skip (X_then (G_seq (G_seq (G_region ?_))))
    refine Gm ?_
    refine Gv (V_geq rfl rfl rfl) ?_
    refine G_end (X_then ?_)
    refine G_cond_f rfl (decide_eq_false (by omega)) ?_
    refine G_skip (X_then (G_seq (G_seq (G_region ?_))))
    refine Gm ?_
    refine Gv (V_geq rfl rfl rfl) ?_
    refine G_end (X_then ?_)
    refine G_cond_t rfl (decide_eq_true (by omega)) ?_
    refine G_seq (G_region ?_)
    refine Gm ?_
    refine Gv (V_shr rfl rfl rfl (by omega)) ?_
    refine Ga ?_
    refine G_end (X_then (G_region ?_))
    refine Gm ?_
    refine Gv (V_add_i64 rfl rfl rfl (by omega) (by omega)) ?_
    refine Ga ?_
    refine G_end (X_then (G_seq (G_region ?_)))
    refine Gm ?_
    refine Gm ?_
    refine Gv (V_conv rfl rfl) ?_
    rw [hs]
    refine Gv (V_sidx (a := len8) (c := UInt8.ofNat (if d / 256 < 2 then 1 else 2)) rfl (by kernel_rfl) rfl (by omega) (by rw [Int.toNat_natCast]; exact h8)) ?_
    by_cases h5 : d < 512
    · rw [if_pos (by omega), show lenN d = 9 by unfold lenN; rw [if_neg (by omega), if_neg h2, if_pos h5]]
      refine Gv (V_conv rfl rfl) ?_
      refine Gv (V_add rfl rfl rfl) ?_
      refine Ga ?_
      refine G_end (X_then (G_ret ?_))
      refine G_leaveS (.nil _) (by exact (.cons (.tmp rfl) (.nil))) rfl ?_ ?_
      · exact (.refl _)
      exact ⟨(by kernel_rfl), rfl⟩
    · rw [if_neg (by omega), show lenN d = 10 by unfold lenN; rw [if_neg (by omega), if_neg h2, if_neg h5]]
      refine Gv (V_conv rfl rfl) ?_
      refine Gv (V_add rfl rfl rfl) ?_
      refine Ga ?_
      refine G_end (X_then (G_ret ?_))
      refine G_leaveS (.nil _) (by exact (.cons (.tmp rfl) (.nil))) rfl ?_ ?_
      · exact (.refl _)
      exact ⟨(by kernel_rfl), rfl⟩
end
end Go.Proofs.YtaibabmladgldaaDoor
set_option linter.unusedSimpArgs false
set_option linter.unusedVariables false
set_option maxHeartbeats 2000000
set_option maxRecDepth 20000
namespace Go.Proofs.YtaibabmladgldaaDoor
open Go.RowKit
/-! numDigits of numbers from 100 to 999. Two cells of the laid table of powers of ten are asked for. -/
theorem SlE.cellAt {E : Env} {L : List Res} {b k n i : Nat} {vals : List Value} {v : Value} (h : SlE E 1 (some ⟨b, k, none⟩) n vals) (hv : vals[i]? = some v) : Cell E L ⟨b, k + i, none⟩ v := fun w hw => by
  obtain ⟨_, h | ⟨p, h1, h2, h3⟩⟩ := h
  · cases h.1
  · cases h1
    have := Env.cell_st (h3 i v hv) hw
    have e : (⟨b, k, none⟩ : Addr).add i = ⟨b, k + i, none⟩ := by unfold Addr.add; split <;> simp_all
    rwa [e] at this
theorem log_lo {d : Nat} (h : 100 ≤ d ∧ d < 512) : lenN d * 78913 / 262144 = 2 := by
  have : lenN d = 7 ∨ lenN d = 8 ∨ lenN d = 9 := by unfold lenN; split; simp; split; simp; rw [if_pos h.2]; simp
  rcases this with h | h | h <;> rw [h]
theorem log_hi {d : Nat} (h : 512 ≤ d) : lenN d * 78913 / 262144 = 3 := by
  have : lenN d = 10 := by unfold lenN; rw [if_neg (by omega), if_neg (by omega), if_neg (by omega)]
  rw [this]
theorem lenN_lt (d : Nat) : lenN d < 64 := by unfold lenN; split; omega; split; omega; split <;> omega
section
variable (E : Env) (L : List Res)
theorem numDigits_call (d : Nat) (h : 100 ≤ d ∧ d < 1000) (hT : SlE E 1 (some ⟨0, 2, none⟩) 2 [.int .u64 100, .int .u64 1000]) : CallV Tryd.prog 72 #[.int .u64 (d : Nat)] E L (.int .i64 3) := by
  have hc2 : Cell E L ⟨0, 0 + ((2 : Nat) : Int).toNat * 1, none⟩ (.int .u64 100) := SlE.cellAt (i := 0) hT rfl
  have hc3 : Cell E L ⟨0, 0 + ((3 : Nat) : Int).toNat * 1, none⟩ (.int .u64 1000) := SlE.cellAt (i := 1) hT rfl
  have hl := log10_call E L (lenN d) (lenN_lt d)
  refine CallS.toV (CallS.intro (l := [_]) _ Tryd.func72 rfl Tryd.ntmps72 rfl ?_)
  by_cases h5 : d < 512
  · rw [log_lo ⟨h.1, h5⟩] at hl
    refine G_seq (G_region ?_)
    refine Ga ?_
    refine G_end (X_then (G_seq (G_region ?_)))
    refine Gm ?_
    refine G_callv (k := 83) (.mk rfl rfl rfl rfl) rfl rfl (.none rfl) (Len64_call _ _ d h) ?_
    skip
    refine G_callv (k := 82) (.mk rfl rfl rfl rfl) rfl rfl (.none rfl) hl ?_
    refine Ga ?_
    refine G_end (X_then (G_seq (G_region ?_)))
    refine Gm ?_
    refine Gm ?_
    refine Gm ?_
    refine Gv (V_idxAddrArr rfl rfl rfl (by omega) (by omega)) ?_
    refine Gv (V_load rfl rfl (by assumption)) ?_
    refine Gv (V_geq rfl rfl rfl) ?_
    refine G_callv (k := 84) (.mk rfl rfl rfl rfl) rfl rfl (.none rfl) (bool2_call _ _ _) ?_
    refine Gv (V_add_i64 rfl rfl rfl (by omega) (by omega)) ?_
    refine Ga ?_
    refine G_end (X_then (G_ret ?_))
    refine G_leaveS (.nil _) (by exact (.cons (.tmp rfl) (.nil))) rfl ?_ ?_
    · exact (.refl _)
    exact ⟨(by ((try simp only [resVal]); (repeat' split) <;> first | rfl | (exfalso; omega) | (simp_all; done) | (simp_all; omega))), (by rfl)⟩
  · rw [log_hi (by omega)] at hl
    refine G_seq (G_region ?_)
    refine Ga ?_
    refine G_end (X_then (G_seq (G_region ?_)))
    refine Gm ?_
    refine G_callv (k := 83) (.mk rfl rfl rfl rfl) rfl rfl (.none rfl) (Len64_call _ _ d h) ?_
    skip
    refine G_callv (k := 82) (.mk rfl rfl rfl rfl) rfl rfl (.none rfl) hl ?_
    refine Ga ?_
    refine G_end (X_then (G_seq (G_region ?_)))
    refine Gm ?_
    refine Gm ?_
    refine Gm ?_
    refine Gv (V_idxAddrArr rfl rfl rfl (by omega) (by omega)) ?_
    refine Gv (V_load rfl rfl (by assumption)) ?_
    refine Gv (V_geq rfl rfl rfl) ?_
    refine G_callv (k := 84) (.mk rfl rfl rfl rfl) rfl rfl (.none rfl) (bool2_call _ _ _) ?_
    refine Gv (V_add_i64 rfl rfl rfl (by omega) (by omega)) ?_
    refine Ga ?_
    refine G_end (X_then (G_ret ?_))
    refine G_leaveS (.nil _) (by exact (.cons (.tmp rfl) (.nil))) rfl ?_ ?_
    · exact (.refl _)
    exact ⟨(by ((try simp only [resVal]); (repeat' split) <;> first | rfl | (exfalso; omega) | (simp_all; done) | (simp_all; omega))), (by rfl)⟩
end
end Go.Proofs.YtaibabmladgldaaDoor
namespace Go.Proofs.YtaibabmladgldaaDoor
open Go.RowKit
section
variable {P : Program} {fs : List (Nat × Value)} {E : Env} {L : List Res} {o : Oper}
theorem V_idxBo {x y : Operand} {t e : TypeId} {d : TypeDesc} {sz sz' : Nat} {ag ag' : Bool} [ht : Ty P t (.slice e) sz' ag'] [he : Ty P e d sz ag] {b off m c : Nat} {k : IntKind} {i : Int}
    (ho : o.op = .indexAddr t x y) (hx : ev fs x = some (.slice (some ⟨b, off, none⟩) m c)) (hy : ev fs y = some (.int k i)) (h0 : 0 ≤ i) (h1 : i < m) : Val P o fs E L (.pointer (some ⟨b, off + i.toNat * sz, none⟩)) :=
  ⟨(by rw [ho]; intro c h; cases h), fun n ds a' w ha hw => by
    have hl : i.toNat < m := by omega
    have hni : ¬ i < 0 := by omega
    have e2 := addr_add b off (i.toNat * sz)
    simp [execOp, ho, ha.eval hx, ha.eval hy, Instr.indexAt, asIntOf, ht.run, h0, h1, he.size, e2]⟩
/-- An array in memory, from an element on to another. -/
theorem V_slArrMid {t e : TypeId} {m sz szt : Nat} {ag ag' : Bool} {td : TypeDesc} [ht : Ty P t (.array m e) szt ag] [he : Ty P e td sz ag'] {x y z : Operand} {p : Addr} {k k' : IntKind} {i j : Int}
    (ho : o.op = .slice t x (some y) (some z) none) (hx : ev fs x = some (.pointer (some p))) (hy : ev fs y = some (.int k i)) (hz : ev fs z = some (.int k' j)) (h0 : 0 ≤ i) (h1 : i ≤ j) (h2 : j ≤ m) (h3 : i < m) : Val P o fs E L (.slice (some (p.add (i.toNat * sz))) (j.toNat - i.toNat) (m - i.toNat)) :=
  ⟨(by rw [ho]; intro c h; cases h), fun n ds a w ha _ => by
    have e3 : ¬ m = i.toNat := by omega
    have e4 : 0 ≤ j := by omega
    have e6 : max j 0 = j := by omega
    simp [execOp, ho, ha.eval hx, ha.eval hy, ha.eval hz, Instr.sliceAt, Instr.sureAddr, Instr.sliceBounds, Instr.sliceBound, asIntOf, h0, h1, h2, e3, e4, e6, ht.run, he.size, Result.andThen]⟩
/-! ### Values of an interface, compared -/
section
variable {t u : TypeId} {sz : Nat} {ag : Bool} {ms : Array (String × TypeId)} [ht : Ty P t (.interface ms) sz ag] {x y : Operand}
include ht
end
end
end Go.Proofs.YtaibabmladgldaaDoor
set_option linter.unusedSimpArgs false
set_option linter.unusedVariables false
set_option maxHeartbeats 2000000
set_option maxRecDepth 20000
namespace Go.Proofs.YtaibabmladgldaaDoor
open Go.RowKit
/-! strconv.Itoa of numbers from 100 to 999. -/
/-- The array with three digits from its second byte on. -/
abbrev dig24 (b : Nat) (x y z : Value) : Res := .blk b (.cells #[.int .u8 0, x, y, z, .int .u8 0, .int .u8 0, .int .u8 0, .int .u8 0, .int .u8 0, .int .u8 0, .int .u8 0, .int .u8 0, .int .u8 0, .int .u8 0, .int .u8 0, .int .u8 0, .int .u8 0, .int .u8 0, .int .u8 0, .int .u8 0, .int .u8 0, .int .u8 0, .int .u8 0, .int .u8 0] 94 (0, 0))
theorem smls_at {k : Nat} (h : k < 100) : smls[2 * k]? = some (UInt8.ofNat (48 + k / 10)) ∧ smls[2 * k + 1]? = some (UInt8.ofNat (48 + k % 10)) := by
  have : ∀ i : Fin 100, smls[2 * i.val]? = some (UInt8.ofNat (48 + i.val / 10)) ∧ smls[2 * i.val + 1]? = some (UInt8.ofNat (48 + i.val % 10)) := by decide +kernel
  exact this ⟨k, h⟩
theorem u32_mod {d : Nat} (h : d < 1000) : IntKind.u32.wrap ((IntKind.u32.wrap (d : Int)).tmod 100 * 2) = ((2 * (d % 100) : Nat) : Int) := by
  have : ∀ i : Fin 1000, IntKind.u32.wrap ((IntKind.u32.wrap (i.val : Int)).tmod 100 * 2) = ((2 * (i.val % 100) : Nat) : Int) := by decide +kernel
  exact this ⟨d, h⟩
theorem u32_div {d : Nat} (h : d < 1000) : IntKind.u32.wrap ((IntKind.u32.wrap (d : Int)).tdiv 100) = ((d / 100 : Nat) : Int) := by
  have : ∀ i : Fin 1000, IntKind.u32.wrap ((IntKind.u32.wrap (i.val : Int)).tdiv 100) = ((i.val / 100 : Nat) : Int) := by decide +kernel
  exact this ⟨d, h⟩
theorem u8_dig {q : Nat} (h : q < 10) : IntKind.u8.wrap (IntKind.u32.wrap (48 + (q : Int))) = ((48 + q : Nat) : Int) := by
  have : ∀ i : Fin 10, IntKind.u8.wrap (IntKind.u32.wrap (48 + (i.val : Int))) = ((48 + i.val : Nat) : Int) := by decide +kernel
  exact this ⟨q, h⟩
theorem u32_next {k : Nat} (h : k < 200) : IntKind.u32.wrap ((k : Int) + 1) = ((k + 1 : Nat) : Int) := by
  have : ∀ i : Fin 200, IntKind.u32.wrap ((i.val : Int) + 1) = ((i.val + 1 : Nat) : Int) := by decide +kernel
  exact this ⟨k, h⟩
section
variable (E : Env) (L : List Res)
theorem formatBase10_call (b d : Nat) (h : 100 ≤ d ∧ d < 1000) : CallS Tryd.prog 73 #[.slice (some ⟨b, 1, none⟩) 3 23, .int .u64 (d : Nat)] E (dig24 b (.int .u8 0) (.int .u8 0) (.int .u8 0) :: L)
    (fun r E' L' => r = .tuple #[] ∧ E = E' ∧ L' = dig24 b (.int .u8 (48 + d / 100 : Nat)) (.int .u8 ((UInt8.ofNat (48 + d % 100 / 10)).toNat : Int)) (.int .u8 ((UInt8.ofNat (48 + d % 100 % 10)).toNat : Int)) :: L) := by
  have hs := smls_at (k := d % 100) (by omega)
  refine CallS.intro (l := [_, _]) _ Tryd.func73 rfl Tryd.ntmps73 rfl ?_
  refine G_seq (G_region ?_)
  refine Gm ?_
  refine Gv (V_lenS rfl rfl) ?_
  refine Ga ?_
  refine G_end (X_then (G_seq (G_block ?_)))
  refine G_loop (α := Unit) (fun _ => [(0, .slice (some ⟨b, 1, none⟩) 3 23), (1, .int .u64 (d : Nat)), (4, .int .i64 3)]) (fun _ => E) (fun _ => dig24 b (.int .u8 0) (.int .u8 0) (.int .u8 0) :: L) (fun _ => True) (fun _ => 0) () trivial ⟨rfl, rfl, rfl, trivial⟩ rfl rfl ?_
  rintro _ _
  refine G_seq (G_seq (G_region ?_))
  refine Gm ?_
  refine Gv (V_geq rfl rfl rfl) ?_
  refine G_end (X_then ?_)
  refine G_cond_f rfl (by kernel_rfl) ?_
  refine G_exit (X_then_exit (X_then_exit (X_block_hit (X_then (G_seq (G_region ?_))))))
  refine Gm ?_
  refine Gv (V_conv rfl rfl) ?_
  refine Ga ?_
  refine G_end (X_then (G_seq (G_seq (G_region ?_))))
  refine Gm ?_
  refine Gv (V_geq rfl rfl rfl) ?_
  refine G_end (X_then ?_)
  refine G_cond_f rfl (by kernel_rfl) ?_
  refine G_skip (X_then (G_seq (G_seq (G_region ?_))))
  refine Gm ?_
  refine Gv (V_geq rfl rfl rfl) ?_
  refine G_end (X_then ?_)
  refine G_cond_t rfl (by kernel_rfl) ?_
  refine G_seq (G_region ?_)
  refine Gm ?_
  refine Gv (V_rem rfl rfl rfl (by omega)) ?_
  refine Gv (V_mul rfl rfl rfl) ?_
  refine Ga ?_
  refine G_end (X_then (G_seq (G_region ?_)))
  refine Gm ?_
  refine Gv (V_quo rfl rfl rfl (by omega)) ?_
  refine Ga ?_
  refine G_end (X_then (G_seq ?_))
  rw [u32_mod h.2, u32_div h.2]
  have hk : d % 100 < 100 := by omega
  have hd : d / 100 < 10 := by omega
  generalize d % 100 = k at *
  have x1 := hs.1
  have x2 := hs.2
  have hn := u32_next (k := 2 * k) (by omega)
  have hn0 : 0 ≤ IntKind.u32.wrap (((2 * k : Nat) : Int) + 1) := by rw [hn]; omega
  have x3 : smls[(IntKind.u32.wrap (((2 * k : Nat) : Int) + 1)).toNat]? = some (UInt8.ofNat (48 + k % 10)) := by rw [hn, Int.toNat_natCast]; exact x2
  have x4 : smls[((2 * k : Nat) : Int).toNat]? = some (UInt8.ofNat (48 + k / 10)) := by rw [Int.toNat_natCast]; exact x1
  clear x1 x2 hs
  refine G_drawX 15 [(0, 0), (1, 0), (2, 0), (3, 0), (4, 0), (5, 0), (6, 0), (7, 0), (8, 0), (9, 0), (10, 0), (11, 1), (12, 4), (13, 1), (14, 4)] mixed (by kernel_rfl) ?_
  refine F_pure rfl (fun _ _ => V_move rfl rfl) rfl rfl (.none rfl) ?_
  refine F_pure rfl (fun _ _ => V_move rfl rfl) rfl rfl (.none rfl) ?_
  refine F_pure rfl (fun _ _ => V_sub_i64 rfl rfl rfl (by omega) (by omega)) rfl rfl (.none rfl) ?_
  refine F_pure rfl (fun _ _ => V_move rfl rfl) rfl rfl (.none rfl) ?_
  refine F_pure rfl (fun _ _ => V_move rfl rfl) rfl rfl (.none rfl) ?_
  refine F_pure rfl (fun _ _ => V_sub_i64 rfl rfl rfl (by omega) (by omega)) rfl rfl (.none rfl) ?_
  refine F_pure rfl (fun _ _ => V_move rfl rfl) rfl rfl (.none rfl) ?_
  refine F_pure rfl (fun _ _ => V_add rfl rfl rfl) rfl rfl (.none rfl) ?_
  refine F_pure rfl (fun _ _ => V_sidx rfl rfl rfl (by omega) (by assumption)) rfl rfl (.none rfl) ?_
  refine F_pure rfl (fun _ _ => V_move rfl rfl) rfl rfl (.none rfl) ?_
  refine F_pure rfl (fun _ _ => V_sidx rfl rfl rfl (by omega) (by assumption)) rfl rfl (.none rfl) ?_
  refine F_loadE rfl (V_idxBo rfl rfl rfl (by omega) (by omega)) rfl rfl (.none rfl) ?_
  refine F_storeB rfl rfl rfl rfl rfl rfl rfl (.none rfl) (.head _ _ _) (by decide) (.drop (by kernel_rfl) .nil) ?_
  rw [show (1 + ((3 : Int) - 1).toNat * 1) = 3 from rfl]
  simp only [List.set_cons_succ, List.set_cons_zero]
  refine F_loadE rfl (V_idxBo rfl rfl rfl (by omega) (by omega)) rfl rfl (.none rfl) ?_
  refine F_storeB rfl rfl rfl rfl rfl rfl rfl (.none rfl) (.head _ _ _) (by simp) (.drop (by kernel_rfl) .nil) ?_
  rw [show (1 + ((3 : Int) - 2).toNat * 1) = 2 from rfl]
  simp only [List.set_cons_succ, List.set_cons_zero]
  refine F_end (.nil _) ?_
  dsimp only [List.drop]
  refine G_end (X_then (G_region ?_))
  refine Gm ?_
  refine Gv (V_sub_i64 rfl rfl rfl (by omega) (by omega)) ?_
  refine Ga ?_
  refine G_end (X_then (G_seq (G_region ?_)))
  refine Gm ?_
  refine Gv (V_gtr rfl rfl rfl) ?_
  refine G_end (X_then ?_)
  refine G_cond_t rfl (by kernel_rfl) ?_
  refine G_region ?_
  refine Gm ?_
  refine Gm ?_
  refine Gv (V_add rfl rfl rfl) ?_
  refine Gv (V_conv rfl rfl) ?_
  rw [u8_dig hd]
  refine Gv (V_idxBo rfl rfl rfl (by omega) (by omega)) ?_
  refine G_storeB rfl rfl rfl rfl rfl rfl (.none rfl) (.head _ _ _) (by simp) ?_
  rw [show (1 + (0 : Int).toNat * 1) = 1 from rfl]
  simp only [List.set_cons_succ, List.set_cons_zero]
  refine G_end ?_
  refine G_leaveS_n (.keep _ (.nil _)) (by exact (.nil)) rfl ?_ ?_
  · exact (.refl _)
  exact ⟨(by kernel_rfl), ⟨rfl, rfl⟩⟩
theorem FormatInt3_call (d : Nat) (h : 100 ≤ d ∧ d < 1000) (hT : SlE E 1 (some ⟨0, 2, none⟩) 2 [.int .u64 100, .int .u64 1000]) :
    CallV Tryd.prog 53 #[.int .i64 (d : Nat), .int .i64 10] E L (.string (S [UInt8.ofNat (48 + d / 100), UInt8.ofNat (48 + d % 100 / 10), UInt8.ofNat (48 + d % 100 % 10)])) := by
  refine CallS.toV (CallS.intro (l := [_, _]) _ Tryd.func53 rfl Tryd.ntmps53 rfl ?_)
  refine G_seq (G_region ?_)
  refine Ga ?_
  refine G_end (X_then (G_seq (G_seq (G_region ?_))))
  refine Gm ?_
  refine Gv (V_eql rfl rfl rfl) ?_
  refine G_end (X_then ?_)
  refine G_cond_t rfl (by kernel_rfl) ?_
  refine G_seq (G_seq (G_region ?_))
  refine Gm ?_
  refine Gv (V_leq rfl rfl rfl) ?_
  refine Gm ?_
  refine G.bool_t 14 rfl (decide_eq_true (by omega)) ?_
  refine Gy (V_move rfl rfl) ?_
  refine Gy (V_lss rfl rfl rfl) ?_
  refine Gv (V_pick_t rfl rfl rfl) ?_
  refine G_end (X_then ?_)
  refine G_cond_f rfl (decide_eq_false (by omega)) ?_
  refine G_skip (X_then (G_seq (G_region ?_)))
  (refine G_alloc rfl rfl rfl (.none rfl) ?_; intro b5)
  refine G_end (X_then (G_seq (G_region ?_)))
  refine Gm ?_
  refine Gv (V_conv_u64 rfl rfl (by omega) (by omega)) ?_
  refine Ga ?_
  refine G_end (X_then (G_seq (G_seq (G_region ?_))))
  refine Gm ?_
  refine Gv (V_lss rfl rfl rfl) ?_
  refine G_end (X_then ?_)
  refine G_cond_f rfl (decide_eq_false (by omega)) ?_
  refine G_skip (X_then (G_seq (G_region ?_)))
  refine Gm ?_
  refine G_callv (k := 72) (.mk rfl rfl rfl rfl) rfl rfl (.none rfl) (numDigits_call _ _ _ (by assumption) (by assumption)) ?_
  refine Ga ?_
  refine G_end (X_then (G_seq (G_region ?_)))
  refine Gm ?_
  refine Gv (V_add_i64 rfl rfl rfl (by omega) (by omega)) ?_
  refine Gv (V_slArrMid rfl rfl rfl rfl (by omega) (by omega) (by omega) (by omega)) ?_
  rw [show (⟨b5, 0, none⟩ : Addr).add ((1 : Int).toNat * 1) = ⟨b5, 1, none⟩ from rfl, show (((1 : Int) + 3).toNat - (1 : Int).toNat) = 3 from rfl, show (24 - (1 : Int).toNat) = 23 from rfl]
  refine Gm ?_
  refine G_call (k := 73) (.mk rfl rfl rfl rfl) rfl rfl (.none rfl) (formatBase10_call _ _ b5 d h) ?_
  rintro x1 E1 L1 hE1 ⟨rfl, rfl, rfl⟩
  refine G_end (X_then (G_seq (G_seq (G_region ?_))))
  refine Gm ?_
  refine Gv (V_lss rfl rfl rfl) ?_
  refine G_end (X_then ?_)
  refine G_cond_f rfl (decide_eq_false (by omega)) ?_
  refine G_skip (X_then (G_seq (G_region ?_)))
  refine Gm ?_
  refine Gv (V_add_i64 rfl rfl rfl (by omega) (by omega)) ?_
  refine Gv (V_slArrMid rfl rfl rfl rfl (by omega) (by omega) (by omega) (by omega)) ?_
  rw [show (⟨b5, 0, none⟩ : Addr).add ((1 : Int).toNat * 1) = ⟨b5, 1, none⟩ from rfl, show (((1 : Int) + 3).toNat - (1 : Int).toNat) = 3 from rfl, show (24 - (1 : Int).toNat) = 23 from rfl]
  refine G.freezeB (k := 24) (sz := 1) (.head _ _) rfl ?_
  intro E2 hE2 hz
  have hz1 := (hz.tail (l := 1) (c := 24) (by omega) (by omega)).head (i := 3) (by omega)
  have hd : (((48 + d / 100 : Nat) : Int)) = ((UInt8.ofNat (48 + d / 100)).toNat : Int) := by
    have : 48 + d / 100 < 256 := by omega
    simp [UInt8.toNat_ofNat, Nat.mod_eq_of_lt this]
  have hz2 : SlE E2 1 (some ⟨b5, 1, none⟩) 3 ([UInt8.ofNat (48 + d / 100), UInt8.ofNat (48 + d % 100 / 10), UInt8.ofNat (48 + d % 100 % 10)].map fun b => .int .u8 b.toNat) := by
    simp only [List.map_cons, List.map_nil]
    rw [← hd]
    exact hz1
  refine Gv (V_b2s rfl rfl (SlE.rd hz2)) ?_
  refine Ga ?_
  refine G_end (X_then (G_ret (X_then_ret ?_)))
  refine G_leaveS (.nil _) (by exact (.cons (.tmp rfl) (.nil))) rfl ?_ ?_
  · exact hE2
  exact ⟨rfl, rfl⟩
end
end Go.Proofs.YtaibabmladgldaaDoor
set_option linter.unusedSimpArgs false
set_option linter.unusedVariables false
set_option maxHeartbeats 2000000
set_option maxRecDepth 20000
namespace Go.Proofs.YtaibabmladgldaaDoor
open Go.RowKit
/-! strconv.Itoa of numbers below 1,000. -/
theorem dec_nat {d : Nat} (h : d < 1000) : dec (d : Int) = if d < 10 then [UInt8.ofNat (48 + d)] else if d < 100 then [UInt8.ofNat (48 + d / 10), UInt8.ofNat (48 + d % 10)] else [UInt8.ofNat (48 + d / 100), UInt8.ofNat (48 + d % 100 / 10), UInt8.ofNat (48 + d % 100 % 10)] := by
  unfold dec dgb
  by_cases h1 : d < 10
  · rw [if_pos (by omega), if_pos h1, Int.toNat_natCast]
  · rw [if_neg (by omega), if_neg h1]
    by_cases h2 : d < 100
    · rw [if_pos (by omega), if_pos h2, show ((d : Int) / 10).toNat = d / 10 by omega, show ((d : Int) % 10).toNat = d % 10 by omega]
    · rw [if_neg (by omega), if_neg h2, show ((d : Int) / 100).toNat = d / 100 by omega, show ((d : Int) / 10 % 10).toNat = d % 100 / 10 by omega, show ((d : Int) % 10).toNat = d % 100 % 10 by omega]
section
variable (E : Env) (L : List Res)
theorem FormatInt2_call (d : Nat) (h : 10 ≤ d ∧ d < 100) : CallV Tryd.prog 53 #[.int .i64 (d : Nat), .int .i64 10] E L (.string (S [UInt8.ofNat (48 + d / 10), UInt8.ofNat (48 + d % 10)])) := by
  have hs := small2_call E L d h
  refine CallS.toV (CallS.intro (l := [_, _]) _ Tryd.func53 rfl Tryd.ntmps53 rfl ?_)
  refine G_seq (G_region ?_)
  refine Ga ?_
  refine G_end (X_then (G_seq (G_seq (G_region ?_))))
  refine Gm ?_
  refine Gv (V_eql rfl rfl rfl) ?_
  refine G_end (X_then ?_)
  refine G_cond_t rfl (by kernel_rfl) ?_
  refine G_seq (G_seq (G_region ?_))
  refine Gm ?_
  refine Gv (V_leq rfl rfl rfl) ?_
  refine Gm ?_
  refine G.bool_t 14 rfl (decide_eq_true (by omega)) ?_
  refine Gy (V_move rfl rfl) ?_
  refine Gy (V_lss rfl rfl rfl) ?_
  refine Gv (V_pick_t rfl rfl rfl) ?_
  refine G_end (X_then ?_)
  refine G_cond_t rfl (decide_eq_true (by omega)) ?_
  refine G_seq (G_region ?_)
  refine Gm ?_
  refine G_callv (k := 71) (.mk rfl rfl rfl rfl) rfl rfl (.none rfl) hs ?_
  refine Ga ?_
  refine G_end (X_then (G_ret (X_then_ret (X_then_ret ?_))))
  refine G_leaveS (.nil _) (by exact (.cons (.tmp rfl) (.nil))) rfl ?_ ?_
  · exact (.refl _)
  exact ⟨rfl, rfl⟩
theorem Itoa2_call (d : Nat) (h : 10 ≤ d ∧ d < 1000) (hT : SlE E 1 (some ⟨0, 2, none⟩) 2 [.int .u64 100, .int .u64 1000]) : CallV Tryd.prog 39 #[.int .i64 (d : Nat)] E L (.string (S (dec (d : Int)))) := by
  rw [dec_nat h.2, if_neg (by omega)]
  by_cases h2 : d < 100
  · rw [if_pos h2]
    refine CallS.toV (CallS.intro (l := [_]) _ Tryd.func39 rfl Tryd.ntmps39 rfl ?_)
    refine G_seq (G_region ?_)
    refine Ga ?_
    refine G_end (X_then (G_seq (G_region ?_)))
    refine Gm ?_
    refine G_callv (k := 53) (.mk rfl rfl rfl rfl) rfl rfl (.none rfl) (FormatInt2_call _ _ d ⟨h.1, h2⟩) ?_
    refine Ga ?_
    refine G_end (X_then (G_ret ?_))
    refine G_leaveS (.nil _) (by exact (.cons (.tmp rfl) (.nil))) rfl ?_ ?_
    · exact (.refl _)
    exact ⟨rfl, rfl⟩
  · rw [if_neg h2]
    refine CallS.toV (CallS.intro (l := [_]) _ Tryd.func39 rfl Tryd.ntmps39 rfl ?_)
    refine G_seq (G_region ?_)
    refine Ga ?_
    refine G_end (X_then (G_seq (G_region ?_)))
    refine Gm ?_
    refine G_callv (k := 53) (.mk rfl rfl rfl rfl) rfl rfl (.none rfl) (FormatInt3_call _ _ d ⟨by omega, h.2⟩ hT) ?_
    refine Ga ?_
    refine G_end (X_then (G_ret ?_))
    refine G_leaveS (.nil _) (by exact (.cons (.tmp rfl) (.nil))) rfl ?_ ?_
    · exact (.refl _)
    exact ⟨rfl, rfl⟩
theorem ItoaOk_all (x : Int) (h : 0 ≤ x ∧ x < 1000) (hT : SlE E 1 (some ⟨0, 2, none⟩) 2 [.int .u64 100, .int .u64 1000]) : ItoaOk E x := fun L0 => by
  by_cases h10 : x < 10
  · exact Itoa1_call E L0 x ⟨h.1, h10⟩
  · obtain ⟨d, rfl⟩ : ∃ d : Nat, x = d := ⟨x.toNat, by omega⟩
    have hi := Itoa2_call E L0 d (by omega) hT
    generalize dec (d : Int) = r at *
    refine CallS.toV (CallS.intro (l := [_]) _ Tryd.func29 rfl Tryd.ntmps29 rfl ?_)
    refine G_seq (G_region ?_)
    refine Ga ?_
    refine G_end (X_then (G_seq (G_region ?_)))
    refine Gm ?_
    refine G_callv (k := 39) (.mk rfl rfl rfl rfl) rfl rfl (.none rfl) hi ?_
    refine Ga ?_
    refine G_end (X_then (G_ret ?_))
    refine G_leaveS (.nil _) (by exact (.cons (.tmp rfl) (.nil))) rfl ?_ ?_
    · exact (.refl _)
    exact ⟨rfl, rfl⟩
end
end Go.Proofs.YtaibabmladgldaaDoor
set_option linter.unusedSimpArgs false
set_option linter.unusedVariables false
set_option maxHeartbeats 2000000
set_option maxRecDepth 20000
namespace Go.Proofs.YtaibabmladgldaaDoor
open Go.RowKit
/-! The law StackLooks. -/
/-- What the row lays for texts of numbers. -/
structure LaidP (E : Env) : Prop where
  pow : SlE E 1 (some ⟨0, 2, none⟩) 2 [.int .u64 100, .int .u64 1000]
theorem LaidP.mono {E E' : Env} (h : LaidP E) (hE : E.Le E') : LaidP E' := ⟨h.pow.mono hE⟩
section
variable (E : Env) (L : List Res)
theorem SText_call' (hT : LaidP E) (p : Option Addr) (n c : Nat) (l : List Spt) (hs : SlE E 2 p n (spC l)) (hn : n ≤ 9223372036854775807) : CallS Tryd.prog 13 #[.slice p n c] E L (fun r E' L' => r = .tuple #[.string (S (txtM l).1), .int .i64 (txtM l).2] ∧ L' = L) :=
  SText_call E L (fun x => 0 ≤ x ∧ x < 1000) (fun E0 x h0 hx => ItoaOk_all E0 x hx (hT.pow.mono h0)) p n c l hs hn (fun s _ hb => by simp only [badT] at hb; omega)
theorem StackLooks_call (hT : LaidP E) (gv : Value) (g : Gr) (hg : GrE E gv g) (h1 : g.toks.length ≤ 9223372036854775807) (h2 : g.names.length ≤ 9223372036854775807) (h3 : g.prods.length ≤ 9223372036854775807) (h4 : ∀ p, p ∈ g.prods → p.2.length ≤ 9223372036854775807)
    (p : Option Addr) (n c : Nat) (l : List Spt) (hs : SlE E 2 p n (spC l)) (hn : n ≤ 9223372036854775807) (hc : n ≤ c) (q : Option Addr) (m d : Nat) (k : List Spt) (hq : SlE E 2 q m (spC k)) (hm : m ≤ 9223372036854775807) :
    CallS Tryd.prog 3 #[gv, .slice p n c, .slice q m d] E L (fun r E' L' => r = .bool true ∧ L' = L) := by
  have hg0 := hg
  obtain ⟨tp, tc, np, nc, pp, pc, rfl, _⟩ := hg
  refine CallS.intro (l := [_, _, _]) _ Tryd.func3 rfl Tryd.ntmps3 rfl ?_
  cases hlb : lightB g with
  | false =>
    refine G_seq (G_region ?_)
    (refine G_boxA rfl rfl rfl rfl (.none rfl) ?_; intro b3)
    refine Ga ?_
    refine G_end (X_then (G_seq (G_seq (G_region ?_))))
    refine Gv (V_loadA rfl rfl (Cells.own (.head _)) rfl) ?_
    refine G_callv (k := 4) (.mk rfl rfl rfl rfl) rfl rfl (.none rfl) (LightGrammar_call _ _ _ _ (by assumption) (by assumption) (by assumption) (by assumption) (by assumption)) ?_
    refine Gv (V_not rfl rfl) ?_
    refine Gm ?_
    refine G.bool_t 24 rfl (by simp [*]; done) ?_
    refine Gn ?_
    refine Gn ?_
    refine Gn ?_
    refine Gv (V_pick_t rfl rfl rfl) ?_
    refine Gm ?_
    refine Gn ?_
    refine Gn ?_
    refine Gn ?_
    refine Gv (V_pick_t rfl rfl rfl) ?_
    refine G_end (X_then ?_)
    refine G_cond_t rfl rfl ?_
    refine G_seq (G_region ?_)
    refine G_call (k := 6) (.mk rfl rfl rfl rfl) rfl rfl (.none rfl) (awake25_call _ _) ?_
    rintro r1 E2 L3 hE4 ⟨rfl, rfl⟩
    replace hT := hT.mono hE4
    replace hs := hs.mono hE4
    replace hq := hq.mono hE4
    replace hg0 := hg0.mono hE4
    refine Ga ?_
    refine G_end (X_then (G_ret (X_then_ret ?_)))
    refine G_leaveS (.drop _ (.nil _)) (by exact (.cons (.tmp rfl) (.nil))) rfl ?_ ?_
    · exact hE4
    exact ⟨(by kernel_rfl), rfl⟩
  | true =>
    have hl : Light g := lightB_iff.1 hlb
    by_cases h70 : n ≤ 70
    · by_cases h71 : m ≤ 70
      · refine G_seq ?_
        refine G_region ?_
        (refine G_boxA rfl rfl rfl rfl (.none rfl) ?_; intro b3)
        refine Ga ?_
        refine G_end (X_then (G_seq (G_seq (G_region ?_))))
        refine Gv (V_loadA rfl rfl (Cells.own (.head _)) rfl) ?_
        refine G_callv (k := 4) (.mk rfl rfl rfl rfl) rfl rfl (.none rfl) (LightGrammar_call _ _ _ _ (by assumption) (by assumption) (by assumption) (by assumption) (by assumption)) ?_
        refine Gv (V_not rfl rfl) ?_
        refine Gm ?_
        refine G.bool_f 24 rfl (by simp [*]; done) ?_
        refine Gy (V_move rfl rfl) ?_
        refine G_callv (k := 5) (.mk rfl rfl rfl rfl) rfl rfl (.yes rfl rfl rfl rfl) (light25_call _ _ _ _ _) ?_
        refine Gy (V_not rfl rfl) ?_
        refine Gv (V_pick_f rfl rfl rfl) ?_
        refine Gm ?_
        refine G.bool_f 29 rfl (by simp [*]; done) ?_
        refine Gy (V_move rfl rfl) ?_
        refine G_callv (k := 5) (.mk rfl rfl rfl rfl) rfl rfl (.yes rfl rfl rfl rfl) (light25_call _ _ _ _ _) ?_
        refine Gy (V_not rfl rfl) ?_
        refine Gv (V_pick_f rfl rfl rfl) ?_
        refine G_end (X_then ?_)
        refine G_cond_f rfl (by simp [*]; done) ?_
        refine G_skip (X_then (G_seq (G_region ?_)))
        refine Gv (V_loadA rfl rfl (Cells.own (.head _)) rfl) ?_
        refine G_call (k := 7) (.mk rfl rfl rfl rfl) rfl rfl (.none rfl) (OwnGrammar_call _ _ _ _ (by assumption) (by assumption)) ?_
        rintro r1 E2 L3 hE4 ⟨Z5, rfl⟩
        replace hT := hT.mono hE4
        replace hs := hs.mono hE4
        replace hq := hq.mono hE4
        replace hg0 := hg0.mono hE4
        refine Gm ?_
        refine G_call (k := 8) (.mk rfl rfl rfl rfl) rfl rfl (.none rfl) (Lown_call _ _ _ _ _ _ (by assumption) (by omega)) ?_
        rintro r6 E7 L8 hE9 ⟨z10, ⟨z11, ⟨rfl, ⟨Z12, ⟨Z13, rfl⟩⟩⟩⟩⟩
        replace Z5 := Z5.mono hE9
        replace hT := hT.mono hE9
        replace hs := hs.mono hE9
        replace hq := hq.mono hE9
        replace hg0 := hg0.mono hE9
        (refine G_alloc rfl rfl rfl (.none rfl) ?_; intro b7)
        have hgr : GrE E7 r1 g := by assumption
        have hg1 := hgr
        obtain ⟨tp', tc', np', nc', pp', pc', rfl, _⟩ := hgr
        refine G_storeA rfl rfl rfl rfl (by simp [Value.oneCell']) rfl (.none rfl) (.head _ _ _) rfl ?_
        refine Ga ?_
        refine G_end (X_then (G_seq (G_region ?_)))
        refine Gv (V_loadA rfl rfl (Cells.own (.head _)) rfl) ?_
        refine Gm ?_
        refine G_call (k := 9) (.mk rfl rfl rfl rfl) rfl rfl (.none rfl) (SRest_call _ _ _ _ (by assumption) (by assumption) _ _ _ _ (by assumption) (by assumption)) ?_
        rintro r1 E3 L4 hE5 ⟨⟨z6, ⟨z7, ⟨z8, ⟨rfl, ⟨Z9, ⟨Z10, Z11⟩⟩⟩⟩⟩⟩, rfl⟩
        replace Z12 := Z12.mono hE5
        replace hT := hT.mono hE5
        replace hs := hs.mono hE5
        replace hq := hq.mono hE5
        replace hg0 := hg0.mono hE5
        replace Z5 := Z5.mono hE5
        replace hg1 := hg1.mono hE5
        refine Gm ?_
        refine Gv (V_extract rfl rfl rfl) ?_
        refine Gv (V_extract rfl rfl rfl) ?_
        refine Ga ?_
        refine Ga ?_
        refine G_end (X_then (G_seq (G_region ?_)))
        refine Gv (V_loadA rfl rfl (Cells.own (.tail _ (.head _))) rfl) ?_
        refine Gm ?_
        refine G_call (k := 10) (.mk rfl rfl rfl rfl) rfl rfl (.none rfl) (RRest_call _ _ _ _ (by assumption) (by assumption) _ _ _ _ (by assumption) (by assumption)) ?_
        rintro r12 E13 L14 hE15 ⟨⟨z16, ⟨z17, ⟨z18, ⟨rfl, ⟨Z19, ⟨Z20, Z21⟩⟩⟩⟩⟩⟩, rfl⟩
        replace Z9 := Z9.mono hE15
        replace Z12 := Z12.mono hE15
        replace hT := hT.mono hE15
        replace hs := hs.mono hE15
        replace hq := hq.mono hE15
        replace hg0 := hg0.mono hE15
        replace Z5 := Z5.mono hE15
        replace hg1 := hg1.mono hE15
        refine Gm ?_
        refine Gv (V_extract rfl rfl rfl) ?_
        refine Gv (V_extract rfl rfl rfl) ?_
        refine Ga ?_
        refine Ga ?_
        refine G_end (X_then (G_seq (G_region ?_)))
        refine Gv (V_loadA rfl rfl (Cells.own (.head _)) rfl) ?_
        refine Gm ?_
        refine G_call (k := 11) (.mk rfl rfl rfl rfl) rfl rfl (.none rfl) (SPath_call _ _ _ _ (by assumption) (by assumption) _ _ _ _ (by assumption) (by assumption)) ?_
        rintro r22 E23 L24 hE25 ⟨⟨z26, ⟨z27, ⟨z28, ⟨rfl, ⟨Z29, ⟨Z30, Z31⟩⟩⟩⟩⟩⟩, rfl⟩
        replace Z19 := Z19.mono hE25
        replace Z9 := Z9.mono hE25
        replace Z12 := Z12.mono hE25
        replace hT := hT.mono hE25
        replace hs := hs.mono hE25
        replace hq := hq.mono hE25
        replace hg0 := hg0.mono hE25
        replace Z5 := Z5.mono hE25
        replace hg1 := hg1.mono hE25
        refine Gm ?_
        refine Gv (V_extract rfl rfl rfl) ?_
        refine Gv (V_extract rfl rfl rfl) ?_
        refine Ga ?_
        refine Ga ?_
        refine G_end (X_then (G_seq (G_region ?_)))
        refine Gv (V_loadA rfl rfl (Cells.own (.tail _ (.head _))) rfl) ?_
        refine Gm ?_
        refine G_call (k := 12) (.mk rfl rfl rfl rfl) rfl rfl (.none rfl) (RPath_call _ _ _ _ (by assumption) (by assumption) _ _ _ _ (by assumption) (by assumption)) ?_
        rintro r32 E33 L34 hE35 ⟨⟨z36, ⟨z37, ⟨z38, ⟨rfl, ⟨Z39, ⟨Z40, Z41⟩⟩⟩⟩⟩⟩, rfl⟩
        replace Z29 := Z29.mono hE35
        replace Z19 := Z19.mono hE35
        replace Z9 := Z9.mono hE35
        replace Z12 := Z12.mono hE35
        replace hT := hT.mono hE35
        replace hs := hs.mono hE35
        replace hq := hq.mono hE35
        replace hg0 := hg0.mono hE35
        replace Z5 := Z5.mono hE35
        replace hg1 := hg1.mono hE35
        refine Gm ?_
        refine Gv (V_extract rfl rfl rfl) ?_
        refine Gv (V_extract rfl rfl rfl) ?_
        refine Ga ?_
        refine Ga ?_
        refine G_end (X_then (G_seq (G_region ?_)))
        refine Gm ?_
        refine G_call (k := 13) (.mk rfl rfl rfl rfl) rfl rfl (.none rfl) (SText_call' _ _ (by assumption) _ _ _ _ (by assumption) (by assumption)) ?_
        rintro r42 E43 L44 hE45 ⟨rfl, rfl⟩
        replace Z39 := Z39.mono hE45
        replace Z29 := Z29.mono hE45
        replace Z19 := Z19.mono hE45
        replace Z9 := Z9.mono hE45
        replace Z12 := Z12.mono hE45
        replace hT := hT.mono hE45
        replace hs := hs.mono hE45
        replace hq := hq.mono hE45
        replace hg0 := hg0.mono hE45
        replace Z5 := Z5.mono hE45
        replace hg1 := hg1.mono hE45
        refine Gm ?_
        refine Gv (V_extract rfl rfl rfl) ?_
        refine Gv (V_extract rfl rfl rfl) ?_
        refine Ga ?_
        refine Ga ?_
        refine G_end (X_then (G_seq (G_region ?_)))
        refine Gm ?_
        refine G_call (k := 14) (.mk rfl rfl rfl rfl) rfl rfl (.none rfl) (RText_call _ _ _ _ _ _ (by assumption) (by assumption)) ?_
        rintro r46 E47 L48 hE49 ⟨rfl, rfl⟩
        replace Z39 := Z39.mono hE49
        replace Z29 := Z29.mono hE49
        replace Z19 := Z19.mono hE49
        replace Z9 := Z9.mono hE49
        replace Z12 := Z12.mono hE49
        replace hT := hT.mono hE49
        replace hs := hs.mono hE49
        replace hq := hq.mono hE49
        replace hg0 := hg0.mono hE49
        replace Z5 := Z5.mono hE49
        replace hg1 := hg1.mono hE49
        refine Gm ?_
        refine Gv (V_extract rfl rfl rfl) ?_
        refine Gv (V_extract rfl rfl rfl) ?_
        refine Ga ?_
        refine Ga ?_
        refine G_end (X_then (G_seq (G_region ?_)))
        refine Gm ?_
        refine Gm ?_
        refine G_callv (k := 15) (.mk rfl rfl rfl rfl) rfl rfl (.none rfl) (SameInts_call' _ _ _ _ _ _ _ _ _ _ (by assumption) (by assumption) (by omega) (by omega)) ?_
        refine Gm ?_
        refine G.bool_t 76 rfl (by simp [*]; done) ?_
        refine Gy (V_move rfl rfl) ?_
        refine Gy (V_move rfl rfl) ?_
        refine Gy (V_eql rfl rfl rfl) ?_
        refine Gv (V_pick_t rfl rfl rfl) ?_
        refine Gm ?_
        refine G.bool_t 81 rfl (decide_eq_true (by omega)) ?_
        refine Gy (V_move rfl rfl) ?_
        refine Gy (V_move rfl rfl) ?_
        refine G_callv (k := 15) (.mk rfl rfl rfl rfl) rfl rfl (.yes rfl rfl rfl rfl) (SameInts_call' _ _ _ _ _ _ _ _ _ _ (by assumption) (by assumption) (by omega) (by omega)) ?_
        refine Gv (V_pick_t rfl rfl rfl) ?_
        refine Gm ?_
        refine G.bool_t 86 rfl (by simp [*]; done) ?_
        refine Gy (V_move rfl rfl) ?_
        refine Gy (V_move rfl rfl) ?_
        refine Gy (V_eql rfl rfl rfl) ?_
        refine Gv (V_pick_t rfl rfl rfl) ?_
        refine Gm ?_
        refine G.bool_t 91 rfl (decide_eq_true (by omega)) ?_
        refine Gy (V_move rfl rfl) ?_
        refine Gy (V_move rfl rfl) ?_
        refine Gy (V_seql rfl rfl rfl) ?_
        refine Gv (V_pick_t rfl rfl rfl) ?_
        refine Gm ?_
        refine G.bool_t 96 rfl (by simp [*]; done) ?_
        refine Gy (V_move rfl rfl) ?_
        refine Gy (V_move rfl rfl) ?_
        refine Gy (V_eql rfl rfl rfl) ?_
        refine Gv (V_pick_t rfl rfl rfl) ?_
        refine Gm ?_
        refine G.bool_t 101 rfl (decide_eq_true (by omega)) ?_
        refine Gy (V_move rfl rfl) ?_
        refine Gy (V_move rfl rfl) ?_
        refine G_callv (k := 16) (.mk rfl rfl rfl rfl) rfl rfl (.yes rfl rfl rfl rfl) (SSame_call _ _ _ _ _ _ _ _ _ _ (by assumption) (by assumption) (by omega) (by omega)) ?_
        refine Gy (V_move rfl rfl) ?_
        refine Gy (V_move rfl rfl) ?_
        refine G_callv (k := 17) (.mk rfl rfl rfl rfl) rfl rfl (.yes rfl rfl rfl rfl) (Same25_call _ _ _ _ _ _ _ _ _ _ (by assumption) (by assumption) (by omega) (by omega)) ?_
        refine Gy (V_beql rfl rfl rfl) ?_
        refine Gv (V_pick_t rfl rfl rfl) ?_
        refine Gm ?_
        refine G.bool_t 110 rfl (by simp [*]; done) ?_
        refine Gy (V_move rfl rfl) ?_
        refine Gy (V_move rfl rfl) ?_
        refine G_callv (k := 17) (.mk rfl rfl rfl rfl) rfl rfl (.yes rfl rfl rfl rfl) (Same25_call _ _ _ _ _ _ _ _ _ _ (by assumption) (by assumption) (by omega) (by omega)) ?_
        refine Gv (V_pick_t rfl rfl rfl) ?_
        refine Gm ?_
        refine G.bool_t 115 rfl (by simp [*]; done) ?_
        refine G_call (k := 6) (.mk rfl rfl rfl rfl) rfl rfl (.yes rfl rfl rfl rfl) (awake25_call _ _) ?_
        rintro r50 E51 L52 hE53 ⟨rfl, rfl⟩
        replace Z39 := Z39.mono hE53
        replace Z29 := Z29.mono hE53
        replace Z19 := Z19.mono hE53
        replace Z9 := Z9.mono hE53
        replace Z12 := Z12.mono hE53
        replace hT := hT.mono hE53
        replace hs := hs.mono hE53
        replace hq := hq.mono hE53
        replace hg0 := hg0.mono hE53
        replace Z5 := Z5.mono hE53
        replace hg1 := hg1.mono hE53
        refine Gv (V_pick_t rfl rfl rfl) ?_
        refine Ga ?_
        refine G_end (X_then (G_ret ?_))
        refine G_leaveS (.drop _ (.drop _ (.nil _))) (by exact (.cons (.tmp rfl) (.nil))) rfl ?_ ?_
        · exact ((((((((hE4.trans hE9).trans hE5).trans hE15).trans hE25).trans hE35).trans hE45).trans hE49).trans hE53)
        exact ⟨(by kernel_rfl), rfl⟩
      · refine G_seq ?_
        refine G_region ?_
        (refine G_boxA rfl rfl rfl rfl (.none rfl) ?_; intro b3)
        refine Ga ?_
        refine G_end (X_then (G_seq (G_seq (G_region ?_))))
        refine Gv (V_loadA rfl rfl (Cells.own (.head _)) rfl) ?_
        refine G_callv (k := 4) (.mk rfl rfl rfl rfl) rfl rfl (.none rfl) (LightGrammar_call _ _ _ _ (by assumption) (by assumption) (by assumption) (by assumption) (by assumption)) ?_
        refine Gv (V_not rfl rfl) ?_
        refine Gm ?_
        refine G.bool_f 24 rfl (by simp [*]; done) ?_
        refine Gy (V_move rfl rfl) ?_
        refine G_callv (k := 5) (.mk rfl rfl rfl rfl) rfl rfl (.yes rfl rfl rfl rfl) (light25_call _ _ _ _ _) ?_
        refine Gy (V_not rfl rfl) ?_
        refine Gv (V_pick_f rfl rfl rfl) ?_
        refine Gm ?_
        refine G.bool_f 29 rfl (by simp [*]; done) ?_
        refine Gy (V_move rfl rfl) ?_
        refine G_callv (k := 5) (.mk rfl rfl rfl rfl) rfl rfl (.yes rfl rfl rfl rfl) (light25_call _ _ _ _ _) ?_
        refine Gy (V_not rfl rfl) ?_
        refine Gv (V_pick_f rfl rfl rfl) ?_
        refine G_end (X_then ?_)
        refine G_cond_t rfl (by simp [*]; done) ?_
        refine G_seq (G_region ?_)
        refine G_call (k := 6) (.mk rfl rfl rfl rfl) rfl rfl (.none rfl) (awake25_call _ _) ?_
        rintro r1 E2 L3 hE4 ⟨rfl, rfl⟩
        replace hT := hT.mono hE4
        replace hs := hs.mono hE4
        replace hq := hq.mono hE4
        replace hg0 := hg0.mono hE4
        refine Ga ?_
        refine G_end (X_then (G_ret (X_then_ret ?_)))
        refine G_leaveS (.drop _ (.nil _)) (by exact (.cons (.tmp rfl) (.nil))) rfl ?_ ?_
        · exact hE4
        exact ⟨(by kernel_rfl), rfl⟩
    · refine G_seq ?_
      refine G_region ?_
      (refine G_boxA rfl rfl rfl rfl (.none rfl) ?_; intro b3)
      refine Ga ?_
      refine G_end (X_then (G_seq (G_seq (G_region ?_))))
      refine Gv (V_loadA rfl rfl (Cells.own (.head _)) rfl) ?_
      refine G_callv (k := 4) (.mk rfl rfl rfl rfl) rfl rfl (.none rfl) (LightGrammar_call _ _ _ _ (by assumption) (by assumption) (by assumption) (by assumption) (by assumption)) ?_
      refine Gv (V_not rfl rfl) ?_
      refine Gm ?_
      refine G.bool_f 24 rfl (by simp [*]; done) ?_
      refine Gy (V_move rfl rfl) ?_
      refine G_callv (k := 5) (.mk rfl rfl rfl rfl) rfl rfl (.yes rfl rfl rfl rfl) (light25_call _ _ _ _ _) ?_
      refine Gy (V_not rfl rfl) ?_
      refine Gv (V_pick_f rfl rfl rfl) ?_
      refine Gm ?_
      refine G.bool_t 29 rfl (by simp [*]; done) ?_
      refine Gn ?_
      refine Gn ?_
      refine Gn ?_
      refine Gv (V_pick_t rfl rfl rfl) ?_
      refine G_end (X_then ?_)
      refine G_cond_t rfl rfl ?_
      refine G_seq (G_region ?_)
      refine G_call (k := 6) (.mk rfl rfl rfl rfl) rfl rfl (.none rfl) (awake25_call _ _) ?_
      rintro r1 E2 L3 hE4 ⟨rfl, rfl⟩
      replace hT := hT.mono hE4
      replace hs := hs.mono hE4
      replace hq := hq.mono hE4
      replace hg0 := hg0.mono hE4
      refine Ga ?_
      refine G_end (X_then (G_ret (X_then_ret ?_)))
      refine G_leaveS (.drop _ (.nil _)) (by exact (.cons (.tmp rfl) (.nil))) rfl ?_ ?_
      · exact hE4
      exact ⟨(by kernel_rfl), rfl⟩
end
end Go.Proofs.YtaibabmladgldaaDoor
namespace Go.Proofs.YtaibabmladgldaaDoor
open Go.RowKit
section
variable {P : Program} {ro : Option Nat} {n : Nat} {ds : List Deferred} {fs : List (Nat × Value)} {E : Env} {L : List Res} {ops : Array Oper} {Q : Exit → Act → World → Prop} {rest : List Oper} {o : Oper}
end
/-- What the row says of a variable that it lays. -/
theorem laid_get {P : Program} {laid : List (String × DataW Unit)} {W : World} (h : laidMet P laid W) {x : String} {d : DataW Unit} (hm : (x, d) ∈ laid) {g : Nat} {t : TypeId} (hg : P.globalNamed x = some g) (ht : (P.globals[g]?).map (·.type) = some t) :
    ∃ (cs : Array Value) (fuel : Nat) (p : List MemPlace), (∀ i, W.cell? ⟨g, i, none⟩ = cs[i]?) ∧ DataW.trod (fun _ => ()) P W 0 (fun _ => true) false fuel t cs.toList = some (d, p) := by
  obtain ⟨ps, hv, x1, x2⟩ := h
  clear x1 x2
  induction laid generalizing ps with
  | nil => cases hm
  | cons y r ih =>
    obtain ⟨n, d0⟩ := y
    obtain ⟨g', t', cs, fuel, p, q, hg', ht', hv', hd', hr, _⟩ := hv
    rcases List.mem_cons.1 hm with e | hm
    · cases e
      obtain rfl := Option.some.inj (hg.symm.trans hg')
      obtain rfl := Option.some.inj (ht.symm.trans ht')
      exact ⟨cs, fuel, p, World.var?_cell hg hv', hd'⟩
    · exact ih hm _ hr
/-- One cell of memory, as a frozen slice of one. -/
theorem SlE.ofCells {W : World} {g k n : Nat} {vals : List Value} (hl : vals.length = n) (h : ∀ j v, vals[j]? = some v → W.cell? ⟨g, k + j, none⟩ = some v) : SlE (Env.of W) 1 (some ⟨g, k, none⟩) n vals := by
  refine ⟨by simpa using hl, .inr ⟨_, rfl, .inl rfl, fun j v hj => ?_⟩⟩
  have e : (⟨g, k, none⟩ : Addr).add j = ⟨g, k + j, none⟩ := by unfold Addr.add; split <;> simp_all
  rw [e]
  exact Env.of_cell (h j v hj)
end Go.Proofs.YtaibabmladgldaaDoor
namespace Go.Proofs.YtaibabmladgldaaDoor
open Go.RowKit
variable {H : Type} {enc : TypeId × Value → H} {P : Program} {W : World} {base : Nat} {sp : Nat → Bool} {held : Bool} {laid : List (String × DataW Unit)}
/-- A variable that the row lays holds some value of an interface. -/
def LaidI (E : Env) (g : Nat) : Prop := ∃ t v, SlE E 1 (some ⟨g, 0, none⟩) 1 [.iface t v] ∨ SlE E 1 (some ⟨g, 0, none⟩) 1 [.nilIface]
theorem LaidI.mono {E E' : Env} {g : Nat} (h : LaidI E g) (hE : E.Le E') : LaidI E' g := by
  obtain ⟨t, v, h⟩ := h
  exact ⟨t, v, h.imp (·.mono hE) (·.mono hE)⟩
/-- A table of numbers. -/
theorem laid_ints {x : String} {k : IntKind} {l : List Int} {g m : Nat} {t e : TypeId} (h : laidMet P laid W) (hm : (x, DataW.agg (l.map fun n => .lit (.int k n))) ∈ laid) (hg : P.globalNamed x = some g) (ht : (P.globals[g]?).map (·.type) = some t)
    (hu : P.underlying t = some (.array m e)) (he : P.underlying e = some (.int k)) (hce : P.cellsOf e = 1) {i j n : Nat} (hj : i + n = j) (hl : j ≤ l.length) : SlE (Env.of W) 1 (some ⟨g, i, none⟩) n (((l.drop i).take n).map (.int k ·)) := by
  obtain ⟨cs, fuel, p, hc, hd⟩ := laid_get h hm hg ht
  obtain ⟨xs, m', _, ex, _, hxl, hel⟩ := DataW.trod_array hu hd
  have e3 : l.map (fun n => DataW.lit (H := Unit) (.int k n)) = xs.map (·.1) := by have := (Prod.mk.inj ex).1; injection this
  have hlx : xs.length = l.length := by have := congrArg List.length e3; simpa using this.symm
  refine SlE.ofCells (by simp; omega) fun q v hq => ?_
  have hq1 : q < n := by have := (List.getElem?_eq_some_iff.1 hq).1; simp at this; omega
  have hlt : i + q < l.length := by omega
  rw [List.getElem?_map, List.getElem?_take_of_lt hq1, List.getElem?_drop, List.getElem?_eq_getElem hlt, Option.map_some] at hq
  cases hq
  have hE := hel (i + q) (by omega)
  rw [hce, List.getElem?_eq_getElem (by omega)] at hE
  obtain ⟨z, e1, e2, _⟩ := DataW.trod_int he hE
  have e4 : (l.map (fun n => DataW.lit (H := Unit) (.int k n)))[i + q]? = (xs.map (·.1))[i + q]? := by rw [e3]
  rw [List.getElem?_map, List.getElem?_map, List.getElem?_eq_getElem hlt, List.getElem?_eq_getElem (by omega), Option.map_some, Option.map_some, e2] at e4
  have e5 : l[i + q] = z := by simpa using e4
  rw [hc (i + q), ← Array.getElem?_toList, e5]
  have : ((cs.toList.drop ((i + q) * 1)).take 1)[0]? = some (.int k z) := by rw [e1]; rfl
  simpa using this
end Go.Proofs.YtaibabmladgldaaDoor
namespace Go.Proofs.YtaibabmladgldaaDoor
open Go.RowKit
/-! What the row lays for texts of numbers. LAID internal/strconv.uint64pow10 -/
abbrev pow10s : List Int := [1, 10, 100, 1000, 10000, 100000, 1000000, 10000000, 100000000, 1000000000, 10000000000, 100000000000, 1000000000000, 10000000000000, 100000000000000, 1000000000000000, 10000000000000000, 100000000000000000, 1000000000000000000, 10000000000000000000]
abbrev RowLaid (E : Env) : Prop := LaidP E
theorem rowLaid {W : World} {laid : List (String × DataW Unit)} (h : laidMet Tryd.prog laid W) (h0 : ("internal/strconv.uint64pow10", DataW.agg (pow10s.map fun n => .lit (.int .u64 n))) ∈ laid) : RowLaid (Env.of W) :=
  ⟨laid_ints (i := 2) (j := 4) (n := 2) h h0 (show Tryd.prog.globalNamed "internal/strconv.uint64pow10" = some 0 by kernel_rfl) (show (Tryd.prog.globals[0]?).map (·.type) = some 109 by kernel_rfl) Tryd.underlying109 Tryd.underlying95 (by kernel_rfl) rfl (by decide)⟩
end Go.Proofs.YtaibabmladgldaaDoor
namespace Go.Proofs.YtaibabmladgldaaDoor
/-! What the row of StackLooks needs, together. -/
end Go.Proofs.YtaibabmladgldaaDoor
