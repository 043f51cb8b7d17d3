/-
  Rules and contracts, packed: D31, D30.
-/
import Derived.Test.YtaoinojdijbhaaaQ8
set_option maxHeartbeats 1000000
set_option linter.unusedSimpArgs false
set_option linter.unusedVariables false
set_option maxHeartbeats 2000000
set_option maxRecDepth 20000
namespace Go.Proofs.Ytaoinojdijbhaaa
open Go.RowKit
theorem reach_self {g : Gr} (hv : Valid g) {m : Int} (h0 : 0 ≤ m) (h1 : m < g.names.length) : bget (belowM g m) (16 + m) = true :=
  (reachL_iff hv.wf (by omega) (by omega) (by omega)).2 .refl
theorem Rch.trans {ps : List Pr} {a b c : Int} (h1 : Rch ps a b) (h2 : Rch ps b c) : Rch ps a c := by
  induction h2 with
  | refl => exact h1
  | step _ hp hs h16 ih => exact ih.step hp hs h16
theorem reach_trans {g : Gr} (hv : Valid g) {m i k : Int} (h0 : 0 ≤ m) (h1 : m < g.names.length) (i0 : 0 ≤ i) (i1 : i < g.names.length) (k0 : 0 ≤ k) (hi : bget (belowM g m) (16 + i) = true) (hk : bget (belowM g i) (16 + k) = true) : bget (belowM g m) (16 + k) = true :=
  (reachL_iff hv.wf (by omega) (by omega) (by omega)).2 (((reachL_iff hv.wf (by omega) (by omega) (by omega)).1 hi).trans ((reachL_iff hv.wf (by omega) (by omega) (by omega)).1 hk))
theorem below_start {g : Gr} : belowM g (g.start - 16) = reachM g := by rw [belowM, reachM]; congr 1; omega
theorem below_len {g : Gr} (hv : Valid g) {m : Int} (h0 : 0 ≤ m) (h1 : m < g.names.length) : (belowM g m).length = g.names.length := reachL_len hv.wf (by omega) (by omega)
theorem bget_at {l : List Bool} {i : Nat} (h : i < l.length) : (bools l)[i]? = some (.bool (bget l (16 + (i : Int)))) := by
  have e : (16 + (i : Int) - 16).toNat = i := by omega
  simp [bools, bget, e, h]
section
variable (E : Env) (L : List Res)
theorem Below10_call (p q : Option Addr) (c d : Nat) (xs ys : List Int) (m : Int) (hx : SlE E 1 p xs.length (i64s xs)) (hn : xs.length ≤ 9223372036854775807) (hb : ∀ n, n ∈ xs → -9223372036854775808 ≤ n ∧ n ≤ 9223372036854775807)
    (hy : SlE E 1 q ys.length (i64s ys)) (hn2 : ys.length ≤ 9223372036854775807) (hb2 : ∀ n, n ∈ ys → -9223372036854775808 ≤ n ∧ n ≤ 9223372036854775807) (hm : -9223372036854775808 ≤ m ∧ m ≤ 9223372036854775807) :
    CallV Try.prog 8 #[.slice p xs.length c, .int .i64 m, .slice q ys.length d] E L (.bool true) := by
  refine CallS.toV (CallS.intro (l := [_, _, _]) _ Try.func8 rfl Try.ntmps8 rfl ?_)
  refine G_seq (G_region ?_)
  refine G_val (V_assign rfl rfl) rfl rfl (.none rfl) ?_
  refine G_end (X_then (G_seq (G_region ?_)))
  refine G_callv (k := 6) (.mk rfl rfl rfl rfl) rfl rfl (.none rfl) (Known_call _ _) ?_
  refine G_val (V_assign rfl rfl) rfl rfl (.none rfl) ?_
  refine G_end (X_then (G_seq (G_region ?_)))
  refine G_val (V_move rfl rfl) rfl rfl (.none rfl) ?_
  refine G_call (k := 14) (.mk rfl rfl rfl rfl) rfl rfl (.none rfl) (Any_call _ _ _ _ _ (by assumption) (by assumption) (by assumption)) ?_
  rintro r1 E2 L3 hE4 ⟨z5, ⟨Z6, ⟨Z7, ⟨Z8, rfl⟩⟩⟩⟩
  replace hx := hx.mono hE4
  replace hy := hy.mono hE4
  (refine G_alloc rfl rfl rfl (.none rfl) ?_; intro b8)
  have hgr : GrE E2 r1 z5 := by assumption
  have hl : Light z5 := by assumption
  have hc : gcheck z5 = 0 := by assumption
  have hg0 := hgr
  obtain ⟨tp, tc, np, nc, pp, pc, rfl, ht, hnm, ⟨rows, hrows, hps, hre⟩, k1, k2, k3⟩ := hgr
  have hlen : z5.prods.length = rows.length := by rw [← hrows]; simp
  have q1 := hl.t; have q2 := hl.n; have q3 := hl.p
  have hv := valid_of hc
  have hst := hv.start
  have hnn := hv.names
  have hbs := below_start (g := z5)
  refine G_storeA rfl rfl rfl rfl (by simp [Value.oneCell']) rfl (.none rfl) (.head _ _ _) rfl ?_
  refine G_end (X_then (G_seq (G_region ?_)))
  refine G_val (V_loadA rfl rfl (Cells.own (.head _)) rfl) rfl rfl (.none rfl) ?_
  refine G_call (k := 54) (.mk rfl rfl rfl rfl) rfl rfl (.none rfl) (tells_call _ _ _ _ (by assumption) (by assumption) (by assumption)) ?_
  rintro r1 E3 L4 hE5 ⟨z6, ⟨z7, ⟨z8, ⟨z9, ⟨z10, ⟨z11, ⟨z12, ⟨z13, ⟨z14, ⟨z15, ⟨rfl, ⟨Z16, ⟨Z17, ⟨Z18, ⟨Z19, ⟨Z20, rfl⟩⟩⟩⟩⟩⟩⟩⟩⟩⟩⟩⟩⟩⟩⟩⟩
  replace hx := hx.mono hE5
  replace hy := hy.mono hE5
  replace Z6 := Z6.mono hE5
  replace hg0 := hg0.mono hE5
  replace ht := ht.mono hE5
  replace hnm := hnm.mono hE5
  replace hps := hps.mono hE5
  refine G_val (V_move rfl rfl) rfl rfl (.none rfl) ?_
  refine G_val (V_extract rfl rfl rfl) rfl rfl (.none rfl) ?_
  refine G_val (V_extract rfl rfl rfl) rfl rfl (.none rfl) ?_
  refine G_val (V_extract rfl rfl rfl) rfl rfl (.none rfl) ?_
  refine G_val (V_extract rfl rfl rfl) rfl rfl (.none rfl) ?_
  refine G_val (V_extract rfl rfl rfl) rfl rfl (.none rfl) ?_
  refine G_val (V_extract rfl rfl rfl) rfl rfl (.none rfl) ?_
  refine G_val (V_assign rfl rfl) rfl rfl (.none rfl) ?_
  refine G_val (V_assign rfl rfl) rfl rfl (.none rfl) ?_
  refine G_val (V_assign rfl rfl) rfl rfl (.none rfl) ?_
  refine G_val (V_assign rfl rfl) rfl rfl (.none rfl) ?_
  refine G_val (V_assign rfl rfl) rfl rfl (.none rfl) ?_
  refine G_val (V_assign rfl rfl) rfl rfl (.none rfl) ?_
  refine G_end (X_then (G_seq (G_seq (G_region ?_))))
  refine G_val (V_move rfl rfl) rfl rfl (.none rfl) ?_
  refine G_val (V_not rfl rfl) rfl rfl (.none rfl) ?_
  refine G_val (V_move rfl rfl) rfl rfl (.none rfl) ?_
  refine G.bool_f 43 rfl (by kernel_rfl) ?_
  refine G_val (V_fieldAddr rfl rfl (by decide)) rfl rfl (.yes rfl rfl rfl rfl) ?_
  refine G_val (V_load rfl rfl (Cell.own (.head _) rfl)) rfl rfl (.yes rfl rfl rfl rfl) ?_
  refine G_val (V_lenS rfl rfl) rfl rfl (.yes rfl rfl rfl rfl) ?_
  refine G_val (V_eql rfl rfl rfl) rfl rfl (.yes rfl rfl rfl rfl) ?_
  refine G_val (V_pick_f rfl rfl rfl) rfl rfl (.none rfl) ?_
  refine G_end (X_then ?_)
  refine G_cond_f rfl (decide_eq_false (by omega)) ?_
  refine G_skip (X_then (G_seq (G_region ?_)))
  refine G_val (V_loadA rfl rfl (Cells.own (.head _)) rfl) rfl rfl (.none rfl) ?_
  refine G_val (V_fieldAddr rfl rfl (by decide)) rfl rfl (.none rfl) ?_
  refine G_val (V_load rfl rfl (Cell.own (.head _) rfl)) rfl rfl (.none rfl) ?_
  refine G_val (V_sub_i64 rfl rfl rfl (by omega) (by omega)) rfl rfl (.none rfl) ?_
  refine G_call (k := 48) (.mk rfl rfl rfl rfl) rfl rfl (.none rfl) (Below_call' _ _ _ _ (by assumption) (by assumption) _ (by assumption) (by omega) (by omega)) ?_
  rintro r21 E22 L23 hE24 ⟨z25, ⟨z26, ⟨rfl, ⟨Z27, rfl⟩⟩⟩⟩
  replace Z16 := Z16.mono hE24
  replace Z17 := Z17.mono hE24
  replace Z18 := Z18.mono hE24
  replace Z19 := Z19.mono hE24
  replace Z20 := Z20.mono hE24
  replace hx := hx.mono hE24
  replace hy := hy.mono hE24
  replace Z6 := Z6.mono hE24
  replace hg0 := hg0.mono hE24
  replace ht := ht.mono hE24
  replace hnm := hnm.mono hE24
  replace hps := hps.mono hE24
  refine G_val (V_move rfl rfl) rfl rfl (.none rfl) ?_
  refine G_val (V_extract rfl rfl rfl) rfl rfl (.none rfl) ?_
  refine G_val (V_extract rfl rfl rfl) rfl rfl (.none rfl) ?_
  refine G_val (V_assign rfl rfl) rfl rfl (.none rfl) ?_
  refine G_val (V_assign rfl rfl) rfl rfl (.none rfl) ?_
  refine G_end (X_then (G_seq (G_region ?_)))
  refine G_val (V_move rfl rfl) rfl rfl (.none rfl) ?_
  refine G_val (V_fieldAddr rfl rfl (by decide)) rfl rfl (.none rfl) ?_
  refine G_val (V_load rfl rfl (Cell.own (.head _) rfl)) rfl rfl (.none rfl) ?_
  refine G_val (V_lenS rfl rfl) rfl rfl (.none rfl) ?_
  refine G_call (k := 19) (.mk rfl rfl rfl rfl) rfl rfl (.none rfl) (Mod_call'' _ _ _ _ (by assumption) (by omega)) ?_
  rintro r28 E29 L30 hE31 ⟨z32, ⟨rfl, ⟨Z33, ⟨rfl, rfl⟩⟩⟩⟩
  replace Z27 := Z27.mono hE31
  replace Z16 := Z16.mono hE31
  replace Z17 := Z17.mono hE31
  replace Z18 := Z18.mono hE31
  replace Z19 := Z19.mono hE31
  replace Z20 := Z20.mono hE31
  replace hx := hx.mono hE31
  replace hy := hy.mono hE31
  replace Z6 := Z6.mono hE31
  replace hg0 := hg0.mono hE31
  replace ht := ht.mono hE31
  replace hnm := hnm.mono hE31
  replace hps := hps.mono hE31
  refine G_val (V_assign rfl rfl) rfl rfl (.none rfl) ?_
  refine G_end (X_then (G_seq (G_region ?_)))
  refine G_val (V_loadA rfl rfl (Cells.own (.head _)) rfl) rfl rfl (.none rfl) ?_
  refine G_val (V_move rfl rfl) rfl rfl (.none rfl) ?_
  refine G_call (k := 48) (.mk rfl rfl rfl rfl) rfl rfl (.none rfl) (Below_call' _ _ _ _ (by assumption) (by assumption) _ (by assumption) (by omega) (by assumption)) ?_
  rintro r34 E35 L36 hE37 ⟨z38, ⟨z39, ⟨rfl, ⟨Z40, rfl⟩⟩⟩⟩
  replace Z27 := Z27.mono hE37
  replace Z16 := Z16.mono hE37
  replace Z17 := Z17.mono hE37
  replace Z18 := Z18.mono hE37
  replace Z19 := Z19.mono hE37
  replace Z20 := Z20.mono hE37
  replace hx := hx.mono hE37
  replace hy := hy.mono hE37
  replace Z6 := Z6.mono hE37
  replace hg0 := hg0.mono hE37
  replace ht := ht.mono hE37
  replace hnm := hnm.mono hE37
  replace hps := hps.mono hE37
  refine G_val (V_move rfl rfl) rfl rfl (.none rfl) ?_
  refine G_val (V_extract rfl rfl rfl) rfl rfl (.none rfl) ?_
  refine G_val (V_extract rfl rfl rfl) rfl rfl (.none rfl) ?_
  refine G_val (V_assign rfl rfl) rfl rfl (.none rfl) ?_
  refine G_val (V_assign rfl rfl) rfl rfl (.none rfl) ?_
  refine G_end (X_then (G_seq (G_seq (G_region ?_))))
  refine G_val (V_move rfl rfl) rfl rfl (.none rfl) ?_
  refine G_val (V_neq rfl rfl rfl) rfl rfl (.none rfl) ?_
  refine G_val (V_move rfl rfl) rfl rfl (.none rfl) ?_
  refine G.bool_f 70 rfl (by kernel_rfl) ?_
  refine G_val (V_move rfl rfl) rfl rfl (.yes rfl rfl rfl rfl) ?_
  refine G_val (V_neq rfl rfl rfl) rfl rfl (.yes rfl rfl rfl rfl) ?_
  refine G_val (V_pick_f rfl rfl rfl) rfl rfl (.none rfl) ?_
  refine G_val (V_move rfl rfl) rfl rfl (.none rfl) ?_
  refine G.bool_f 74 rfl (by kernel_rfl) ?_
  refine G_val (V_move rfl rfl) rfl rfl (.yes rfl rfl rfl rfl) ?_
  refine G_val (V_move rfl rfl) rfl rfl (.yes rfl rfl rfl rfl) ?_
  refine G_callv (k := 35) (.mk rfl rfl rfl rfl) rfl rfl (.yes rfl rfl rfl rfl) (same_call _ _ _ _ _ _ _ _ _ _ (by assumption) (by assumption) (by omega) (by omega)) ?_
  refine G_val (V_not rfl rfl) rfl rfl (.yes rfl rfl rfl rfl) ?_
  refine G_val (V_pick_f rfl rfl rfl) rfl rfl (.none rfl) ?_
  refine G_val (V_move rfl rfl) rfl rfl (.none rfl) ?_
  refine G.bool_f 80 rfl (by simp [*]; done) ?_
  refine G_val (V_move rfl rfl) rfl rfl (.yes rfl rfl rfl rfl) ?_
  refine G_val (V_lenS rfl rfl) rfl rfl (.yes rfl rfl rfl rfl) ?_
  refine G_val (V_fieldAddr rfl rfl (by decide)) rfl rfl (.yes rfl rfl rfl rfl) ?_
  refine G_val (V_load rfl rfl (Cell.own (.head _) rfl)) rfl rfl (.yes rfl rfl rfl rfl) ?_
  refine G_val (V_lenS rfl rfl) rfl rfl (.yes rfl rfl rfl rfl) ?_
  refine G_val (V_neq rfl rfl rfl) rfl rfl (.yes rfl rfl rfl rfl) ?_
  refine G_val (V_pick_f rfl rfl rfl) rfl rfl (.none rfl) ?_
  refine G_val (V_move rfl rfl) rfl rfl (.none rfl) ?_
  refine G.bool_f 88 rfl (decide_eq_false (by omega)) ?_
  refine G_val (V_move rfl rfl) rfl rfl (.yes rfl rfl rfl rfl) ?_
  refine G_val (V_move rfl rfl) rfl rfl (.yes rfl rfl rfl rfl) ?_
  refine G_val (V_idxAddr rfl rfl rfl (SlE.rd (by assumption)) (by omega) (by omega)) rfl rfl (.yes rfl rfl rfl rfl) ?_
  have hz : (z32 : Int) < z5.names.length := by omega
  have hbl := below_len hv (m := z32) (by omega) hz
  have f1 := bget_at (l := belowM z5 z32) (i := z32) (by omega)
  rw [reach_self hv (by omega) hz] at f1
  refine G_val (V_loadS rfl rfl (SlE.rd (by assumption)) (by assumption) (by simp)) rfl rfl (.yes rfl rfl rfl rfl) ?_
  refine G_val (V_not rfl rfl) rfl rfl (.yes rfl rfl rfl rfl) ?_
  refine G_val (V_pick_f rfl rfl rfl) rfl rfl (.none rfl) ?_
  refine G_end (X_then ?_)
  refine G_cond_f rfl (by kernel_rfl) ?_
  refine G_skip (X_then (G_seq (G_seq (G_region ?_))))
  refine G_val (V_assign rfl rfl) rfl rfl (.none rfl) ?_
  refine G_end (X_then (G_block ?_))
  have sl : SlE E35 1 z38 z5.names.length (bools (belowM z5 z32)) := by assumption
  have sn : SlE E35 1 z8 z5.names.length (bools (nullM z5)) := by assumption
  have hyy : SlE E35 1 q ys.length (i64s ys) := by assumption
  have hg1 : GrE E35 (.agg #[.int .i64 z5.k, .slice tp z5.toks.length tc, .string (S z5.sep), .slice np z5.names.length nc, .int .i64 z5.start, .slice pp z5.prods.length pc]) z5 := by assumption
  clear hg0 ht hnm hps hre hx hy
  refine G_loop (α := Nat × Env) (fun x => [(2, .slice q ys.length d), (7, .bool true), (8, .pointer (some ⟨b8, 0, none⟩)), (10, .slice z8 z5.names.length z9), (17, .slice z38 z5.names.length z39), (19, .int .i64 x.1)]) (fun x => x.2)
    (fun _ => GB b8 z5 tp tc np nc pp pc :: L3) (fun x => E35.Le x.2 ∧ x.1 ≤ z5.names.length) (fun x => z5.names.length - x.1) (0, E35) ⟨.refl _, Nat.zero_le _⟩ ⟨rfl, rfl, rfl, rfl, rfl, rfl, trivial⟩ rfl rfl ?_
  rintro ⟨i, E1⟩ ⟨hE, hi⟩
  simp only at hE hi ⊢
  replace sl := sl.mono hE
  replace sn := sn.mono hE
  replace hyy := hyy.mono hE
  replace hg1 := hg1.mono hE
  by_cases hlt : i < z5.names.length
  · refine G_seq ?_
    refine G_seq (G_region ?_)
    refine G_val (V_move rfl rfl) rfl rfl (.none rfl) ?_
    refine G_val (V_move rfl rfl) rfl rfl (.none rfl) ?_
    refine G_val (V_lenS rfl rfl) rfl rfl (.none rfl) ?_
    refine G_val (V_lss rfl rfl rfl) rfl rfl (.none rfl) ?_
    refine G_end (X_then ?_)
    refine G_cond_t rfl (decide_eq_true (by omega)) ?_
    refine G_skip (X_then (G_seq (G_block (G_seq (G_region ?_)))))
    refine G_val (V_loadA rfl rfl (Cells.own (.head _)) rfl) rfl rfl (.none rfl) ?_
    refine G_val (V_move rfl rfl) rfl rfl (.none rfl) ?_
    refine G_call (k := 48) (.mk rfl rfl rfl rfl) rfl rfl (.none rfl) (Below_call' _ _ _ _ (by assumption) (by assumption) _ (by assumption) (by omega) (by omega)) ?_
    rintro r1 E4 L5 hE6 ⟨z16, ⟨z17, ⟨rfl, ⟨Z21, rfl⟩⟩⟩⟩
    replace sl := sl.mono hE6
    replace sn := sn.mono hE6
    replace hyy := hyy.mono hE6
    replace hg1 := hg1.mono hE6
    refine G_val (V_move rfl rfl) rfl rfl (.none rfl) ?_
    refine G_val (V_extract rfl rfl rfl) rfl rfl (.none rfl) ?_
    refine G_val (V_extract rfl rfl rfl) rfl rfl (.none rfl) ?_
    refine G_val (V_assign rfl rfl) rfl rfl (.none rfl) ?_
    refine G_val (V_assign rfl rfl) rfl rfl (.none rfl) ?_
    refine G_end (X_then (G_seq (G_seq (G_region ?_))))
    refine G_val (V_move rfl rfl) rfl rfl (.none rfl) ?_
    refine G_val (V_neq rfl rfl rfl) rfl rfl (.none rfl) ?_
    refine G_val (V_move rfl rfl) rfl rfl (.none rfl) ?_
    refine G.bool_f 109 rfl (by kernel_rfl) ?_
    refine G_val (V_move rfl rfl) rfl rfl (.yes rfl rfl rfl rfl) ?_
    refine G_val (V_lenS rfl rfl) rfl rfl (.yes rfl rfl rfl rfl) ?_
    refine G_val (V_move rfl rfl) rfl rfl (.yes rfl rfl rfl rfl) ?_
    refine G_val (V_lenS rfl rfl) rfl rfl (.yes rfl rfl rfl rfl) ?_
    refine G_val (V_neq rfl rfl rfl) rfl rfl (.yes rfl rfl rfl rfl) ?_
    refine G_val (V_pick_f rfl rfl rfl) rfl rfl (.none rfl) ?_
    refine G_end (X_then ?_)
    refine G_cond_f rfl (decide_eq_false (by omega)) ?_
    refine G_skip (X_then (G_seq (G_region ?_)))
    refine G_val (V_assign rfl rfl) rfl rfl (.none rfl) ?_
    refine G_end (X_then (G_block ?_))
    refine G_loop (α := Nat) (fun k => [(2, .slice q ys.length d), (7, .bool true), (8, .pointer (some ⟨b8, 0, none⟩)), (10, .slice z8 z5.names.length z9), (17, .slice z38 z5.names.length z39), (19, .int .i64 i), (20, .slice z16 z5.names.length z17), (22, .int .i64 k)]) (fun _ => E4)
      (fun _ => GB b8 z5 tp tc np nc pp pc :: L3) (fun k => k ≤ z5.names.length) (fun k => z5.names.length - k) 0 (Nat.zero_le _) ⟨rfl, rfl, rfl, rfl, rfl, rfl, rfl, rfl, trivial⟩ rfl rfl ?_
    intro k hk
    by_cases hlt2 : k < z5.names.length
    · have f1 := bget_at (l := belowM z5 z32) (i := i) (by omega)
      have f2 := bget_at (l := belowM z5 i) (i := k) (by rw [below_len hv (by omega) (by omega)]; exact hlt2)
      have f3 := bget_at (l := belowM z5 z32) (i := k) (by omega)
      cases b1 : bget (belowM z5 z32) (16 + (i : Int)) with
      | false =>
        rw [b1] at f1
        refine G_seq (G_seq (G_region ?_))
        refine G_val (V_move rfl rfl) rfl rfl (.none rfl) ?_
        refine G_val (V_move rfl rfl) rfl rfl (.none rfl) ?_
        refine G_val (V_lenS rfl rfl) rfl rfl (.none rfl) ?_
        refine G_val (V_lss rfl rfl rfl) rfl rfl (.none rfl) ?_
        refine G_end (X_then ?_)
        refine G_cond_t rfl (decide_eq_true (by omega)) ?_
        refine G_skip (X_then (G_seq (G_block (G_seq (G_region ?_)))))
        refine G_val (V_move rfl rfl) rfl rfl (.none rfl) ?_
        refine G_val (V_move rfl rfl) rfl rfl (.none rfl) ?_
        refine G_val (V_idxAddr rfl rfl rfl (SlE.rd (by assumption)) (by omega) (by omega)) rfl rfl (.none rfl) ?_
        refine G_val (V_loadS rfl rfl (SlE.rd (by assumption)) f1 (by simp)) rfl rfl (.none rfl) ?_
        refine G_val (V_move rfl rfl) rfl rfl (.none rfl) ?_
        refine G_stay (.no rfl rfl rfl rfl) rfl rfl ?_
        refine G_stay (.no rfl rfl rfl rfl) rfl rfl ?_
        refine G_stay (.no rfl rfl rfl rfl) rfl rfl ?_
        refine G_stay (.no rfl rfl rfl rfl) rfl rfl ?_
        refine G_val (V_pick_f rfl rfl rfl) rfl rfl (.none rfl) ?_
        refine G_val (V_move rfl rfl) rfl rfl (.none rfl) ?_
        refine G_stay (.no rfl rfl rfl rfl) rfl rfl ?_
        refine G_stay (.no rfl rfl rfl rfl) rfl rfl ?_
        refine G_stay (.no rfl rfl rfl rfl) rfl rfl ?_
        refine G_stay (.no rfl rfl rfl rfl) rfl rfl ?_
        refine G_stay (.no rfl rfl rfl rfl) rfl rfl ?_
        refine G_val (V_pick_f rfl rfl rfl) rfl rfl (.none rfl) ?_
        refine G_end (X_then ?_)
        refine G_cond_f rfl rfl ?_
        refine G_skip (X_block (X_then (G_region ?_)))
        refine G_val (V_move rfl rfl) rfl rfl (.none rfl) ?_
        refine G_val (V_add_i64 rfl rfl rfl (by omega) (by omega)) rfl rfl (.none rfl) ?_
        refine G_val (V_assign rfl rfl) rfl rfl (.none rfl) ?_
        refine G_end (X_then ?_)
        exact G_again (k + 1) hlt2 (by omega) ⟨rfl, rfl, rfl, rfl, rfl, rfl, rfl, rfl, trivial⟩ rfl rfl
      | true =>
        rw [b1] at f1
        cases b2 : bget (belowM z5 i) (16 + (k : Int)) with
        | false =>
          rw [b2] at f2
          refine G_seq (G_seq (G_region ?_))
          refine G_val (V_move rfl rfl) rfl rfl (.none rfl) ?_
          refine G_val (V_move rfl rfl) rfl rfl (.none rfl) ?_
          refine G_val (V_lenS rfl rfl) rfl rfl (.none rfl) ?_
          refine G_val (V_lss rfl rfl rfl) rfl rfl (.none rfl) ?_
          refine G_end (X_then ?_)
          refine G_cond_t rfl (decide_eq_true (by omega)) ?_
          refine G_skip (X_then (G_seq (G_block (G_seq (G_region ?_)))))
          refine G_val (V_move rfl rfl) rfl rfl (.none rfl) ?_
          refine G_val (V_move rfl rfl) rfl rfl (.none rfl) ?_
          refine G_val (V_idxAddr rfl rfl rfl (SlE.rd (by assumption)) (by omega) (by omega)) rfl rfl (.none rfl) ?_
          refine G_val (V_loadS rfl rfl (SlE.rd (by assumption)) f1 (by simp)) rfl rfl (.none rfl) ?_
          refine G_val (V_move rfl rfl) rfl rfl (.none rfl) ?_
          refine G_val (V_move rfl rfl) rfl rfl (.yes rfl rfl rfl rfl) ?_
          refine G_val (V_move rfl rfl) rfl rfl (.yes rfl rfl rfl rfl) ?_
          refine G_val (V_idxAddr rfl rfl rfl (SlE.rd (by assumption)) (by omega) (by omega)) rfl rfl (.yes rfl rfl rfl rfl) ?_
          refine G_val (V_loadS rfl rfl (SlE.rd (by assumption)) (by assumption) (by simp)) rfl rfl (.yes rfl rfl rfl rfl) ?_
          refine G_val (V_pick_t rfl rfl rfl) rfl rfl (.none rfl) ?_
          refine G_val (V_move rfl rfl) rfl rfl (.none rfl) ?_
          refine G_stay (.no rfl rfl rfl rfl) rfl rfl ?_
          refine G_stay (.no rfl rfl rfl rfl) rfl rfl ?_
          refine G_stay (.no rfl rfl rfl rfl) rfl rfl ?_
          refine G_stay (.no rfl rfl rfl rfl) rfl rfl ?_
          refine G_stay (.no rfl rfl rfl rfl) rfl rfl ?_
          refine G_val (V_pick_f rfl rfl rfl) rfl rfl (.none rfl) ?_
          refine G_end (X_then ?_)
          refine G_cond_f rfl rfl ?_
          refine G_skip (X_block (X_then (G_region ?_)))
          refine G_val (V_move rfl rfl) rfl rfl (.none rfl) ?_
          refine G_val (V_add_i64 rfl rfl rfl (by omega) (by omega)) rfl rfl (.none rfl) ?_
          refine G_val (V_assign rfl rfl) rfl rfl (.none rfl) ?_
          refine G_end (X_then ?_)
          exact G_again (k + 1) hlt2 (by omega) ⟨rfl, rfl, rfl, rfl, rfl, rfl, rfl, rfl, trivial⟩ rfl rfl
        | true =>
          rw [b2] at f2
          rw [reach_trans hv (by omega) hz (by omega) (by omega) (by omega) b1 b2] at f3
          refine G_seq (G_seq (G_region ?_))
          refine G_val (V_move rfl rfl) rfl rfl (.none rfl) ?_
          refine G_val (V_move rfl rfl) rfl rfl (.none rfl) ?_
          refine G_val (V_lenS rfl rfl) rfl rfl (.none rfl) ?_
          refine G_val (V_lss rfl rfl rfl) rfl rfl (.none rfl) ?_
          refine G_end (X_then ?_)
          refine G_cond_t rfl (decide_eq_true (by omega)) ?_
          refine G_skip (X_then (G_seq (G_block (G_seq (G_region ?_)))))
          refine G_val (V_move rfl rfl) rfl rfl (.none rfl) ?_
          refine G_val (V_move rfl rfl) rfl rfl (.none rfl) ?_
          refine G_val (V_idxAddr rfl rfl rfl (SlE.rd (by assumption)) (by omega) (by omega)) rfl rfl (.none rfl) ?_
          refine G_val (V_loadS rfl rfl (SlE.rd (by assumption)) f1 (by simp)) rfl rfl (.none rfl) ?_
          refine G_val (V_move rfl rfl) rfl rfl (.none rfl) ?_
          refine G_val (V_move rfl rfl) rfl rfl (.yes rfl rfl rfl rfl) ?_
          refine G_val (V_move rfl rfl) rfl rfl (.yes rfl rfl rfl rfl) ?_
          refine G_val (V_idxAddr rfl rfl rfl (SlE.rd (by assumption)) (by omega) (by omega)) rfl rfl (.yes rfl rfl rfl rfl) ?_
          refine G_val (V_loadS rfl rfl (SlE.rd (by assumption)) (by assumption) (by simp)) rfl rfl (.yes rfl rfl rfl rfl) ?_
          refine G_val (V_pick_t rfl rfl rfl) rfl rfl (.none rfl) ?_
          refine G_val (V_move rfl rfl) rfl rfl (.none rfl) ?_
          refine G_val (V_move rfl rfl) rfl rfl (.yes rfl rfl rfl rfl) ?_
          refine G_val (V_move rfl rfl) rfl rfl (.yes rfl rfl rfl rfl) ?_
          refine G_val (V_idxAddr rfl rfl rfl (SlE.rd (by assumption)) (by omega) (by omega)) rfl rfl (.yes rfl rfl rfl rfl) ?_
          refine G_val (V_loadS rfl rfl (SlE.rd (by assumption)) (by assumption) (by simp)) rfl rfl (.yes rfl rfl rfl rfl) ?_
          refine G_val (V_not rfl rfl) rfl rfl (.yes rfl rfl rfl rfl) ?_
          refine G_val (V_pick_t rfl rfl rfl) rfl rfl (.none rfl) ?_
          refine G_end (X_then ?_)
          refine G_cond_f rfl (by kernel_rfl) ?_
          refine G_skip (X_block (X_then (G_region ?_)))
          refine G_val (V_move rfl rfl) rfl rfl (.none rfl) ?_
          refine G_val (V_add_i64 rfl rfl rfl (by omega) (by omega)) rfl rfl (.none rfl) ?_
          refine G_val (V_assign rfl rfl) rfl rfl (.none rfl) ?_
          refine G_end (X_then ?_)
          exact G_again (k + 1) hlt2 (by omega) ⟨rfl, rfl, rfl, rfl, rfl, rfl, rfl, rfl, trivial⟩ rfl rfl
    · refine G_seq ?_
      refine G_seq (G_region ?_)
      refine G_val (V_move rfl rfl) rfl rfl (.none rfl) ?_
      refine G_val (V_move rfl rfl) rfl rfl (.none rfl) ?_
      refine G_val (V_lenS rfl rfl) rfl rfl (.none rfl) ?_
      refine G_val (V_lss rfl rfl rfl) rfl rfl (.none rfl) ?_
      refine G_end (X_then ?_)
      refine G_cond_f rfl (decide_eq_false (by omega)) ?_
      refine G_exit (X_then_exit (X_then_exit (X_block_hit (X_block (X_then (G_region ?_))))))
      refine G_val (V_move rfl rfl) rfl rfl (.none rfl) ?_
      refine G_val (V_add_i64 rfl rfl rfl (by omega) (by omega)) rfl rfl (.none rfl) ?_
      refine G_val (V_assign rfl rfl) rfl rfl (.none rfl) ?_
      refine G_end (X_then ?_)
      exact G_again (i + 1, E4) ⟨hE.trans (by assumption), hlt⟩ (by simp only; omega) ⟨rfl, rfl, rfl, rfl, rfl, rfl, trivial⟩ rfl rfl
  · refine G_seq ?_
    refine G_seq (G_region ?_)
    refine G_val (V_move rfl rfl) rfl rfl (.none rfl) ?_
    refine G_val (V_move rfl rfl) rfl rfl (.none rfl) ?_
    refine G_val (V_lenS rfl rfl) rfl rfl (.none rfl) ?_
    refine G_val (V_lss rfl rfl rfl) rfl rfl (.none rfl) ?_
    refine G_end (X_then ?_)
    refine G_cond_f rfl (decide_eq_false (by omega)) ?_
    refine G_exit (X_then_exit (X_then_exit (X_block_hit (X_then (G_seq (G_region ?_))))))
    refine G_val (V_assign rfl rfl) rfl rfl (.none rfl) ?_
    refine G_end (X_then (G_seq (G_region ?_)))
    refine G_val (V_assign rfl rfl) rfl rfl (.none rfl) ?_
    refine G_end (X_then (G_seq (G_seq (G_region ?_))))
    refine G_val (V_assign rfl rfl) rfl rfl (.none rfl) ?_
    refine G_end (X_then (G_block ?_))
    have htk := hv.toks
    have hnl : (nullM z5).length = z5.names.length := nullM_len hv
    refine G.nilSl 3 1 ?_
    refine G_loop (α := Nat × Env × Option Addr × Nat × List Int) (fun x => [(2, .slice q ys.length d), (7, .bool true), (8, .pointer (some ⟨b8, 0, none⟩)), (10, .slice z8 z5.names.length z9), (23, .slice x.2.2.1 x.1 x.2.2.2.1), (24, .bool (x.2.2.2.2.all (goodB false (nullM z5)))), (25, .int .i64 x.1)]) (fun x => x.2.1)
      (fun x => .sl 3 1 x.2.2.1 x.1 x.2.2.2.1 (i64s x.2.2.2.2) :: GB b8 z5 tp tc np nc pp pc :: L3) (fun x => E1.Le x.2.1 ∧ x.1 ≤ ys.length ∧ x.1 ≤ 6 ∧ x.2.2.2.2.length = x.1 ∧ ∀ s, s ∈ x.2.2.2.2 → termB z5 s = true ∨ ntB z5 s = true) (fun x => ys.length - x.1) (0, E1, none, 0, []) ⟨.refl _, Nat.zero_le _, Nat.zero_le _, rfl, fun s h => (by cases h)⟩ ⟨rfl, rfl, rfl, rfl, rfl, rfl, rfl, trivial⟩ rfl rfl ?_
    rintro ⟨j, E2, ra, rc, r⟩ ⟨hE2, hj, hj6, hrl, hrs⟩
    simp only at hE2 hj hj6 hrl hrs ⊢
    replace sn := sn.mono hE2
    replace hyy := hyy.mono hE2
    replace hg1 := hg1.mono hE2
    have hrl2 : (i64s r).length = j := by rw [i64s, List.length_map]; exact hrl
    by_cases hgo : j < ys.length ∧ j < 6
    · obtain ⟨hgo1, hgo2⟩ := hgo
      have hx := i64s_at hgo1
      have hbj := hb2 _ (List.getElem_mem hgo1)
      refine G_seq (G_seq (G_region ?_))
      refine G_val (V_move rfl rfl) rfl rfl (.none rfl) ?_
      refine G_val (V_move rfl rfl) rfl rfl (.none rfl) ?_
      refine G_val (V_lenS rfl rfl) rfl rfl (.none rfl) ?_
      refine G_val (V_lss rfl rfl rfl) rfl rfl (.none rfl) ?_
      refine G_val (V_move rfl rfl) rfl rfl (.none rfl) ?_
      refine G.bool_t 143 rfl (decide_eq_true (by omega)) ?_
      refine G_val (V_move rfl rfl) rfl rfl (.yes rfl rfl rfl rfl) ?_
      refine G_val (V_lss rfl rfl rfl) rfl rfl (.yes rfl rfl rfl rfl) ?_
      refine G_val (V_pick_t rfl rfl rfl) rfl rfl (.none rfl) ?_
      refine G_end (X_then ?_)
      refine G_cond_t rfl (decide_eq_true (by omega)) ?_
      refine G_skip (X_then (G_seq (G_block (G_seq ?_))))
      refine G_drawX 13 [(0, 0), (1, 0), (2, 1), (3, 1), (4, 0), (5, 1), (6, 0), (7, 0), (8, 1), (9, 0), (10, 0), (11, 3), (12, 0)] mixed (by kernel_rfl) ?_
      refine F_pure rfl (fun _ _ => V_move rfl rfl) rfl rfl (.none rfl) ?_
      refine F_pure rfl (fun _ _ => V_move rfl rfl) rfl rfl (.none rfl) ?_
      refine F_loadE rfl (V_idxAddr rfl rfl rfl (SlE.rd (by assumption)) (by omega) (by omega)) rfl rfl (.none rfl) ?_
      refine F_loadE rfl (V_loadS rfl rfl (SlE.rd (by assumption)) (by assumption) (by simp)) rfl rfl (.none rfl) ?_
      refine F_pure rfl (fun _ _ => V_fieldAddr rfl rfl (by decide)) rfl rfl (.none rfl) ?_
      refine F_load rfl (.tail _ (.head _)) (V_load rfl rfl (Cell.own (.head _) rfl)) rfl rfl (.none rfl) ?_
      refine F_pure rfl (fun _ _ => V_lenS rfl rfl) rfl rfl (.none rfl) ?_
      refine F_pure rfl (fun _ _ => V_fieldAddr rfl rfl (by decide)) rfl rfl (.none rfl) ?_
      refine F_load rfl (.tail _ (.head _)) (V_load rfl rfl (Cell.own (.head _) rfl)) rfl rfl (.none rfl) ?_
      refine F_pure rfl (fun _ _ => V_lenS rfl rfl) rfl rfl (.none rfl) ?_
      refine F_pure rfl (fun _ _ => V_add_i64 rfl rfl rfl (by omega) (by omega)) rfl rfl (.none rfl) ?_
      apply F_call (k := 19) rfl (.mk rfl rfl rfl rfl) rfl rfl (.none rfl)
      · (intro L0; refine CallS.mono (Mod_call'' _ _ _ _ (by assumption) (by omega)) ?_; exact fun _ _ _ _ h => h)
      · (rintro L0 r E' L' ⟨z1, ⟨rfl, ⟨Z2, ⟨rfl, rfl⟩⟩⟩⟩; exact ⟨rfl, ⟨_, ⟨rfl, ⟨(by assumption), ⟨rfl, rfl⟩⟩⟩⟩⟩)
      rintro r3 E4 hE6 ⟨z16, ⟨rfl, ⟨Z21, ⟨rfl, _⟩⟩⟩⟩
      replace sn := sn.mono hE6
      replace hyy := hyy.mono hE6
      replace hg1 := hg1.mono hE6
      refine F_pure rfl (fun _ _ => V_assign rfl rfl) rfl rfl (.none rfl) ?_
      (refine F_end (.nil _) ?_; dsimp only [List.drop])
      refine G_end (X_then (G_seq (G_region ?_)))
      refine G_val (V_move rfl rfl) rfl rfl (.none rfl) ?_
      refine G_val (V_fieldAddr rfl rfl (by decide)) rfl rfl (.none rfl) ?_
      refine G_val (V_load rfl rfl (Cell.own (.tail _ (.head _)) rfl)) rfl rfl (.none rfl) ?_
      refine G_val (V_lenS rfl rfl) rfl rfl (.none rfl) ?_
      refine G_val (V_lss rfl rfl rfl) rfl rfl (.none rfl) ?_
      refine G_end (X_then ?_)
      have hall : ∀ x : Int, (r ++ [x]).all (goodB false (nullM z5)) = (r.all (goodB false (nullM z5)) && goodB false (nullM z5) x) := fun x => by simp
      by_cases hzn : (z16 : Int) < z5.names.length
      · have f1 := bget_at (l := nullM z5) (i := z16) (by omega)
        have e1 := hall (16 + (z16 : Int))
        rw [goodB, if_neg (by omega)] at e1
        refine G_cond_t rfl (decide_eq_true (by omega)) ?_
        refine G_seq (G_region ?_)
        refine G_val (V_move rfl rfl) rfl rfl (.none rfl) ?_
        refine G_val (V_move rfl rfl) rfl rfl (.none rfl) ?_
        refine G_val (V_add_i64 rfl rfl rfl (by omega) (by omega)) rfl rfl (.none rfl) ?_
        (refine G_lit1 rfl rfl rfl rfl rfl (.none rfl) ?_; intro b169)
        (refine G_append rfl rfl rfl (Rd.lit (.head _) rfl) (by simp [Value.oneCell']) (by omega) (by omega) rfl rfl (.none rfl) (fun _ _ => (.tail _ (.head _ _ _))) ?_; intro a170 c170; refine G.rm (.head _ _) ?_)
        refine G_val (V_assign rfl rfl) rfl rfl (.none rfl) ?_
        refine G_end (X_then (G_region ?_))
        refine G_val (V_move rfl rfl) rfl rfl (.none rfl) ?_
        refine G_val (V_move rfl rfl) rfl rfl (.none rfl) ?_
        apply G_joinAnd 5 172 177 rfl
        · intro H1
          dsimp only [List.take]
          refine G_val (V_move rfl rfl) rfl rfl (.yes rfl rfl rfl rfl) ?_
          refine G_val (V_move rfl rfl) rfl rfl (.yes rfl rfl rfl rfl) ?_
          refine G_val (V_idxAddr rfl rfl rfl (SlE.rd (by assumption)) (by omega) (by omega)) rfl rfl (.yes rfl rfl rfl rfl) ?_
          refine G_val (V_loadS rfl rfl (SlE.rd (by assumption)) (by assumption) (by simp)) rfl rfl (.yes rfl rfl rfl rfl) ?_
          refine G_val (V_pick_t rfl rfl rfl) rfl rfl (.none rfl) ?_
          refine G_end ?_
          exact JQ_end 5 rfl rfl (by kernel_rfl)
        · intro H2
          dsimp only [List.take]
          refine G_stay (.no rfl rfl rfl rfl) rfl rfl ?_
          refine G_stay (.no rfl rfl rfl rfl) rfl rfl ?_
          refine G_stay (.no rfl rfl rfl rfl) rfl rfl ?_
          refine G_stay (.no rfl rfl rfl rfl) rfl rfl ?_
          refine G_val (V_pick_f rfl rfl rfl) rfl rfl (.none rfl) ?_
          refine G_end ?_
          exact JQ_end 5 rfl rfl (by kernel_rfl)
        dsimp only [List.drop]
        refine G_val (V_assign rfl rfl) rfl rfl (.none rfl) ?_
        refine G_end (X_block (X_then (G_region ?_)))
        refine G_val (V_move rfl rfl) rfl rfl (.none rfl) ?_
        refine G_val (V_add_i64 rfl rfl rfl (by omega) (by omega)) rfl rfl (.none rfl) ?_
        refine G_val (V_assign rfl rfl) rfl rfl (.none rfl) ?_
        refine G_end (X_then ?_)
        refine G_again (j + 1, _, _, _, r ++ [16 + (z16 : Int)]) ⟨hE2.trans (by assumption), hgo1, hgo2, by rw [List.length_append, hrl]; rfl, fun s hs => ?_⟩ (by simp only; omega) (by simp only [e1]; exact ⟨rfl, rfl, rfl, rfl, rfl, rfl, rfl, trivial⟩) rfl (by rw [i64s_snoc])
        rcases List.mem_append.1 hs with hs | hs
        · exact hrs s hs
        · rw [List.mem_singleton.1 hs]; exact .inr (by simp only [ntB, Bool.and_eq_true, decide_eq_true_eq]; omega)
      · have e1 := hall ((z16 : Int) - z5.names.length)
        rw [goodB, if_pos (by omega), Bool.and_false] at e1
        refine G_cond_f rfl (decide_eq_false (by omega)) ?_
        refine G_seq (G_region ?_)
        refine G_val (V_move rfl rfl) rfl rfl (.none rfl) ?_
        refine G_val (V_move rfl rfl) rfl rfl (.none rfl) ?_
        refine G_val (V_fieldAddr rfl rfl (by decide)) rfl rfl (.none rfl) ?_
        refine G_val (V_load rfl rfl (Cell.own (.tail _ (.head _)) rfl)) rfl rfl (.none rfl) ?_
        refine G_val (V_lenS rfl rfl) rfl rfl (.none rfl) ?_
        refine G_val (V_sub_i64 rfl rfl rfl (by omega) (by omega)) rfl rfl (.none rfl) ?_
        (refine G_lit1 rfl rfl rfl rfl rfl (.none rfl) ?_; intro b184)
        (refine G_append rfl rfl rfl (Rd.lit (.head _) rfl) (by simp [Value.oneCell']) (by omega) (by omega) rfl rfl (.none rfl) (fun _ _ => (.tail _ (.head _ _ _))) ?_; intro a185 c185; refine G.rm (.head _ _) ?_)
        refine G_val (V_assign rfl rfl) rfl rfl (.none rfl) ?_
        refine G_end (X_then (G_region ?_))
        refine G_val (V_assign rfl rfl) rfl rfl (.none rfl) ?_
        refine G_end (X_block (X_then (G_region ?_)))
        refine G_val (V_move rfl rfl) rfl rfl (.none rfl) ?_
        refine G_val (V_add_i64 rfl rfl rfl (by omega) (by omega)) rfl rfl (.none rfl) ?_
        refine G_val (V_assign rfl rfl) rfl rfl (.none rfl) ?_
        refine G_end (X_then ?_)
        refine G_again (j + 1, _, _, _, r ++ [(z16 : Int) - z5.names.length]) ⟨hE2.trans (by assumption), hgo1, hgo2, by rw [List.length_append, hrl]; rfl, fun s hs => ?_⟩ (by simp only; omega) (by simp only [e1]; exact ⟨rfl, rfl, rfl, rfl, rfl, rfl, rfl, trivial⟩) rfl (by rw [i64s_snoc])
        rcases List.mem_append.1 hs with hs | hs
        · exact hrs s hs
        · rw [List.mem_singleton.1 hs]; exact .inl (by simp only [termB, Bool.and_eq_true, decide_eq_true_eq]; omega)
    · refine G.freezeSl (.head _ _) ?_
      intro E3 hE3 hra hrc
      replace hg1 := hg1.mono hE3
      refine G_seq (G_seq (G_region ?_))
      refine G_val (V_move rfl rfl) rfl rfl (.none rfl) ?_
      refine G_val (V_move rfl rfl) rfl rfl (.none rfl) ?_
      refine G_val (V_lenS rfl rfl) rfl rfl (.none rfl) ?_
      refine G_val (V_lss rfl rfl rfl) rfl rfl (.none rfl) ?_
      refine G_val (V_move rfl rfl) rfl rfl (.none rfl) ?_
      apply G_joinAnd 3 143 146 rfl
      · intro H1
        dsimp only [List.take]
        simp only [Bool.and_eq_true, Bool.or_eq_true, Bool.not_eq_true', Bool.not_eq_false', Bool.and_eq_false_iff, Bool.or_eq_false_iff, Bool.not_not, decide_eq_true_eq, decide_eq_false_iff_not, ne_eq, Decidable.not_not, Bool.decide_eq_true] at H1
        refine G_val (V_move rfl rfl) rfl rfl (.yes rfl rfl rfl rfl) ?_
        refine G_val (V_lss rfl rfl rfl) rfl rfl (.yes rfl rfl rfl rfl) ?_
        refine G_val (V_pick_t rfl rfl rfl) rfl rfl (.none rfl) ?_
        refine G_end ?_
        exact JQ_end 3 rfl rfl (by kernel_rfl)
      · intro H2
        dsimp only [List.take]
        simp only [Bool.and_eq_true, Bool.or_eq_true, Bool.not_eq_true', Bool.not_eq_false', Bool.and_eq_false_iff, Bool.or_eq_false_iff, Bool.not_not, decide_eq_true_eq, decide_eq_false_iff_not, ne_eq, Decidable.not_not, Bool.decide_eq_true] at H2
        refine G_stay (.no rfl rfl rfl rfl) rfl rfl ?_
        refine G_stay (.no rfl rfl rfl rfl) rfl rfl ?_
        refine G_val (V_pick_f rfl rfl rfl) rfl rfl (.none rfl) ?_
        refine G_end ?_
        exact JQ_end 3 rfl rfl (by kernel_rfl)
      dsimp only [List.drop]
      refine G_end (X_then ?_)
      refine G_cond rfl (fun H3 => ?_) (fun H3 => ?_)
      · simp only [Bool.and_eq_true, Bool.or_eq_true, Bool.not_eq_true', Bool.not_eq_false', Bool.and_eq_false_iff, Bool.or_eq_false_iff, Bool.not_not, decide_eq_true_eq, decide_eq_false_iff_not, ne_eq, Decidable.not_not, Bool.decide_eq_true] at H3
        (exfalso; omega)
      simp only [Bool.and_eq_true, Bool.or_eq_true, Bool.not_eq_true', Bool.not_eq_false', Bool.and_eq_false_iff, Bool.or_eq_false_iff, Bool.not_not, decide_eq_true_eq, decide_eq_false_iff_not, ne_eq, Decidable.not_not, Bool.decide_eq_true] at H3
      refine G_exit (X_then_exit (X_then_exit (X_block_hit (X_then (G_seq (G_region ?_))))))
      refine G_val (V_loadA rfl rfl (Cells.own (.head _)) rfl) rfl rfl (.none rfl) ?_
      refine G_val (V_move rfl rfl) rfl rfl (.none rfl) ?_
      refine G_callv (k := 46) (.mk rfl rfl rfl rfl) rfl rfl (.none rfl) (Empty_call' _ _ _ _ (by assumption) (by assumption) _ _ _ _ (by assumption) (by assumption) (by omega) (by assumption)) ?_
      refine G_val (V_move rfl rfl) rfl rfl (.none rfl) ?_
      refine G_val (V_extract rfl rfl rfl) rfl rfl (.none rfl) ?_
      refine G_val (V_extract rfl rfl rfl) rfl rfl (.none rfl) ?_
      refine G_val (V_assign rfl rfl) rfl rfl (.none rfl) ?_
      refine G_val (V_assign rfl rfl) rfl rfl (.none rfl) ?_
      refine G_end (X_then (G_seq (G_region ?_)))
      refine G_val (V_move rfl rfl) rfl rfl (.none rfl) ?_
      refine G_val (V_move rfl rfl) rfl rfl (.none rfl) ?_
      refine G_val (V_move rfl rfl) rfl rfl (.yes rfl rfl rfl rfl) ?_
      refine G_val (V_eql rfl rfl rfl) rfl rfl (.yes rfl rfl rfl rfl) ?_
      refine G_val (V_pick_t rfl rfl rfl) rfl rfl (.none rfl) ?_
      refine G_val (V_move rfl rfl) rfl rfl (.none rfl) ?_
      refine G.bool_t 197 rfl (by kernel_rfl) ?_
      refine G_val (V_move rfl rfl) rfl rfl (.yes rfl rfl rfl rfl) ?_
      refine G_val (V_move rfl rfl) rfl rfl (.yes rfl rfl rfl rfl) ?_
      refine G_val (V_beql rfl rfl rfl) rfl rfl (.yes rfl rfl rfl rfl) ?_
      refine G_val (V_pick_t rfl rfl rfl) rfl rfl (.none rfl) ?_
      refine G_val (V_assign rfl rfl) rfl rfl (.none rfl) ?_
      refine G_end (X_then (G_ret ?_))
      refine G_leaveS (.drop _ (.nil _)) (by exact (.cons (.tmp rfl) (.nil))) rfl ?_ ?_
      · exact ((((((hE4.trans hE5).trans hE24).trans hE37).trans hE).trans hE2).trans hE3)
      exact ⟨(by (simp (discharger := omega) only [resVal, if_pos, if_neg]; first | done | rfl)), (by rfl)⟩
end
end Go.Proofs.Ytaoinojdijbhaaa
set_option linter.unusedSimpArgs false
set_option linter.unusedVariables false
set_option maxHeartbeats 2000000
set_option maxRecDepth 20000
namespace Go.Proofs.Ytaoinojdijbhaaa
open Go.RowKit
def fl (g : Gr) : Tab := best g.prods g.names.length (some 1) 0
def ft (g : Gr) : Tab := best g.prods g.names.length none 1
theorem fl_least {g : Gr} (hv : Valid g) : IsLeast g.prods g.names.length (some 1) 0 (fl g) := best_least hv.wf (small_one 1 0 (by decide) (by decide))
theorem ft_least {g : Gr} (hv : Valid g) : IsLeast g.prods g.names.length none 1 (ft g) := best_least hv.wf (small_none 1 (by decide))
theorem yields_fl {g : Gr} (hv : Valid g) : yieldsM g = (fl g).map Option.isSome := best_some hv.wf (small_tb true 0 (by decide)) (small_one 1 0 (by decide) (by decide)) rfl
theorem null_ft {g : Gr} (hv : Valid g) : nullM g = (ft g).map Option.isSome := best_some hv.wf (small_tb false 0 (by decide)) (small_none 1 (by decide)) rfl
theorem enc_at {f : Tab} {o s : Int} (h1 : 16 ≤ s) (h2 : s < 16 + (f.length : Int)) : (i64s (f.map (encR o)))[(s - 16).toNat]? = some (.int .i64 (encR o (tget f s))) := by
  have h : (s - 16).toNat < f.length := by omega
  simp [i64s, tget, h]
theorem some_at {f : Tab} {s : Int} (h1 : 16 ≤ s) (h2 : s < 16 + (f.length : Int)) : (bools (f.map Option.isSome))[(s - 16).toNat]? = some (.bool (tget f s).isSome) := by
  have h : (s - 16).toNat < f.length := by omega
  simp [bools, tget, h]
def valI (tm o : Int) (f : Tab) (s : Int) : Int := if s < 16 then tm else encR o (tget f s)
def sumI (tm o : Int) (f : Tab) (r : List Int) : Int := (r.map (valI tm o f)).sum
theorem sumI_take {tm o : Int} {f : Tab} {r : List Int} {k : Nat} (h : k < r.length) : sumI tm o f (r.take (k + 1)) = sumI tm o f (r.take k) + valI tm o f r[k] := by
  rw [sumI, sumI, List.take_succ_eq_append_getElem h, List.map_append, List.sum_append]
  simp only [List.map_cons, List.map_nil, List.sum_cons, List.sum_nil, Int.add_zero]
theorem sumI_le {tm o : Int} {f : Tab} {B : Nat} (hB : ∀ s, -(B : Int) ≤ valI tm o f s ∧ valI tm o f s ≤ B) (r : List Int) : -((r.length * B : Nat) : Int) ≤ sumI tm o f r ∧ sumI tm o f r ≤ ((r.length * B : Nat) : Int) := by
  induction r with
  | nil => exact ⟨by simp [sumI], by simp [sumI]⟩
  | cons s r ih =>
    have := hB s
    have e : sumI tm o f (s :: r) = valI tm o f s + sumI tm o f r := rfl
    rw [e, List.length_cons, Nat.add_mul, Nat.one_mul]
    omega
theorem cost_good {t : Option Nat} {f : Tab} {r : List Int} {tm o : Int} {b : Bool} (ht : ∀ k, t = some k → tm = k) (hb : b = t.isSome) :
    (r.all (goodB b (f.map Option.isSome)) = true → ∃ c, cost t f r = some c ∧ (c : Int) = sumI tm o f r) ∧ (r.all (goodB b (f.map Option.isSome)) = false → cost t f r = none) := by
  have hsy : ∀ s, (symc t f s).isSome = goodB b (f.map Option.isSome) s := by
    intro s
    rw [symc, goodB, bget_some]
    by_cases h : s < 16
    · rw [if_pos h, if_pos h, hb]
    · rw [if_neg h, if_neg h]
  rw [cost_sum]
  have e : (fun s => (symc t f s).isSome) = goodB b (f.map Option.isSome) := funext hsy
  rw [e]
  constructor
  · intro h
    rw [if_pos h]
    refine ⟨_, rfl, ?_⟩
    clear e
    induction r with
    | nil => rfl
    | cons s r ih =>
      rw [List.all_cons, Bool.and_eq_true] at h
      have h1 := ih h.2
      have h2 : (valS t f s : Int) = valI tm o f s := by
        have h3 := hsy s
        rw [h.1] at h3
        rw [valS, valI]
        rw [symc] at h3 ⊢
        by_cases hs : s < 16
        · rw [if_pos hs] at h3 ⊢
          rw [if_pos hs]
          cases t with
          | none => cases h3
          | some k => exact (ht k rfl).symm
        · rw [if_neg hs] at h3 ⊢
          rw [if_neg hs]
          cases htg : tget f s with
          | none => rw [htg] at h3; cases h3
          | some k => rfl
      show ((valS t f s + sumS t f r : Nat) : Int) = valI tm o f s + sumI tm o f r
      omega
  · intro h
    rw [if_neg (by rw [h]; decide)]
theorem len_fl (g : Gr) : lengthsM g = (fl g).map (encR (-1)) := rfl
theorem tree_ft (g : Gr) : treesM g = (ft g).map (encR 0) := rfl
theorem val_bound {ps : List Pr} {n own : Nat} {t : Option Nat} (hw : Wf ps n) (hs : Small t own) {tm o : Int} (h1 : -1 ≤ tm ∧ tm ≤ 1) (h2 : -1 ≤ o ∧ o ≤ 1) (s : Int) : -((1099511627776 : Nat) : Int) ≤ valI tm o (best ps n t own) s ∧ valI tm o (best ps n t own) s ≤ ((1099511627776 : Nat) : Int) := by
  rw [valI]
  by_cases h : s < 16
  · rw [if_pos h]; omega
  · rw [if_neg h]
    cases hc : tget (best ps n t own) s with
    | none => show _ ≤ o ∧ o ≤ _; omega
    | some c => have := best_le hw hs hc; show _ ≤ (c : Int) ∧ (c : Int) ≤ _; omega
/-- What the program's comparison does to the least one so far. -/
theorem minO_enc {o : Int} (w c : Option Nat) : minO w c = match c with
    | none => w
    | some c => if w = none ∨ (c : Int) < encR o w then some c else w := by
  cases c with
  | none => exact minO_none w
  | some c =>
    cases w with
    | none => simp [minO]
    | some d =>
      show (if c < d then some c else some d) = if some d = none ∨ (c : Int) < (d : Int) then some c else some d
      by_cases h : c < d
      · rw [if_pos h, if_pos (.inr (by omega))]
      · rw [if_neg h, if_neg]
        rintro (h1 | h1)
        · cases h1
        · omega
theorem len_null {g : Gr} (hv : Valid g) {s : Int} (hs : 16 ≤ s) : (tget (ft g) s).isSome = decide (encR (-1) (tget (fl g) s) = 0) := by
  rw [null_zero (fl_least hv) (ft_least hv) hs]
  cases tget (fl g) s with
  | none => rfl
  | some c =>
    show decide (some c = some 0) = decide ((c : Int) = 0)
    by_cases h : c = 0
    · subst h; rfl
    · rw [decide_eq_false (by simpa using h), decide_eq_false (by omega)]
theorem fl_bound {g : Gr} (hv : Valid g) (s : Int) : -((1099511627776 : Nat) : Int) ≤ valI 1 (-1) (fl g) s ∧ valI 1 (-1) (fl g) s ≤ ((1099511627776 : Nat) : Int) := val_bound hv.wf (small_one 1 0 (by decide) (by decide)) (by decide) (by decide) s
theorem ft_bound {g : Gr} (hv : Valid g) (s : Int) : -((1099511627776 : Nat) : Int) ≤ valI 0 0 (ft g) s ∧ valI 0 0 (ft g) s ≤ ((1099511627776 : Nat) : Int) := val_bound hv.wf (small_none 1 (by decide)) (by decide) (by decide) s
theorem encR_none {o : Int} {t : Option Nat} {own : Nat} {f : Tab} {s : Int} {l : List Pr} (ho : o = -1 ∨ (o = 0 ∧ 1 ≤ own)) : encR o (foldC t own f s l) = o ↔ foldC t own f s l = none := by
  cases hw : foldC t own f s l with
  | none => simp [encR]
  | some d =>
    simp only [reduceCtorEq, iff_false]
    show ¬ (d : Int) = o
    rcases ho with rfl | ⟨rfl, h1⟩
    · omega
    · rcases foldC_from l none d hw with h | ⟨p, _, _, c, _, rfl⟩
      · cases h
      · omega
theorem step_code {ps : List Pr} {t : Option Nat} {own : Nat} {f : Tab} {o tm s : Int} {b : Bool} {k : Nat} {p : Pr} (hk : k < ps.length) (hp : ps[k] = p) (hs : p.1 = s) (ht : ∀ k, t = some k → tm = k) (hb : b = t.isSome) (ho : o = -1 ∨ (o = 0 ∧ 1 ≤ own)) :
    (p.2.all (goodB b (f.map Option.isSome)) = true → (encR o (foldC t own f s (ps.take k)) = o ∨ own + sumI tm o f p.2 < encR o (foldC t own f s (ps.take k))) → encR o (foldC t own f s (ps.take (k + 1))) = own + sumI tm o f p.2 ∧ (foldC t own f s (ps.take (k + 1))).isSome = true) ∧
    (p.2.all (goodB b (f.map Option.isSome)) = true → ¬ (encR o (foldC t own f s (ps.take k)) = o ∨ own + sumI tm o f p.2 < encR o (foldC t own f s (ps.take k))) → encR o (foldC t own f s (ps.take (k + 1))) = encR o (foldC t own f s (ps.take k)) ∧ (foldC t own f s (ps.take (k + 1))).isSome = true) ∧
    (p.2.all (goodB b (f.map Option.isSome)) = false → foldC t own f s (ps.take (k + 1)) = foldC t own f s (ps.take k)) := by
  subst hp
  have h0 := encR_none (t := t) (f := f) (s := s) (l := ps.take k) ho
  rw [foldC_snoc hk, stepC, if_pos hs]
  obtain ⟨c1, c2⟩ := cost_good (t := t) (f := f) (r := ps[k].2) (tm := tm) (o := o) ht hb
  refine ⟨fun hg hu => ?_, fun hg hu => ?_, fun hg => ?_⟩
  · obtain ⟨c, h1, h2⟩ := c1 hg
    rw [h1, show addO (some own) (some c) = some (own + c) from rfl, minO_enc (o := o)]
    simp only
    rw [if_pos (by rcases hu with hu | hu; exact .inl (h0.1 hu); exact .inr (by omega))]
    exact ⟨by show ((own + c : Nat) : Int) = _; omega, rfl⟩
  · obtain ⟨c, h1, h2⟩ := c1 hg
    rw [h1, show addO (some own) (some c) = some (own + c) from rfl, minO_enc (o := o)]
    simp only
    rw [if_neg (by rintro (h | h); exact hu (.inl (h0.2 h)); exact hu (.inr (by omega)))]
    refine ⟨rfl, ?_⟩
    cases hw : foldC t own f s (ps.take k) with
    | none => exact absurd (.inl (h0.2 hw)) hu
    | some d => rfl
  · rw [c2 hg, show addO (some own) none = none from rfl, minO_none]
theorem skip_code {ps : List Pr} {t : Option Nat} {own : Nat} {f : Tab} {s : Int} {k : Nat} {p : Pr} (hk : k < ps.length) (hp : ps[k] = p) (hs : ¬ p.1 = s) : foldC t own f s (ps.take (k + 1)) = foldC t own f s (ps.take k) := by
  subst hp
  rw [foldC_snoc hk, stepC, if_neg hs]
theorem all_take {α : Type} {l : List α} {i : Nat} {f : α → Bool} (h : i < l.length) : (l.take (i + 1)).all f = ((l.take i).all f && f l[i]) := by
  rw [List.take_succ_eq_append_getElem h, List.all_append, List.all_cons, List.all_nil, Bool.and_true]
theorem enc_lo {o : Int} (h : -1 ≤ o) (w : Option Nat) : -1 ≤ encR o w := by
  cases w with
  | none => exact h
  | some d => show -1 ≤ (d : Int); omega
section
variable (E : Env) (L : List Res)
theorem Prods10_call (p : Option Addr) (c : Nat) (xs : List Int) (hx : SlE E 1 p xs.length (i64s xs)) (hn : xs.length ≤ 9223372036854775807) (hb : ∀ n, n ∈ xs → -9223372036854775808 ≤ n ∧ n ≤ 9223372036854775807) :
    CallV Try.prog 7 #[.slice p xs.length c] E L (.bool true) := by
  refine CallS.toV (CallS.intro (l := [_]) _ Try.func7 rfl Try.ntmps7 rfl ?_)
  refine G_seq (G_region ?_)
  refine G_val (V_assign rfl rfl) rfl rfl (.none rfl) ?_
  refine G_end (X_then (G_seq (G_region ?_)))
  refine G_callv (k := 6) (.mk rfl rfl rfl rfl) rfl rfl (.none rfl) (Known_call _ _) ?_
  refine G_val (V_assign rfl rfl) rfl rfl (.none rfl) ?_
  refine G_end (X_then (G_seq (G_region ?_)))
  refine G_val (V_move rfl rfl) rfl rfl (.none rfl) ?_
  refine G_call (k := 14) (.mk rfl rfl rfl rfl) rfl rfl (.none rfl) (Any_call _ _ _ _ _ (by assumption) (by assumption) (by assumption)) ?_
  rintro r1 E2 L3 hE4 ⟨z5, ⟨Z6, ⟨Z7, ⟨Z8, rfl⟩⟩⟩⟩
  replace hx := hx.mono hE4
  (refine G_alloc rfl rfl rfl (.none rfl) ?_; intro b4)
  have hgr : GrE E2 r1 z5 := by assumption
  have hl : Light z5 := by assumption
  have hc : gcheck z5 = 0 := by assumption
  have hg0 := hgr
  obtain ⟨tp, tc, np, nc, pp, pc, rfl, ht, hnm, ⟨rows, hrows, hps, hre⟩, k1, k2, k3⟩ := hgr
  have hlen : z5.prods.length = rows.length := by rw [← hrows]; simp
  have q1 := hl.t; have q2 := hl.n; have q3 := hl.p
  have hv := valid_of hc
  refine G_storeA rfl rfl rfl rfl (by simp [Value.oneCell']) rfl (.none rfl) (.head _ _ _) rfl ?_
  refine G_end (X_then (G_seq (G_region ?_)))
  refine G_val (V_loadA rfl rfl (Cells.own (.head _)) rfl) rfl rfl (.none rfl) ?_
  refine G_call (k := 54) (.mk rfl rfl rfl rfl) rfl rfl (.none rfl) (tells_call _ _ _ _ (by assumption) (by assumption) (by assumption)) ?_
  rintro r1 E3 L4 hE5 ⟨z6, ⟨z7, ⟨z8, ⟨z9, ⟨z10, ⟨z11, ⟨z12, ⟨z13, ⟨z14, ⟨z15, ⟨rfl, ⟨Z16, ⟨Z17, ⟨Z18, ⟨Z19, ⟨Z20, rfl⟩⟩⟩⟩⟩⟩⟩⟩⟩⟩⟩⟩⟩⟩⟩⟩
  replace hx := hx.mono hE5
  replace Z6 := Z6.mono hE5
  replace hg0 := hg0.mono hE5
  replace ht := ht.mono hE5
  replace hnm := hnm.mono hE5
  replace hps := hps.mono hE5
  refine G_val (V_move rfl rfl) rfl rfl (.none rfl) ?_
  refine G_val (V_extract rfl rfl rfl) rfl rfl (.none rfl) ?_
  refine G_val (V_extract rfl rfl rfl) rfl rfl (.none rfl) ?_
  refine G_val (V_extract rfl rfl rfl) rfl rfl (.none rfl) ?_
  refine G_val (V_extract rfl rfl rfl) rfl rfl (.none rfl) ?_
  refine G_val (V_extract rfl rfl rfl) rfl rfl (.none rfl) ?_
  refine G_val (V_extract rfl rfl rfl) rfl rfl (.none rfl) ?_
  refine G_val (V_assign rfl rfl) rfl rfl (.none rfl) ?_
  refine G_val (V_assign rfl rfl) rfl rfl (.none rfl) ?_
  refine G_val (V_assign rfl rfl) rfl rfl (.none rfl) ?_
  refine G_val (V_assign rfl rfl) rfl rfl (.none rfl) ?_
  refine G_val (V_assign rfl rfl) rfl rfl (.none rfl) ?_
  refine G_val (V_assign rfl rfl) rfl rfl (.none rfl) ?_
  refine G_end (X_then (G_seq (G_seq (G_region ?_))))
  refine G_val (V_move rfl rfl) rfl rfl (.none rfl) ?_
  refine G_val (V_not rfl rfl) rfl rfl (.none rfl) ?_
  refine G_end (X_then ?_)
  refine G_cond_f rfl (by kernel_rfl) ?_
  refine G_skip (X_then (G_seq (G_seq (G_region ?_))))
  refine G_val (V_assign rfl rfl) rfl rfl (.none rfl) ?_
  refine G_end (X_then (G_block ?_))
  have sy : SlE E3 1 z6 z5.names.length (bools (yieldsM z5)) := by assumption
  have sn : SlE E3 1 z8 z5.names.length (bools (nullM z5)) := by assumption
  have sl : SlE E3 1 z12 z5.names.length (i64s (lengthsM z5)) := by assumption
  have st : SlE E3 1 z14 z5.names.length (i64s (treesM z5)) := by assumption
  replace hre := hre.mono (show E2.Le E3 by assumption)
  have hfl := (fl_least hv).len
  have hft := (ft_least hv).len
  rw [yields_fl hv] at sy
  rw [null_ft hv] at sn
  rw [len_fl] at sl
  rw [tree_ft] at st
  refine G_loop (α := Nat) (fun i => [(3, .bool true), (4, .pointer (some ⟨b4, 0, none⟩)), (5, .slice z6 z5.names.length z7), (6, .slice z8 z5.names.length z9), (8, .slice z12 z5.names.length z13), (9, .slice z14 z5.names.length z15), (11, .int .i64 i)]) (fun _ => E3)
    (fun _ => GB b4 z5 tp tc np nc pp pc :: L3) (fun i => i ≤ z5.names.length) (fun i => z5.names.length - i) 0 (Nat.zero_le _) ⟨rfl, rfl, rfl, rfl, rfl, rfl, rfl, trivial⟩ rfl rfl ?_
  intro i hi
  by_cases hlt : i < z5.names.length
  · refine G_seq ?_
    refine G_seq (G_region ?_)
    refine G_val (V_move rfl rfl) rfl rfl (.none rfl) ?_
    refine G_val (V_fieldAddr rfl rfl (by decide)) rfl rfl (.none rfl) ?_
    refine G_val (V_load rfl rfl (Cell.own (.head _) rfl)) rfl rfl (.none rfl) ?_
    refine G_val (V_lenS rfl rfl) rfl rfl (.none rfl) ?_
    refine G_val (V_lss rfl rfl rfl) rfl rfl (.none rfl) ?_
    refine G_end (X_then ?_)
    refine G_cond_t rfl (decide_eq_true (by omega)) ?_
    refine G_skip (X_then (G_seq (G_block (G_seq (G_region ?_)))))
    refine G_val (V_assign rfl rfl) rfl rfl (.none rfl) ?_
    refine G_val (V_assign rfl rfl) rfl rfl (.none rfl) ?_
    refine G_val (V_assign rfl rfl) rfl rfl (.none rfl) ?_
    refine G_val (V_assign rfl rfl) rfl rfl (.none rfl) ?_
    refine G_end (X_then (G_seq (G_seq (G_region ?_))))
    refine G_val (V_assign rfl rfl) rfl rfl (.none rfl) ?_
    refine G_end (X_then (G_block ?_))
    refine G_loop (α := Nat) (fun k => [(3, .bool true), (4, .pointer (some ⟨b4, 0, none⟩)), (5, .slice z6 z5.names.length z7), (6, .slice z8 z5.names.length z9), (8, .slice z12 z5.names.length z13), (9, .slice z14 z5.names.length z15), (11, .int .i64 i),
        (12, .bool (foldC (some 1) 0 (fl z5) (16 + i) (z5.prods.take k)).isSome), (13, .bool (foldC none 1 (ft z5) (16 + i) (z5.prods.take k)).isSome), (14, .int .i64 (encR (-1) (foldC (some 1) 0 (fl z5) (16 + i) (z5.prods.take k)))), (15, .int .i64 (encR 0 (foldC none 1 (ft z5) (16 + i) (z5.prods.take k)))), (16, .int .i64 k)]) (fun _ => E3)
      (fun _ => GB b4 z5 tp tc np nc pp pc :: L3) (fun k => k ≤ rows.length) (fun k => rows.length - k) 0 (Nat.zero_le _) ⟨rfl, rfl, rfl, rfl, rfl, rfl, rfl, rfl, rfl, rfl, rfl, rfl, trivial⟩ rfl rfl ?_
    intro k hk
    by_cases hlt2 : k < rows.length
    · have hg1 := List.getElem?_eq_getElem hlt2
      have hyl := prows_left hg1
      have hyr := prows_right hg1
      have hre1 := hre.get hg1
      have hp : rows[k].2.2 ∈ z5.prods := by rw [← hrows]; exact List.mem_map.2 ⟨rows[k], List.getElem_mem hlt2, rfl⟩
      have hpk : z5.prods[k]'(by omega) = rows[k].2.2 := by simp [← hrows]
      have h8 := hv.right _ hp
      have hsy := hv.syms _ hp
      have hkp : k < z5.prods.length := by omega
      by_cases hlf : rows[k].2.2.1 = 16 + (i : Int)
      · obtain ⟨a1, a2, a3⟩ := step_code (t := some 1) (own := 0) (f := fl z5) (o := -1) (tm := 1) (b := true) hkp hpk hlf (fun k h => by cases h; rfl) rfl (.inl rfl)
        obtain ⟨b1, b2, b3⟩ := step_code (t := none) (own := 1) (f := ft z5) (o := 0) (tm := 0) (b := false) hkp hpk hlf (fun k h => by cases h) rfl (.inr ⟨rfl, by decide⟩)
        have lo1 := enc_lo (o := -1) (by decide) (foldC (some 1) 0 (fl z5) (16 + (i : Int)) (z5.prods.take k))
        refine G_seq (G_seq (G_region ?_))
        refine G_val (V_move rfl rfl) rfl rfl (.none rfl) ?_
        refine G_val (V_fieldAddr rfl rfl (by decide)) rfl rfl (.none rfl) ?_
        refine G_val (V_load rfl rfl (Cell.own (.head _) rfl)) rfl rfl (.none rfl) ?_
        refine G_val (V_lenS rfl rfl) rfl rfl (.none rfl) ?_
        refine G_val (V_lss rfl rfl rfl) rfl rfl (.none rfl) ?_
        refine G_end (X_then ?_)
        refine G_cond_t rfl (decide_eq_true (by omega)) ?_
        refine G_skip (X_then (G_seq (G_block (G_seq (G_seq (G_region ?_))))))
        refine G_val (V_fieldAddr rfl rfl (by decide)) rfl rfl (.none rfl) ?_
        refine G_val (V_load rfl rfl (Cell.own (.head _) rfl)) rfl rfl (.none rfl) ?_
        refine G_val (V_move rfl rfl) rfl rfl (.none rfl) ?_
        refine G_val (V_idxAddr rfl rfl rfl (SlE.rd (by assumption)) (by omega) (by omega)) rfl rfl (.none rfl) ?_
        refine G_val (V_fieldAddrE rfl rfl (by assumption) (by omega) (by decide)) rfl rfl (.none rfl) ?_
        refine G_val (V_loadS rfl rfl (SlE.rd (by assumption)) hyl (by simp)) rfl rfl (.none rfl) ?_
        refine G_val (V_move rfl rfl) rfl rfl (.none rfl) ?_
        refine G_val (V_add_i64 rfl rfl rfl (by omega) (by omega)) rfl rfl (.none rfl) ?_
        refine G_val (V_neq rfl rfl rfl) rfl rfl (.none rfl) ?_
        refine G_end (X_then ?_)
        refine G_cond_f rfl (decide_eq_false (by omega)) ?_
        refine G_skip (X_then (G_seq (G_region ?_)))
        refine G_val (V_assign rfl rfl) rfl rfl (.none rfl) ?_
        refine G_val (V_assign rfl rfl) rfl rfl (.none rfl) ?_
        refine G_val (V_assign rfl rfl) rfl rfl (.none rfl) ?_
        refine G_val (V_assign rfl rfl) rfl rfl (.none rfl) ?_
        refine G_end (X_then (G_seq (G_seq (G_region ?_))))
        refine G_val (V_assign rfl rfl) rfl rfl (.none rfl) ?_
        refine G_end (X_then (G_block ?_))
        refine G_loop (α := Nat) (fun j => [(3, .bool true), (4, .pointer (some ⟨b4, 0, none⟩)), (5, .slice z6 z5.names.length z7), (6, .slice z8 z5.names.length z9), (8, .slice z12 z5.names.length z13), (9, .slice z14 z5.names.length z15), (11, .int .i64 i),
            (12, .bool (foldC (some 1) 0 (fl z5) (16 + i) (z5.prods.take k)).isSome), (13, .bool (foldC none 1 (ft z5) (16 + i) (z5.prods.take k)).isSome), (14, .int .i64 (encR (-1) (foldC (some 1) 0 (fl z5) (16 + i) (z5.prods.take k)))), (15, .int .i64 (encR 0 (foldC none 1 (ft z5) (16 + i) (z5.prods.take k)))), (16, .int .i64 k),
            (17, .bool ((rows[k].2.2.2.take j).all (goodB true ((fl z5).map Option.isSome)))), (18, .bool ((rows[k].2.2.2.take j).all (goodB false ((ft z5).map Option.isSome)))), (19, .int .i64 (sumI 1 (-1) (fl z5) (rows[k].2.2.2.take j))), (20, .int .i64 (1 + sumI 0 0 (ft z5) (rows[k].2.2.2.take j))), (21, .int .i64 j)]) (fun _ => E3)
          (fun _ => GB b4 z5 tp tc np nc pp pc :: L3) (fun j => j ≤ rows[k].2.2.2.length) (fun j => rows[k].2.2.2.length - j) 0 (Nat.zero_le _) ⟨rfl, rfl, rfl, rfl, rfl, rfl, rfl, rfl, rfl, rfl, rfl, rfl, rfl, rfl, rfl, rfl, rfl, trivial⟩ rfl rfl ?_
        intro j hj
        have sb1 := sumI_le (fl_bound hv) (rows[k].2.2.2.take j)
        have sb2 := sumI_le (ft_bound hv) (rows[k].2.2.2.take j)
        have htl : (rows[k].2.2.2.take j).length = j := by rw [List.length_take]; omega
        rw [htl] at sb1 sb2
        by_cases hjlt : j < rows[k].2.2.2.length
        · have hx := i64s_at hjlt
          have hsj := hsy _ (List.getElem_mem hjlt)
          have ta1 := all_take (f := goodB true ((fl z5).map Option.isSome)) hjlt
          have ta2 := all_take (f := goodB false ((ft z5).map Option.isSome)) hjlt
          have ts1 := sumI_take (tm := 1) (o := -1) (f := fl z5) hjlt
          have ts2 := sumI_take (tm := 0) (o := 0) (f := ft z5) hjlt
          rw [goodB] at ta1 ta2
          rw [valI] at ts1 ts2
          by_cases h16 : rows[k].2.2.2[j] < 16
          · rw [if_pos h16] at ta1 ta2 ts1 ts2
            refine G_seq (G_seq (G_region ?_))
            refine G_val (V_move rfl rfl) rfl rfl (.none rfl) ?_
            refine G_val (V_fieldAddr rfl rfl (by decide)) rfl rfl (.none rfl) ?_
            refine G_val (V_load rfl rfl (Cell.own (.head _) rfl)) rfl rfl (.none rfl) ?_
            refine G_val (V_move rfl rfl) rfl rfl (.none rfl) ?_
            refine G_val (V_idxAddr rfl rfl rfl (SlE.rd (by assumption)) (by omega) (by omega)) rfl rfl (.none rfl) ?_
            refine G_val (V_fieldAddrE rfl rfl (by assumption) (by omega) (by decide)) rfl rfl (.none rfl) ?_
            refine G_val (V_loadS rfl rfl (SlE.rd (by assumption)) (by assumption) (by simp)) rfl rfl (.none rfl) ?_
            refine G_val (V_lenS rfl rfl) rfl rfl (.none rfl) ?_
            refine G_val (V_lss rfl rfl rfl) rfl rfl (.none rfl) ?_
            refine G_end (X_then ?_)
            refine G_cond_t rfl (decide_eq_true (by omega)) ?_
            refine G_skip (X_then (G_seq (G_block (G_seq (G_region ?_)))))
            refine G_val (V_fieldAddr rfl rfl (by decide)) rfl rfl (.none rfl) ?_
            refine G_val (V_load rfl rfl (Cell.own (.head _) rfl)) rfl rfl (.none rfl) ?_
            refine G_val (V_move rfl rfl) rfl rfl (.none rfl) ?_
            refine G_val (V_idxAddr rfl rfl rfl (SlE.rd (by assumption)) (by omega) (by omega)) rfl rfl (.none rfl) ?_
            refine G_val (V_fieldAddrE rfl rfl (by assumption) (by omega) (by decide)) rfl rfl (.none rfl) ?_
            refine G_val (V_loadS rfl rfl (SlE.rd (by assumption)) (by assumption) (by simp)) rfl rfl (.none rfl) ?_
            refine G_val (V_move rfl rfl) rfl rfl (.none rfl) ?_
            refine G_val (V_idxAddr rfl rfl rfl (SlE.rd (by assumption)) (by omega) (by omega)) rfl rfl (.none rfl) ?_
            refine G_val (V_loadS rfl rfl (SlE.rd (by assumption)) (by assumption) (by simp)) rfl rfl (.none rfl) ?_
            refine G_val (V_assign rfl rfl) rfl rfl (.none rfl) ?_
            refine G_end (X_then (G_seq (G_seq (G_region ?_))))
            refine G_val (V_move rfl rfl) rfl rfl (.none rfl) ?_
            refine G_val (V_lss rfl rfl rfl) rfl rfl (.none rfl) ?_
            refine G_end (X_then ?_)
            refine G_cond_t rfl (decide_eq_true (by omega)) ?_
            refine G_seq (G_region ?_)
            refine G_val (V_assign rfl rfl) rfl rfl (.none rfl) ?_
            refine G_end (X_then (G_seq (G_region ?_)))
            refine G_val (V_move rfl rfl) rfl rfl (.none rfl) ?_
            refine G_val (V_add_i64 rfl rfl rfl (by omega) (by omega)) rfl rfl (.none rfl) ?_
            refine G_val (V_assign rfl rfl) rfl rfl (.none rfl) ?_
            refine G_end (X_then (G_exit (X_then_exit (X_block_hit (X_then (G_region ?_))))))
            refine G_val (V_move rfl rfl) rfl rfl (.none rfl) ?_
            refine G_val (V_add_i64 rfl rfl rfl (by omega) (by omega)) rfl rfl (.none rfl) ?_
            refine G_val (V_assign rfl rfl) rfl rfl (.none rfl) ?_
            refine G_end (X_then ?_)
            exact G_again (j + 1) hjlt (by omega) (by simp only [ta1, ta2, ts1, ts2]; exact ⟨rfl, rfl, rfl, rfl, rfl, rfl, rfl, rfl, rfl, rfl, rfl, rfl, (congrArg (fun b => some (Value.bool b)) (by rw [Bool.and_true])), (congrArg (fun b => some (Value.bool b)) (by rw [Bool.and_false])), rfl, (congrArg (fun n => some (Value.int .i64 n)) (by rw [Int.add_zero])), rfl, trivial⟩) rfl rfl
          · rw [if_neg h16, bget_some] at ta1 ta2
            rw [if_neg h16] at ts1 ts2
            have f1 := some_at (f := fl z5) (s := rows[k].2.2.2[j]) (by omega) (by omega)
            have f2 := some_at (f := ft z5) (s := rows[k].2.2.2[j]) (by omega) (by omega)
            have f3 := enc_at (f := fl z5) (o := -1) (s := rows[k].2.2.2[j]) (by omega) (by omega)
            have f4 := enc_at (f := ft z5) (o := 0) (s := rows[k].2.2.2[j]) (by omega) (by omega)
            have v1 := fl_bound hv rows[k].2.2.2[j]
            have v2 := ft_bound hv rows[k].2.2.2[j]
            rw [valI, if_neg h16] at v1 v2
            refine G_seq (G_seq (G_region ?_))
            refine G_val (V_move rfl rfl) rfl rfl (.none rfl) ?_
            refine G_val (V_fieldAddr rfl rfl (by decide)) rfl rfl (.none rfl) ?_
            refine G_val (V_load rfl rfl (Cell.own (.head _) rfl)) rfl rfl (.none rfl) ?_
            refine G_val (V_move rfl rfl) rfl rfl (.none rfl) ?_
            refine G_val (V_idxAddr rfl rfl rfl (SlE.rd (by assumption)) (by omega) (by omega)) rfl rfl (.none rfl) ?_
            refine G_val (V_fieldAddrE rfl rfl (by assumption) (by omega) (by decide)) rfl rfl (.none rfl) ?_
            refine G_val (V_loadS rfl rfl (SlE.rd (by assumption)) (by assumption) (by simp)) rfl rfl (.none rfl) ?_
            refine G_val (V_lenS rfl rfl) rfl rfl (.none rfl) ?_
            refine G_val (V_lss rfl rfl rfl) rfl rfl (.none rfl) ?_
            refine G_end (X_then ?_)
            refine G_cond_t rfl (decide_eq_true (by omega)) ?_
            refine G_skip (X_then (G_seq (G_block (G_seq (G_region ?_)))))
            refine G_val (V_fieldAddr rfl rfl (by decide)) rfl rfl (.none rfl) ?_
            refine G_val (V_load rfl rfl (Cell.own (.head _) rfl)) rfl rfl (.none rfl) ?_
            refine G_val (V_move rfl rfl) rfl rfl (.none rfl) ?_
            refine G_val (V_idxAddr rfl rfl rfl (SlE.rd (by assumption)) (by omega) (by omega)) rfl rfl (.none rfl) ?_
            refine G_val (V_fieldAddrE rfl rfl (by assumption) (by omega) (by decide)) rfl rfl (.none rfl) ?_
            refine G_val (V_loadS rfl rfl (SlE.rd (by assumption)) (by assumption) (by simp)) rfl rfl (.none rfl) ?_
            refine G_val (V_move rfl rfl) rfl rfl (.none rfl) ?_
            refine G_val (V_idxAddr rfl rfl rfl (SlE.rd (by assumption)) (by omega) (by omega)) rfl rfl (.none rfl) ?_
            refine G_val (V_loadS rfl rfl (SlE.rd (by assumption)) (by assumption) (by simp)) rfl rfl (.none rfl) ?_
            refine G_val (V_assign rfl rfl) rfl rfl (.none rfl) ?_
            refine G_end (X_then (G_seq (G_seq (G_region ?_))))
            refine G_val (V_move rfl rfl) rfl rfl (.none rfl) ?_
            refine G_val (V_lss rfl rfl rfl) rfl rfl (.none rfl) ?_
            refine G_end (X_then ?_)
            refine G_cond_f rfl (decide_eq_false (by omega)) ?_
            refine G_skip (X_then (G_seq (G_region ?_)))
            refine G_val (V_move rfl rfl) rfl rfl (.none rfl) ?_
            refine G_val (V_sub_i64 rfl rfl rfl (by omega) (by omega)) rfl rfl (.none rfl) ?_
            refine G_val (V_assign rfl rfl) rfl rfl (.none rfl) ?_
            refine G_end (X_then (G_seq (G_seq (G_region ?_))))
            refine G_val (V_move rfl rfl) rfl rfl (.none rfl) ?_
            refine G_val (V_fieldAddr rfl rfl (by decide)) rfl rfl (.none rfl) ?_
            refine G_val (V_load rfl rfl (Cell.own (.head _) rfl)) rfl rfl (.none rfl) ?_
            refine G_val (V_lenS rfl rfl) rfl rfl (.none rfl) ?_
            refine G_val (V_geq rfl rfl rfl) rfl rfl (.none rfl) ?_
            refine G_end (X_then ?_)
            refine G_cond_f rfl (decide_eq_false (by omega)) ?_
            refine G_skip (X_then (G_seq ?_))
            refine G_draw mixed (by kernel_rfl) ?_
            refine Q_val (V_move rfl rfl) rfl rfl (.none rfl) ?_
            refine Q_val (V_move rfl rfl) rfl rfl (.none rfl) ?_
            apply Q_joinAnd 5 93 98 rfl
            · intro H1
              dsimp only [List.take]
              refine Q_val (V_move rfl rfl) rfl rfl (.yes rfl rfl rfl rfl) ?_
              refine Q_val (V_move rfl rfl) rfl rfl (.yes rfl rfl rfl rfl) ?_
              refine Q_val (V_idxAddr rfl rfl rfl (SlE.rd (by assumption)) (by omega) (by omega)) rfl rfl (.yes rfl rfl rfl rfl) ?_
              refine Q_val (V_loadS rfl rfl (SlE.rd (by assumption)) (by assumption) (by simp)) rfl rfl (.yes rfl rfl rfl rfl) ?_
              refine Q_val (V_pick_t rfl rfl rfl) rfl rfl (.none rfl) ?_
              exact FQ_end 5 rfl rfl (by kernel_rfl)
            · intro H2
              dsimp only [List.take]
              refine Q_stay (.no rfl rfl rfl rfl) rfl rfl ?_
              refine Q_stay (.no rfl rfl rfl rfl) rfl rfl ?_
              refine Q_stay (.no rfl rfl rfl rfl) rfl rfl ?_
              refine Q_stay (.no rfl rfl rfl rfl) rfl rfl ?_
              refine Q_val (V_pick_f rfl rfl rfl) rfl rfl (.none rfl) ?_
              exact FQ_end 5 rfl rfl (by kernel_rfl)
            dsimp only [List.drop]
            refine Q_val (V_move rfl rfl) rfl rfl (.none rfl) ?_
            refine Q_val (V_move rfl rfl) rfl rfl (.none rfl) ?_
            apply Q_joinAnd 5 100 105 rfl
            · intro H3
              dsimp only [List.take]
              refine Q_val (V_move rfl rfl) rfl rfl (.yes rfl rfl rfl rfl) ?_
              refine Q_val (V_move rfl rfl) rfl rfl (.yes rfl rfl rfl rfl) ?_
              refine Q_val (V_idxAddr rfl rfl rfl (SlE.rd (by assumption)) (by omega) (by omega)) rfl rfl (.yes rfl rfl rfl rfl) ?_
              refine Q_val (V_loadS rfl rfl (SlE.rd (by assumption)) (by assumption) (by simp)) rfl rfl (.yes rfl rfl rfl rfl) ?_
              refine Q_val (V_pick_t rfl rfl rfl) rfl rfl (.none rfl) ?_
              exact FQ_end 5 rfl rfl (by kernel_rfl)
            · intro H4
              dsimp only [List.take]
              refine Q_stay (.no rfl rfl rfl rfl) rfl rfl ?_
              refine Q_stay (.no rfl rfl rfl rfl) rfl rfl ?_
              refine Q_stay (.no rfl rfl rfl rfl) rfl rfl ?_
              refine Q_stay (.no rfl rfl rfl rfl) rfl rfl ?_
              refine Q_val (V_pick_f rfl rfl rfl) rfl rfl (.none rfl) ?_
              exact FQ_end 5 rfl rfl (by kernel_rfl)
            dsimp only [List.drop]
            refine Q_val (V_assign rfl rfl) rfl rfl (.none rfl) ?_
            refine Q_val (V_assign rfl rfl) rfl rfl (.none rfl) ?_
            refine Q_end ?_
            refine X_then ?_
            refine G_draw mixed (by kernel_rfl) ?_
            refine Q_val (V_move rfl rfl) rfl rfl (.none rfl) ?_
            refine Q_val (V_move rfl rfl) rfl rfl (.none rfl) ?_
            refine Q_val (V_move rfl rfl) rfl rfl (.none rfl) ?_
            refine Q_val (V_idxAddr rfl rfl rfl (SlE.rd (by assumption)) (by omega) (by omega)) rfl rfl (.none rfl) ?_
            refine Q_val (V_loadS rfl rfl (SlE.rd (by assumption)) (by assumption) (by simp)) rfl rfl (.none rfl) ?_
            refine Q_val (V_add_i64 rfl rfl rfl (by omega) (by omega)) rfl rfl (.none rfl) ?_
            refine Q_val (V_move rfl rfl) rfl rfl (.none rfl) ?_
            refine Q_val (V_move rfl rfl) rfl rfl (.none rfl) ?_
            refine Q_val (V_move rfl rfl) rfl rfl (.none rfl) ?_
            refine Q_val (V_idxAddr rfl rfl rfl (SlE.rd (by assumption)) (by omega) (by omega)) rfl rfl (.none rfl) ?_
            refine Q_val (V_loadS rfl rfl (SlE.rd (by assumption)) (by assumption) (by simp)) rfl rfl (.none rfl) ?_
            refine Q_val (V_add_i64 rfl rfl rfl (by omega) (by omega)) rfl rfl (.none rfl) ?_
            refine Q_val (V_assign rfl rfl) rfl rfl (.none rfl) ?_
            refine Q_val (V_assign rfl rfl) rfl rfl (.none rfl) ?_
            refine Q_end ?_
            refine X_block (X_then (G_region ?_))
            refine G_val (V_move rfl rfl) rfl rfl (.none rfl) ?_
            refine G_val (V_add_i64 rfl rfl rfl (by omega) (by omega)) rfl rfl (.none rfl) ?_
            refine G_val (V_assign rfl rfl) rfl rfl (.none rfl) ?_
            refine G_end (X_then ?_)
            exact G_again (j + 1) hjlt (by omega) (by simp only [ta1, ta2, ts1, ts2]; exact ⟨rfl, rfl, rfl, rfl, rfl, rfl, rfl, rfl, rfl, rfl, rfl, rfl, rfl, rfl, rfl, (congrArg (fun n => some (Value.int .i64 n)) (by rw [Int.add_assoc])), rfl, trivial⟩) rfl rfl
        · have etk : rows[k].2.2.2.take j = rows[k].2.2.2 := List.take_of_length_le (by omega)
          rw [etk] at sb1 sb2 ⊢
          cases hgd : rows[k].2.2.2.all (goodB true ((fl z5).map Option.isSome)) with
          | true =>
            by_cases hu1 : encR (-1) (foldC (some 1) 0 (fl z5) (16 + (i : Int)) (z5.prods.take k)) = -1 ∨ sumI 1 (-1) (fl z5) rows[k].2.2.2 < encR (-1) (foldC (some 1) 0 (fl z5) (16 + (i : Int)) (z5.prods.take k))
            · obtain ⟨c1, c2⟩ := a1 hgd (by simpa using hu1)
              cases hvd : rows[k].2.2.2.all (goodB false ((ft z5).map Option.isSome)) with
              | true =>
                by_cases hu2 : encR 0 (foldC none 1 (ft z5) (16 + (i : Int)) (z5.prods.take k)) = 0 ∨ 1 + sumI 0 0 (ft z5) rows[k].2.2.2 < encR 0 (foldC none 1 (ft z5) (16 + (i : Int)) (z5.prods.take k))
                · obtain ⟨d1, d2⟩ := b1 hvd (by simpa using hu2)
                  refine G_seq (G_seq (G_region ?_))
                  refine G_val (V_move rfl rfl) rfl rfl (.none rfl) ?_
                  refine G_val (V_fieldAddr rfl rfl (by decide)) rfl rfl (.none rfl) ?_
                  refine G_val (V_load rfl rfl (Cell.own (.head _) rfl)) rfl rfl (.none rfl) ?_
                  refine G_val (V_move rfl rfl) rfl rfl (.none rfl) ?_
                  refine G_val (V_idxAddr rfl rfl rfl (SlE.rd (by assumption)) (by omega) (by omega)) rfl rfl (.none rfl) ?_
                  refine G_val (V_fieldAddrE rfl rfl (by assumption) (by omega) (by decide)) rfl rfl (.none rfl) ?_
                  refine G_val (V_loadS rfl rfl (SlE.rd (by assumption)) (by assumption) (by simp)) rfl rfl (.none rfl) ?_
                  refine G_val (V_lenS rfl rfl) rfl rfl (.none rfl) ?_
                  refine G_val (V_lss rfl rfl rfl) rfl rfl (.none rfl) ?_
                  refine G_end (X_then ?_)
                  refine G_cond_f rfl (decide_eq_false (by omega)) ?_
                  refine G_exit (X_then_exit (X_then_exit (X_block_hit (X_then (G_seq (G_region ?_))))))
                  refine G_val (V_move rfl rfl) rfl rfl (.none rfl) ?_
                  refine G_val (V_move rfl rfl) rfl rfl (.none rfl) ?_
                  apply G_joinOr 2 119 121 rfl
                  · intro H1
                    dsimp only [List.take]
                    refine G_stay (.no rfl rfl rfl rfl) rfl rfl ?_
                    refine G_val (V_pick_t rfl rfl rfl) rfl rfl (.none rfl) ?_
                    refine G_end ?_
                    exact JQ_end 2 rfl rfl (by kernel_rfl)
                  · intro H2
                    dsimp only [List.take]
                    refine G_val (V_move rfl rfl) rfl rfl (.yes rfl rfl rfl rfl) ?_
                    refine G_val (V_pick_f rfl rfl rfl) rfl rfl (.none rfl) ?_
                    refine G_end ?_
                    exact JQ_end 2 rfl rfl (by kernel_rfl)
                  dsimp only [List.drop]
                  refine G_val (V_move rfl rfl) rfl rfl (.none rfl) ?_
                  refine G_val (V_move rfl rfl) rfl rfl (.none rfl) ?_
                  apply G_joinOr 2 123 125 rfl
                  · intro H3
                    dsimp only [List.take]
                    refine G_stay (.no rfl rfl rfl rfl) rfl rfl ?_
                    refine G_val (V_pick_t rfl rfl rfl) rfl rfl (.none rfl) ?_
                    refine G_end ?_
                    exact JQ_end 2 rfl rfl (by kernel_rfl)
                  · intro H4
                    dsimp only [List.take]
                    refine G_val (V_move rfl rfl) rfl rfl (.yes rfl rfl rfl rfl) ?_
                    refine G_val (V_pick_f rfl rfl rfl) rfl rfl (.none rfl) ?_
                    refine G_end ?_
                    exact JQ_end 2 rfl rfl (by kernel_rfl)
                  dsimp only [List.drop]
                  refine G_val (V_assign rfl rfl) rfl rfl (.none rfl) ?_
                  refine G_val (V_assign rfl rfl) rfl rfl (.none rfl) ?_
                  refine G_end (X_then (G_seq (G_seq (G_region ?_))))
                  refine G_val (V_move rfl rfl) rfl rfl (.none rfl) ?_
                  refine G_val (V_move rfl rfl) rfl rfl (.none rfl) ?_
                  refine G_val (V_move rfl rfl) rfl rfl (.yes rfl rfl rfl rfl) ?_
                  refine G_val (V_lss rfl rfl rfl) rfl rfl (.yes rfl rfl rfl rfl) ?_
                  refine G_val (V_move rfl rfl) rfl rfl (.yes rfl rfl rfl rfl) ?_
                  apply G_joinOr 4 130 134 rfl
                  · intro H5
                    dsimp only [List.take]
                    simp only [Bool.and_eq_true, Bool.or_eq_true, Bool.not_eq_true', Bool.not_eq_false', Bool.and_eq_false_iff, Bool.or_eq_false_iff, Bool.not_not, decide_eq_true_eq, decide_eq_false_iff_not, ne_eq, Decidable.not_not, Bool.decide_eq_true] at H5
                    refine G_stay (.no rfl rfl rfl rfl) rfl rfl ?_
                    refine G_stay (.no rfl rfl rfl rfl) rfl rfl ?_
                    refine G_stay (.no rfl rfl rfl rfl) rfl rfl ?_
                    refine G_val (V_pick_t rfl rfl rfl) rfl rfl (.yes rfl rfl rfl rfl) ?_
                    refine G_end ?_
                    exact JQ_end 4 rfl rfl (by kernel_rfl)
                  · intro H6
                    dsimp only [List.take]
                    simp only [Bool.and_eq_true, Bool.or_eq_true, Bool.not_eq_true', Bool.not_eq_false', Bool.and_eq_false_iff, Bool.or_eq_false_iff, Bool.not_not, decide_eq_true_eq, decide_eq_false_iff_not, ne_eq, Decidable.not_not, Bool.decide_eq_true] at H6
                    refine G_val (V_move rfl rfl) rfl rfl (.yes rfl rfl rfl rfl) ?_
                    refine G_val (V_move rfl rfl) rfl rfl (.yes rfl rfl rfl rfl) ?_
                    refine G_val (V_lss rfl rfl rfl) rfl rfl (.yes rfl rfl rfl rfl) ?_
                    refine G_val (V_pick_f rfl rfl rfl) rfl rfl (.yes rfl rfl rfl rfl) ?_
                    refine G_end ?_
                    exact JQ_end 4 rfl rfl (by kernel_rfl)
                  dsimp only [List.drop]
                  refine G_val (V_pick_t rfl rfl rfl) rfl rfl (.none rfl) ?_
                  refine G_end (X_then ?_)
                  refine G_condS rfl (fun H10 => ?_) (fun H10 => ?_)
                  · simp only [Bool.and_eq_true, Bool.or_eq_true, Bool.not_eq_true', Bool.not_eq_false', Bool.and_eq_false_iff, Bool.or_eq_false_iff, Bool.not_not, decide_eq_true_eq, decide_eq_false_iff_not, ne_eq, Decidable.not_not, Bool.decide_eq_true] at H10
                    (exfalso; omega)
                  simp only [Bool.and_eq_true, Bool.or_eq_true, Bool.not_eq_true', Bool.not_eq_false', Bool.and_eq_false_iff, Bool.or_eq_false_iff, Bool.not_not, decide_eq_true_eq, decide_eq_false_iff_not, ne_eq, Decidable.not_not, Bool.decide_eq_true] at H10
                  refine G_region ?_
                  refine G_val (V_move rfl rfl) rfl rfl (.none rfl) ?_
                  refine G_val (V_assign rfl rfl) rfl rfl (.none rfl) ?_
                  refine G_end (X_then (G_seq (G_region ?_)))
                  refine G_val (V_move rfl rfl) rfl rfl (.none rfl) ?_
                  refine G_val (V_move rfl rfl) rfl rfl (.none rfl) ?_
                  refine G_val (V_move rfl rfl) rfl rfl (.yes rfl rfl rfl rfl) ?_
                  refine G_val (V_eql rfl rfl rfl) rfl rfl (.yes rfl rfl rfl rfl) ?_
                  refine G_val (V_move rfl rfl) rfl rfl (.yes rfl rfl rfl rfl) ?_
                  apply G_joinOr 4 141 145 rfl
                  · intro H11
                    dsimp only [List.take]
                    simp only [Bool.and_eq_true, Bool.or_eq_true, Bool.not_eq_true', Bool.not_eq_false', Bool.and_eq_false_iff, Bool.or_eq_false_iff, Bool.not_not, decide_eq_true_eq, decide_eq_false_iff_not, ne_eq, Decidable.not_not, Bool.decide_eq_true] at H11
                    refine G_stay (.no rfl rfl rfl rfl) rfl rfl ?_
                    refine G_stay (.no rfl rfl rfl rfl) rfl rfl ?_
                    refine G_stay (.no rfl rfl rfl rfl) rfl rfl ?_
                    refine G_val (V_pick_t rfl rfl rfl) rfl rfl (.yes rfl rfl rfl rfl) ?_
                    refine G_end ?_
                    exact JQ_end 4 rfl rfl (by kernel_rfl)
                  · intro H12
                    dsimp only [List.take]
                    simp only [Bool.and_eq_true, Bool.or_eq_true, Bool.not_eq_true', Bool.not_eq_false', Bool.and_eq_false_iff, Bool.or_eq_false_iff, Bool.not_not, decide_eq_true_eq, decide_eq_false_iff_not, ne_eq, Decidable.not_not, Bool.decide_eq_true] at H12
                    refine G_val (V_move rfl rfl) rfl rfl (.yes rfl rfl rfl rfl) ?_
                    refine G_val (V_move rfl rfl) rfl rfl (.yes rfl rfl rfl rfl) ?_
                    refine G_val (V_lss rfl rfl rfl) rfl rfl (.yes rfl rfl rfl rfl) ?_
                    refine G_val (V_pick_f rfl rfl rfl) rfl rfl (.yes rfl rfl rfl rfl) ?_
                    refine G_end ?_
                    exact JQ_end 4 rfl rfl (by kernel_rfl)
                  dsimp only [List.drop]
                  refine G_val (V_pick_t rfl rfl rfl) rfl rfl (.none rfl) ?_
                  refine G_end (X_then ?_)
                  refine G_cond_t rfl (by simp [*]; done) ?_
                  refine G_region ?_
                  refine G_val (V_move rfl rfl) rfl rfl (.none rfl) ?_
                  refine G_val (V_assign rfl rfl) rfl rfl (.none rfl) ?_
                  refine G_end (X_block (X_then (G_region ?_)))
                  refine G_val (V_move rfl rfl) rfl rfl (.none rfl) ?_
                  refine G_val (V_add_i64 rfl rfl rfl (by omega) (by omega)) rfl rfl (.none rfl) ?_
                  refine G_val (V_assign rfl rfl) rfl rfl (.none rfl) ?_
                  refine G_end (X_then ?_)
                  refine G_again (k + 1) hlt2 (by omega) ⟨rfl, rfl, rfl, rfl, rfl, rfl, rfl, (congrArg (fun b => some (Value.bool b)) (by rw [c2, Bool.or_true])), (congrArg (fun b => some (Value.bool b)) (by rw [d2, Bool.or_true])), (congrArg (fun n => some (Value.int .i64 n)) (by rw [c1]; simp)), (congrArg (fun n => some (Value.int .i64 n)) (by rw [d1]; simp)), rfl, trivial⟩ rfl rfl
                · obtain ⟨d1, d2⟩ := b2 hvd (by simpa using hu2)
                  refine G_seq (G_seq (G_region ?_))
                  refine G_val (V_move rfl rfl) rfl rfl (.none rfl) ?_
                  refine G_val (V_fieldAddr rfl rfl (by decide)) rfl rfl (.none rfl) ?_
                  refine G_val (V_load rfl rfl (Cell.own (.head _) rfl)) rfl rfl (.none rfl) ?_
                  refine G_val (V_move rfl rfl) rfl rfl (.none rfl) ?_
                  refine G_val (V_idxAddr rfl rfl rfl (SlE.rd (by assumption)) (by omega) (by omega)) rfl rfl (.none rfl) ?_
                  refine G_val (V_fieldAddrE rfl rfl (by assumption) (by omega) (by decide)) rfl rfl (.none rfl) ?_
                  refine G_val (V_loadS rfl rfl (SlE.rd (by assumption)) (by assumption) (by simp)) rfl rfl (.none rfl) ?_
                  refine G_val (V_lenS rfl rfl) rfl rfl (.none rfl) ?_
                  refine G_val (V_lss rfl rfl rfl) rfl rfl (.none rfl) ?_
                  refine G_end (X_then ?_)
                  refine G_cond_f rfl (decide_eq_false (by omega)) ?_
                  refine G_exit (X_then_exit (X_then_exit (X_block_hit (X_then (G_seq (G_region ?_))))))
                  refine G_val (V_move rfl rfl) rfl rfl (.none rfl) ?_
                  refine G_val (V_move rfl rfl) rfl rfl (.none rfl) ?_
                  apply G_joinOr 2 119 121 rfl
                  · intro H1
                    dsimp only [List.take]
                    refine G_stay (.no rfl rfl rfl rfl) rfl rfl ?_
                    refine G_val (V_pick_t rfl rfl rfl) rfl rfl (.none rfl) ?_
                    refine G_end ?_
                    exact JQ_end 2 rfl rfl (by kernel_rfl)
                  · intro H2
                    dsimp only [List.take]
                    refine G_val (V_move rfl rfl) rfl rfl (.yes rfl rfl rfl rfl) ?_
                    refine G_val (V_pick_f rfl rfl rfl) rfl rfl (.none rfl) ?_
                    refine G_end ?_
                    exact JQ_end 2 rfl rfl (by kernel_rfl)
                  dsimp only [List.drop]
                  refine G_val (V_move rfl rfl) rfl rfl (.none rfl) ?_
                  refine G_val (V_move rfl rfl) rfl rfl (.none rfl) ?_
                  apply G_joinOr 2 123 125 rfl
                  · intro H3
                    dsimp only [List.take]
                    refine G_stay (.no rfl rfl rfl rfl) rfl rfl ?_
                    refine G_val (V_pick_t rfl rfl rfl) rfl rfl (.none rfl) ?_
                    refine G_end ?_
                    exact JQ_end 2 rfl rfl (by kernel_rfl)
                  · intro H4
                    dsimp only [List.take]
                    refine G_val (V_move rfl rfl) rfl rfl (.yes rfl rfl rfl rfl) ?_
                    refine G_val (V_pick_f rfl rfl rfl) rfl rfl (.none rfl) ?_
                    refine G_end ?_
                    exact JQ_end 2 rfl rfl (by kernel_rfl)
                  dsimp only [List.drop]
                  refine G_val (V_assign rfl rfl) rfl rfl (.none rfl) ?_
                  refine G_val (V_assign rfl rfl) rfl rfl (.none rfl) ?_
                  refine G_end (X_then (G_seq (G_seq (G_region ?_))))
                  refine G_val (V_move rfl rfl) rfl rfl (.none rfl) ?_
                  refine G_val (V_move rfl rfl) rfl rfl (.none rfl) ?_
                  refine G_val (V_move rfl rfl) rfl rfl (.yes rfl rfl rfl rfl) ?_
                  refine G_val (V_lss rfl rfl rfl) rfl rfl (.yes rfl rfl rfl rfl) ?_
                  refine G_val (V_move rfl rfl) rfl rfl (.yes rfl rfl rfl rfl) ?_
                  apply G_joinOr 4 130 134 rfl
                  · intro H5
                    dsimp only [List.take]
                    simp only [Bool.and_eq_true, Bool.or_eq_true, Bool.not_eq_true', Bool.not_eq_false', Bool.and_eq_false_iff, Bool.or_eq_false_iff, Bool.not_not, decide_eq_true_eq, decide_eq_false_iff_not, ne_eq, Decidable.not_not, Bool.decide_eq_true] at H5
                    refine G_stay (.no rfl rfl rfl rfl) rfl rfl ?_
                    refine G_stay (.no rfl rfl rfl rfl) rfl rfl ?_
                    refine G_stay (.no rfl rfl rfl rfl) rfl rfl ?_
                    refine G_val (V_pick_t rfl rfl rfl) rfl rfl (.yes rfl rfl rfl rfl) ?_
                    refine G_end ?_
                    exact JQ_end 4 rfl rfl (by kernel_rfl)
                  · intro H6
                    dsimp only [List.take]
                    simp only [Bool.and_eq_true, Bool.or_eq_true, Bool.not_eq_true', Bool.not_eq_false', Bool.and_eq_false_iff, Bool.or_eq_false_iff, Bool.not_not, decide_eq_true_eq, decide_eq_false_iff_not, ne_eq, Decidable.not_not, Bool.decide_eq_true] at H6
                    refine G_val (V_move rfl rfl) rfl rfl (.yes rfl rfl rfl rfl) ?_
                    refine G_val (V_move rfl rfl) rfl rfl (.yes rfl rfl rfl rfl) ?_
                    refine G_val (V_lss rfl rfl rfl) rfl rfl (.yes rfl rfl rfl rfl) ?_
                    refine G_val (V_pick_f rfl rfl rfl) rfl rfl (.yes rfl rfl rfl rfl) ?_
                    refine G_end ?_
                    exact JQ_end 4 rfl rfl (by kernel_rfl)
                  dsimp only [List.drop]
                  refine G_val (V_pick_t rfl rfl rfl) rfl rfl (.none rfl) ?_
                  refine G_end (X_then ?_)
                  refine G_condS rfl (fun H8 => ?_) (fun H8 => ?_)
                  · simp only [Bool.and_eq_true, Bool.or_eq_true, Bool.not_eq_true', Bool.not_eq_false', Bool.and_eq_false_iff, Bool.or_eq_false_iff, Bool.not_not, decide_eq_true_eq, decide_eq_false_iff_not, ne_eq, Decidable.not_not, Bool.decide_eq_true] at H8
                    (exfalso; omega)
                  simp only [Bool.and_eq_true, Bool.or_eq_true, Bool.not_eq_true', Bool.not_eq_false', Bool.and_eq_false_iff, Bool.or_eq_false_iff, Bool.not_not, decide_eq_true_eq, decide_eq_false_iff_not, ne_eq, Decidable.not_not, Bool.decide_eq_true] at H8
                  refine G_region ?_
                  refine G_val (V_move rfl rfl) rfl rfl (.none rfl) ?_
                  refine G_val (V_assign rfl rfl) rfl rfl (.none rfl) ?_
                  refine G_end (X_then (G_seq (G_region ?_)))
                  refine G_val (V_move rfl rfl) rfl rfl (.none rfl) ?_
                  refine G_val (V_move rfl rfl) rfl rfl (.none rfl) ?_
                  refine G_val (V_move rfl rfl) rfl rfl (.yes rfl rfl rfl rfl) ?_
                  refine G_val (V_eql rfl rfl rfl) rfl rfl (.yes rfl rfl rfl rfl) ?_
                  refine G_val (V_move rfl rfl) rfl rfl (.yes rfl rfl rfl rfl) ?_
                  refine G.bool_f 141 rfl (decide_eq_false (by omega)) ?_
                  refine G_val (V_move rfl rfl) rfl rfl (.yes rfl rfl rfl rfl) ?_
                  refine G_val (V_move rfl rfl) rfl rfl (.yes rfl rfl rfl rfl) ?_
                  refine G_val (V_lss rfl rfl rfl) rfl rfl (.yes rfl rfl rfl rfl) ?_
                  refine G_val (V_pick_f rfl rfl rfl) rfl rfl (.yes rfl rfl rfl rfl) ?_
                  refine G_val (V_pick_t rfl rfl rfl) rfl rfl (.none rfl) ?_
                  refine G_end (X_then ?_)
                  refine G_cond_f rfl (decide_eq_false (by omega)) ?_
                  refine G_skip (X_block (X_then (G_region ?_)))
                  refine G_val (V_move rfl rfl) rfl rfl (.none rfl) ?_
                  refine G_val (V_add_i64 rfl rfl rfl (by omega) (by omega)) rfl rfl (.none rfl) ?_
                  refine G_val (V_assign rfl rfl) rfl rfl (.none rfl) ?_
                  refine G_end (X_then ?_)
                  refine G_again (k + 1) hlt2 (by omega) ⟨rfl, rfl, rfl, rfl, rfl, rfl, rfl, (congrArg (fun b => some (Value.bool b)) (by rw [c2, Bool.or_true])), (congrArg (fun b => some (Value.bool b)) (by rw [d2, Bool.or_true])), (congrArg (fun n => some (Value.int .i64 n)) (by rw [c1]; simp)), (congrArg (fun n => some (Value.int .i64 n)) (by rw [d1])), rfl, trivial⟩ rfl rfl
              | false =>
                have d1 := b3 hvd
                refine G_seq (G_seq (G_region ?_))
                refine G_val (V_move rfl rfl) rfl rfl (.none rfl) ?_
                refine G_val (V_fieldAddr rfl rfl (by decide)) rfl rfl (.none rfl) ?_
                refine G_val (V_load rfl rfl (Cell.own (.head _) rfl)) rfl rfl (.none rfl) ?_
                refine G_val (V_move rfl rfl) rfl rfl (.none rfl) ?_
                refine G_val (V_idxAddr rfl rfl rfl (SlE.rd (by assumption)) (by omega) (by omega)) rfl rfl (.none rfl) ?_
                refine G_val (V_fieldAddrE rfl rfl (by assumption) (by omega) (by decide)) rfl rfl (.none rfl) ?_
                refine G_val (V_loadS rfl rfl (SlE.rd (by assumption)) (by assumption) (by simp)) rfl rfl (.none rfl) ?_
                refine G_val (V_lenS rfl rfl) rfl rfl (.none rfl) ?_
                refine G_val (V_lss rfl rfl rfl) rfl rfl (.none rfl) ?_
                refine G_end (X_then ?_)
                refine G_cond_f rfl (decide_eq_false (by omega)) ?_
                refine G_exit (X_then_exit (X_then_exit (X_block_hit (X_then (G_seq (G_region ?_))))))
                refine G_val (V_move rfl rfl) rfl rfl (.none rfl) ?_
                refine G_val (V_move rfl rfl) rfl rfl (.none rfl) ?_
                apply G_joinOr 2 119 121 rfl
                · intro H1
                  dsimp only [List.take]
                  refine G_stay (.no rfl rfl rfl rfl) rfl rfl ?_
                  refine G_val (V_pick_t rfl rfl rfl) rfl rfl (.none rfl) ?_
                  refine G_end ?_
                  exact JQ_end 2 rfl rfl (by kernel_rfl)
                · intro H2
                  dsimp only [List.take]
                  refine G_val (V_move rfl rfl) rfl rfl (.yes rfl rfl rfl rfl) ?_
                  refine G_val (V_pick_f rfl rfl rfl) rfl rfl (.none rfl) ?_
                  refine G_end ?_
                  exact JQ_end 2 rfl rfl (by kernel_rfl)
                dsimp only [List.drop]
                refine G_val (V_move rfl rfl) rfl rfl (.none rfl) ?_
                refine G_val (V_move rfl rfl) rfl rfl (.none rfl) ?_
                apply G_joinOr 2 123 125 rfl
                · intro H3
                  dsimp only [List.take]
                  refine G_stay (.no rfl rfl rfl rfl) rfl rfl ?_
                  refine G_val (V_pick_t rfl rfl rfl) rfl rfl (.none rfl) ?_
                  refine G_end ?_
                  exact JQ_end 2 rfl rfl (by kernel_rfl)
                · intro H4
                  dsimp only [List.take]
                  refine G_val (V_move rfl rfl) rfl rfl (.yes rfl rfl rfl rfl) ?_
                  refine G_val (V_pick_f rfl rfl rfl) rfl rfl (.none rfl) ?_
                  refine G_end ?_
                  exact JQ_end 2 rfl rfl (by kernel_rfl)
                dsimp only [List.drop]
                refine G_val (V_assign rfl rfl) rfl rfl (.none rfl) ?_
                refine G_val (V_assign rfl rfl) rfl rfl (.none rfl) ?_
                refine G_end (X_then (G_seq (G_seq (G_region ?_))))
                refine G_val (V_move rfl rfl) rfl rfl (.none rfl) ?_
                refine G_val (V_move rfl rfl) rfl rfl (.none rfl) ?_
                refine G_val (V_move rfl rfl) rfl rfl (.yes rfl rfl rfl rfl) ?_
                refine G_val (V_lss rfl rfl rfl) rfl rfl (.yes rfl rfl rfl rfl) ?_
                refine G_val (V_move rfl rfl) rfl rfl (.yes rfl rfl rfl rfl) ?_
                apply G_joinOr 4 130 134 rfl
                · intro H5
                  dsimp only [List.take]
                  simp only [Bool.and_eq_true, Bool.or_eq_true, Bool.not_eq_true', Bool.not_eq_false', Bool.and_eq_false_iff, Bool.or_eq_false_iff, Bool.not_not, decide_eq_true_eq, decide_eq_false_iff_not, ne_eq, Decidable.not_not, Bool.decide_eq_true] at H5
                  refine G_stay (.no rfl rfl rfl rfl) rfl rfl ?_
                  refine G_stay (.no rfl rfl rfl rfl) rfl rfl ?_
                  refine G_stay (.no rfl rfl rfl rfl) rfl rfl ?_
                  refine G_val (V_pick_t rfl rfl rfl) rfl rfl (.yes rfl rfl rfl rfl) ?_
                  refine G_end ?_
                  exact JQ_end 4 rfl rfl (by kernel_rfl)
                · intro H6
                  dsimp only [List.take]
                  simp only [Bool.and_eq_true, Bool.or_eq_true, Bool.not_eq_true', Bool.not_eq_false', Bool.and_eq_false_iff, Bool.or_eq_false_iff, Bool.not_not, decide_eq_true_eq, decide_eq_false_iff_not, ne_eq, Decidable.not_not, Bool.decide_eq_true] at H6
                  refine G_val (V_move rfl rfl) rfl rfl (.yes rfl rfl rfl rfl) ?_
                  refine G_val (V_move rfl rfl) rfl rfl (.yes rfl rfl rfl rfl) ?_
                  refine G_val (V_lss rfl rfl rfl) rfl rfl (.yes rfl rfl rfl rfl) ?_
                  refine G_val (V_pick_f rfl rfl rfl) rfl rfl (.yes rfl rfl rfl rfl) ?_
                  refine G_end ?_
                  exact JQ_end 4 rfl rfl (by kernel_rfl)
                dsimp only [List.drop]
                refine G_val (V_pick_t rfl rfl rfl) rfl rfl (.none rfl) ?_
                refine G_end (X_then ?_)
                refine G_condS rfl (fun H8 => ?_) (fun H8 => ?_)
                · simp only [Bool.and_eq_true, Bool.or_eq_true, Bool.not_eq_true', Bool.not_eq_false', Bool.and_eq_false_iff, Bool.or_eq_false_iff, Bool.not_not, decide_eq_true_eq, decide_eq_false_iff_not, ne_eq, Decidable.not_not, Bool.decide_eq_true] at H8
                  (exfalso; omega)
                simp only [Bool.and_eq_true, Bool.or_eq_true, Bool.not_eq_true', Bool.not_eq_false', Bool.and_eq_false_iff, Bool.or_eq_false_iff, Bool.not_not, decide_eq_true_eq, decide_eq_false_iff_not, ne_eq, Decidable.not_not, Bool.decide_eq_true] at H8
                refine G_region ?_
                refine G_val (V_move rfl rfl) rfl rfl (.none rfl) ?_
                refine G_val (V_assign rfl rfl) rfl rfl (.none rfl) ?_
                refine G_end (X_then (G_seq (G_region ?_)))
                refine G_val (V_move rfl rfl) rfl rfl (.none rfl) ?_
                refine G_val (V_move rfl rfl) rfl rfl (.none rfl) ?_
                refine G_stay (.no rfl rfl rfl rfl) rfl rfl ?_
                refine G_stay (.no rfl rfl rfl rfl) rfl rfl ?_
                refine G_stay (.no rfl rfl rfl rfl) rfl rfl ?_
                refine G_stay (.un rfl rfl rfl rfl) rfl rfl ?_
                refine G_stay (.un rfl rfl rfl rfl) rfl rfl ?_
                refine G_stay (.un rfl rfl rfl rfl) rfl rfl ?_
                refine G_stay (.no rfl rfl rfl rfl) rfl rfl ?_
                refine G_val (V_pick_f rfl rfl rfl) rfl rfl (.none rfl) ?_
                refine G_end (X_then ?_)
                refine G_cond_f rfl rfl ?_
                refine G_skip (X_block (X_then (G_region ?_)))
                refine G_val (V_move rfl rfl) rfl rfl (.none rfl) ?_
                refine G_val (V_add_i64 rfl rfl rfl (by omega) (by omega)) rfl rfl (.none rfl) ?_
                refine G_val (V_assign rfl rfl) rfl rfl (.none rfl) ?_
                refine G_end (X_then ?_)
                refine G_again (k + 1) hlt2 (by omega) ⟨rfl, rfl, rfl, rfl, rfl, rfl, rfl, (congrArg (fun b => some (Value.bool b)) (by rw [c2, Bool.or_true])), (congrArg (fun b => some (Value.bool b)) (by rw [d1, Bool.or_false])), (congrArg (fun n => some (Value.int .i64 n)) (by rw [c1]; simp)), (congrArg (fun n => some (Value.int .i64 n)) (by rw [d1])), rfl, trivial⟩ rfl rfl
            · obtain ⟨c1, c2⟩ := a2 hgd (by simpa using hu1)
              cases hvd : rows[k].2.2.2.all (goodB false ((ft z5).map Option.isSome)) with
              | true =>
                by_cases hu2 : encR 0 (foldC none 1 (ft z5) (16 + (i : Int)) (z5.prods.take k)) = 0 ∨ 1 + sumI 0 0 (ft z5) rows[k].2.2.2 < encR 0 (foldC none 1 (ft z5) (16 + (i : Int)) (z5.prods.take k))
                · obtain ⟨d1, d2⟩ := b1 hvd (by simpa using hu2)
                  refine G_seq (G_seq (G_region ?_))
                  refine G_val (V_move rfl rfl) rfl rfl (.none rfl) ?_
                  refine G_val (V_fieldAddr rfl rfl (by decide)) rfl rfl (.none rfl) ?_
                  refine G_val (V_load rfl rfl (Cell.own (.head _) rfl)) rfl rfl (.none rfl) ?_
                  refine G_val (V_move rfl rfl) rfl rfl (.none rfl) ?_
                  refine G_val (V_idxAddr rfl rfl rfl (SlE.rd (by assumption)) (by omega) (by omega)) rfl rfl (.none rfl) ?_
                  refine G_val (V_fieldAddrE rfl rfl (by assumption) (by omega) (by decide)) rfl rfl (.none rfl) ?_
                  refine G_val (V_loadS rfl rfl (SlE.rd (by assumption)) (by assumption) (by simp)) rfl rfl (.none rfl) ?_
                  refine G_val (V_lenS rfl rfl) rfl rfl (.none rfl) ?_
                  refine G_val (V_lss rfl rfl rfl) rfl rfl (.none rfl) ?_
                  refine G_end (X_then ?_)
                  refine G_cond_f rfl (decide_eq_false (by omega)) ?_
                  refine G_exit (X_then_exit (X_then_exit (X_block_hit (X_then (G_seq (G_region ?_))))))
                  refine G_val (V_move rfl rfl) rfl rfl (.none rfl) ?_
                  refine G_val (V_move rfl rfl) rfl rfl (.none rfl) ?_
                  apply G_joinOr 2 119 121 rfl
                  · intro H1
                    dsimp only [List.take]
                    refine G_stay (.no rfl rfl rfl rfl) rfl rfl ?_
                    refine G_val (V_pick_t rfl rfl rfl) rfl rfl (.none rfl) ?_
                    refine G_end ?_
                    exact JQ_end 2 rfl rfl (by kernel_rfl)
                  · intro H2
                    dsimp only [List.take]
                    refine G_val (V_move rfl rfl) rfl rfl (.yes rfl rfl rfl rfl) ?_
                    refine G_val (V_pick_f rfl rfl rfl) rfl rfl (.none rfl) ?_
                    refine G_end ?_
                    exact JQ_end 2 rfl rfl (by kernel_rfl)
                  dsimp only [List.drop]
                  refine G_val (V_move rfl rfl) rfl rfl (.none rfl) ?_
                  refine G_val (V_move rfl rfl) rfl rfl (.none rfl) ?_
                  apply G_joinOr 2 123 125 rfl
                  · intro H3
                    dsimp only [List.take]
                    refine G_stay (.no rfl rfl rfl rfl) rfl rfl ?_
                    refine G_val (V_pick_t rfl rfl rfl) rfl rfl (.none rfl) ?_
                    refine G_end ?_
                    exact JQ_end 2 rfl rfl (by kernel_rfl)
                  · intro H4
                    dsimp only [List.take]
                    refine G_val (V_move rfl rfl) rfl rfl (.yes rfl rfl rfl rfl) ?_
                    refine G_val (V_pick_f rfl rfl rfl) rfl rfl (.none rfl) ?_
                    refine G_end ?_
                    exact JQ_end 2 rfl rfl (by kernel_rfl)
                  dsimp only [List.drop]
                  refine G_val (V_assign rfl rfl) rfl rfl (.none rfl) ?_
                  refine G_val (V_assign rfl rfl) rfl rfl (.none rfl) ?_
                  refine G_end (X_then (G_seq (G_seq (G_region ?_))))
                  refine G_val (V_move rfl rfl) rfl rfl (.none rfl) ?_
                  refine G_val (V_move rfl rfl) rfl rfl (.none rfl) ?_
                  refine G_val (V_move rfl rfl) rfl rfl (.yes rfl rfl rfl rfl) ?_
                  refine G_val (V_lss rfl rfl rfl) rfl rfl (.yes rfl rfl rfl rfl) ?_
                  refine G_val (V_move rfl rfl) rfl rfl (.yes rfl rfl rfl rfl) ?_
                  refine G.bool_f 130 rfl (decide_eq_false (by omega)) ?_
                  refine G_val (V_move rfl rfl) rfl rfl (.yes rfl rfl rfl rfl) ?_
                  refine G_val (V_move rfl rfl) rfl rfl (.yes rfl rfl rfl rfl) ?_
                  refine G_val (V_lss rfl rfl rfl) rfl rfl (.yes rfl rfl rfl rfl) ?_
                  refine G_val (V_pick_f rfl rfl rfl) rfl rfl (.yes rfl rfl rfl rfl) ?_
                  refine G_val (V_pick_t rfl rfl rfl) rfl rfl (.none rfl) ?_
                  refine G_end (X_then ?_)
                  refine G_cond_f rfl (decide_eq_false (by omega)) ?_
                  refine G_skip (X_then (G_seq (G_region ?_)))
                  refine G_val (V_move rfl rfl) rfl rfl (.none rfl) ?_
                  refine G_val (V_move rfl rfl) rfl rfl (.none rfl) ?_
                  refine G_val (V_move rfl rfl) rfl rfl (.yes rfl rfl rfl rfl) ?_
                  refine G_val (V_eql rfl rfl rfl) rfl rfl (.yes rfl rfl rfl rfl) ?_
                  refine G_val (V_move rfl rfl) rfl rfl (.yes rfl rfl rfl rfl) ?_
                  apply G_joinOr 4 141 145 rfl
                  · intro H5
                    dsimp only [List.take]
                    simp only [Bool.and_eq_true, Bool.or_eq_true, Bool.not_eq_true', Bool.not_eq_false', Bool.and_eq_false_iff, Bool.or_eq_false_iff, Bool.not_not, decide_eq_true_eq, decide_eq_false_iff_not, ne_eq, Decidable.not_not, Bool.decide_eq_true] at H5
                    refine G_stay (.no rfl rfl rfl rfl) rfl rfl ?_
                    refine G_stay (.no rfl rfl rfl rfl) rfl rfl ?_
                    refine G_stay (.no rfl rfl rfl rfl) rfl rfl ?_
                    refine G_val (V_pick_t rfl rfl rfl) rfl rfl (.yes rfl rfl rfl rfl) ?_
                    refine G_end ?_
                    exact JQ_end 4 rfl rfl (by kernel_rfl)
                  · intro H6
                    dsimp only [List.take]
                    simp only [Bool.and_eq_true, Bool.or_eq_true, Bool.not_eq_true', Bool.not_eq_false', Bool.and_eq_false_iff, Bool.or_eq_false_iff, Bool.not_not, decide_eq_true_eq, decide_eq_false_iff_not, ne_eq, Decidable.not_not, Bool.decide_eq_true] at H6
                    refine G_val (V_move rfl rfl) rfl rfl (.yes rfl rfl rfl rfl) ?_
                    refine G_val (V_move rfl rfl) rfl rfl (.yes rfl rfl rfl rfl) ?_
                    refine G_val (V_lss rfl rfl rfl) rfl rfl (.yes rfl rfl rfl rfl) ?_
                    refine G_val (V_pick_f rfl rfl rfl) rfl rfl (.yes rfl rfl rfl rfl) ?_
                    refine G_end ?_
                    exact JQ_end 4 rfl rfl (by kernel_rfl)
                  dsimp only [List.drop]
                  refine G_val (V_pick_t rfl rfl rfl) rfl rfl (.none rfl) ?_
                  refine G_end (X_then ?_)
                  refine G_cond_t rfl (by simp [*]; done) ?_
                  refine G_region ?_
                  refine G_val (V_move rfl rfl) rfl rfl (.none rfl) ?_
                  refine G_val (V_assign rfl rfl) rfl rfl (.none rfl) ?_
                  refine G_end (X_block (X_then (G_region ?_)))
                  refine G_val (V_move rfl rfl) rfl rfl (.none rfl) ?_
                  refine G_val (V_add_i64 rfl rfl rfl (by omega) (by omega)) rfl rfl (.none rfl) ?_
                  refine G_val (V_assign rfl rfl) rfl rfl (.none rfl) ?_
                  refine G_end (X_then ?_)
                  refine G_again (k + 1) hlt2 (by omega) ⟨rfl, rfl, rfl, rfl, rfl, rfl, rfl, (congrArg (fun b => some (Value.bool b)) (by rw [c2, Bool.or_true])), (congrArg (fun b => some (Value.bool b)) (by rw [d2, Bool.or_true])), (congrArg (fun n => some (Value.int .i64 n)) (by rw [c1])), (congrArg (fun n => some (Value.int .i64 n)) (by rw [d1]; simp)), rfl, trivial⟩ rfl rfl
                · obtain ⟨d1, d2⟩ := b2 hvd (by simpa using hu2)
                  refine G_seq (G_seq (G_region ?_))
                  refine G_val (V_move rfl rfl) rfl rfl (.none rfl) ?_
                  refine G_val (V_fieldAddr rfl rfl (by decide)) rfl rfl (.none rfl) ?_
                  refine G_val (V_load rfl rfl (Cell.own (.head _) rfl)) rfl rfl (.none rfl) ?_
                  refine G_val (V_move rfl rfl) rfl rfl (.none rfl) ?_
                  refine G_val (V_idxAddr rfl rfl rfl (SlE.rd (by assumption)) (by omega) (by omega)) rfl rfl (.none rfl) ?_
                  refine G_val (V_fieldAddrE rfl rfl (by assumption) (by omega) (by decide)) rfl rfl (.none rfl) ?_
                  refine G_val (V_loadS rfl rfl (SlE.rd (by assumption)) (by assumption) (by simp)) rfl rfl (.none rfl) ?_
                  refine G_val (V_lenS rfl rfl) rfl rfl (.none rfl) ?_
                  refine G_val (V_lss rfl rfl rfl) rfl rfl (.none rfl) ?_
                  refine G_end (X_then ?_)
                  refine G_cond_f rfl (decide_eq_false (by omega)) ?_
                  refine G_exit (X_then_exit (X_then_exit (X_block_hit (X_then (G_seq (G_region ?_))))))
                  refine G_val (V_move rfl rfl) rfl rfl (.none rfl) ?_
                  refine G_val (V_move rfl rfl) rfl rfl (.none rfl) ?_
                  apply G_joinOr 2 119 121 rfl
                  · intro H1
                    dsimp only [List.take]
                    refine G_stay (.no rfl rfl rfl rfl) rfl rfl ?_
                    refine G_val (V_pick_t rfl rfl rfl) rfl rfl (.none rfl) ?_
                    refine G_end ?_
                    exact JQ_end 2 rfl rfl (by kernel_rfl)
                  · intro H2
                    dsimp only [List.take]
                    refine G_val (V_move rfl rfl) rfl rfl (.yes rfl rfl rfl rfl) ?_
                    refine G_val (V_pick_f rfl rfl rfl) rfl rfl (.none rfl) ?_
                    refine G_end ?_
                    exact JQ_end 2 rfl rfl (by kernel_rfl)
                  dsimp only [List.drop]
                  refine G_val (V_move rfl rfl) rfl rfl (.none rfl) ?_
                  refine G_val (V_move rfl rfl) rfl rfl (.none rfl) ?_
                  apply G_joinOr 2 123 125 rfl
                  · intro H3
                    dsimp only [List.take]
                    refine G_stay (.no rfl rfl rfl rfl) rfl rfl ?_
                    refine G_val (V_pick_t rfl rfl rfl) rfl rfl (.none rfl) ?_
                    refine G_end ?_
                    exact JQ_end 2 rfl rfl (by kernel_rfl)
                  · intro H4
                    dsimp only [List.take]
                    refine G_val (V_move rfl rfl) rfl rfl (.yes rfl rfl rfl rfl) ?_
                    refine G_val (V_pick_f rfl rfl rfl) rfl rfl (.none rfl) ?_
                    refine G_end ?_
                    exact JQ_end 2 rfl rfl (by kernel_rfl)
                  dsimp only [List.drop]
                  refine G_val (V_assign rfl rfl) rfl rfl (.none rfl) ?_
                  refine G_val (V_assign rfl rfl) rfl rfl (.none rfl) ?_
                  refine G_end (X_then (G_seq (G_seq (G_region ?_))))
                  refine G_val (V_move rfl rfl) rfl rfl (.none rfl) ?_
                  refine G_val (V_move rfl rfl) rfl rfl (.none rfl) ?_
                  refine G_val (V_move rfl rfl) rfl rfl (.yes rfl rfl rfl rfl) ?_
                  refine G_val (V_lss rfl rfl rfl) rfl rfl (.yes rfl rfl rfl rfl) ?_
                  refine G_val (V_move rfl rfl) rfl rfl (.yes rfl rfl rfl rfl) ?_
                  refine G.bool_f 130 rfl (decide_eq_false (by omega)) ?_
                  refine G_val (V_move rfl rfl) rfl rfl (.yes rfl rfl rfl rfl) ?_
                  refine G_val (V_move rfl rfl) rfl rfl (.yes rfl rfl rfl rfl) ?_
                  refine G_val (V_lss rfl rfl rfl) rfl rfl (.yes rfl rfl rfl rfl) ?_
                  refine G_val (V_pick_f rfl rfl rfl) rfl rfl (.yes rfl rfl rfl rfl) ?_
                  refine G_val (V_pick_t rfl rfl rfl) rfl rfl (.none rfl) ?_
                  refine G_end (X_then ?_)
                  refine G_cond_f rfl (decide_eq_false (by omega)) ?_
                  refine G_skip (X_then (G_seq (G_region ?_)))
                  refine G_val (V_move rfl rfl) rfl rfl (.none rfl) ?_
                  refine G_val (V_move rfl rfl) rfl rfl (.none rfl) ?_
                  refine G_val (V_move rfl rfl) rfl rfl (.yes rfl rfl rfl rfl) ?_
                  refine G_val (V_eql rfl rfl rfl) rfl rfl (.yes rfl rfl rfl rfl) ?_
                  refine G_val (V_move rfl rfl) rfl rfl (.yes rfl rfl rfl rfl) ?_
                  refine G.bool_f 141 rfl (decide_eq_false (by omega)) ?_
                  refine G_val (V_move rfl rfl) rfl rfl (.yes rfl rfl rfl rfl) ?_
                  refine G_val (V_move rfl rfl) rfl rfl (.yes rfl rfl rfl rfl) ?_
                  refine G_val (V_lss rfl rfl rfl) rfl rfl (.yes rfl rfl rfl rfl) ?_
                  refine G_val (V_pick_f rfl rfl rfl) rfl rfl (.yes rfl rfl rfl rfl) ?_
                  refine G_val (V_pick_t rfl rfl rfl) rfl rfl (.none rfl) ?_
                  refine G_end (X_then ?_)
                  refine G_cond_f rfl (decide_eq_false (by omega)) ?_
                  refine G_skip (X_block (X_then (G_region ?_)))
                  refine G_val (V_move rfl rfl) rfl rfl (.none rfl) ?_
                  refine G_val (V_add_i64 rfl rfl rfl (by omega) (by omega)) rfl rfl (.none rfl) ?_
                  refine G_val (V_assign rfl rfl) rfl rfl (.none rfl) ?_
                  refine G_end (X_then ?_)
                  refine G_again (k + 1) hlt2 (by omega) ⟨rfl, rfl, rfl, rfl, rfl, rfl, rfl, (congrArg (fun b => some (Value.bool b)) (by rw [c2, Bool.or_true])), (congrArg (fun b => some (Value.bool b)) (by rw [d2, Bool.or_true])), (congrArg (fun n => some (Value.int .i64 n)) (by rw [c1])), (congrArg (fun n => some (Value.int .i64 n)) (by rw [d1])), rfl, trivial⟩ rfl rfl
              | false =>
                have d1 := b3 hvd
                refine G_seq (G_seq (G_region ?_))
                refine G_val (V_move rfl rfl) rfl rfl (.none rfl) ?_
                refine G_val (V_fieldAddr rfl rfl (by decide)) rfl rfl (.none rfl) ?_
                refine G_val (V_load rfl rfl (Cell.own (.head _) rfl)) rfl rfl (.none rfl) ?_
                refine G_val (V_move rfl rfl) rfl rfl (.none rfl) ?_
                refine G_val (V_idxAddr rfl rfl rfl (SlE.rd (by assumption)) (by omega) (by omega)) rfl rfl (.none rfl) ?_
                refine G_val (V_fieldAddrE rfl rfl (by assumption) (by omega) (by decide)) rfl rfl (.none rfl) ?_
                refine G_val (V_loadS rfl rfl (SlE.rd (by assumption)) (by assumption) (by simp)) rfl rfl (.none rfl) ?_
                refine G_val (V_lenS rfl rfl) rfl rfl (.none rfl) ?_
                refine G_val (V_lss rfl rfl rfl) rfl rfl (.none rfl) ?_
                refine G_end (X_then ?_)
                refine G_cond_f rfl (decide_eq_false (by omega)) ?_
                refine G_exit (X_then_exit (X_then_exit (X_block_hit (X_then (G_seq (G_region ?_))))))
                refine G_val (V_move rfl rfl) rfl rfl (.none rfl) ?_
                refine G_val (V_move rfl rfl) rfl rfl (.none rfl) ?_
                apply G_joinOr 2 119 121 rfl
                · intro H1
                  dsimp only [List.take]
                  refine G_stay (.no rfl rfl rfl rfl) rfl rfl ?_
                  refine G_val (V_pick_t rfl rfl rfl) rfl rfl (.none rfl) ?_
                  refine G_end ?_
                  exact JQ_end 2 rfl rfl (by kernel_rfl)
                · intro H2
                  dsimp only [List.take]
                  refine G_val (V_move rfl rfl) rfl rfl (.yes rfl rfl rfl rfl) ?_
                  refine G_val (V_pick_f rfl rfl rfl) rfl rfl (.none rfl) ?_
                  refine G_end ?_
                  exact JQ_end 2 rfl rfl (by kernel_rfl)
                dsimp only [List.drop]
                refine G_val (V_move rfl rfl) rfl rfl (.none rfl) ?_
                refine G_val (V_move rfl rfl) rfl rfl (.none rfl) ?_
                apply G_joinOr 2 123 125 rfl
                · intro H3
                  dsimp only [List.take]
                  refine G_stay (.no rfl rfl rfl rfl) rfl rfl ?_
                  refine G_val (V_pick_t rfl rfl rfl) rfl rfl (.none rfl) ?_
                  refine G_end ?_
                  exact JQ_end 2 rfl rfl (by kernel_rfl)
                · intro H4
                  dsimp only [List.take]
                  refine G_val (V_move rfl rfl) rfl rfl (.yes rfl rfl rfl rfl) ?_
                  refine G_val (V_pick_f rfl rfl rfl) rfl rfl (.none rfl) ?_
                  refine G_end ?_
                  exact JQ_end 2 rfl rfl (by kernel_rfl)
                dsimp only [List.drop]
                refine G_val (V_assign rfl rfl) rfl rfl (.none rfl) ?_
                refine G_val (V_assign rfl rfl) rfl rfl (.none rfl) ?_
                refine G_end (X_then (G_seq (G_seq (G_region ?_))))
                refine G_val (V_move rfl rfl) rfl rfl (.none rfl) ?_
                refine G_val (V_move rfl rfl) rfl rfl (.none rfl) ?_
                refine G_val (V_move rfl rfl) rfl rfl (.yes rfl rfl rfl rfl) ?_
                refine G_val (V_lss rfl rfl rfl) rfl rfl (.yes rfl rfl rfl rfl) ?_
                refine G_val (V_move rfl rfl) rfl rfl (.yes rfl rfl rfl rfl) ?_
                refine G.bool_f 130 rfl (decide_eq_false (by omega)) ?_
                refine G_val (V_move rfl rfl) rfl rfl (.yes rfl rfl rfl rfl) ?_
                refine G_val (V_move rfl rfl) rfl rfl (.yes rfl rfl rfl rfl) ?_
                refine G_val (V_lss rfl rfl rfl) rfl rfl (.yes rfl rfl rfl rfl) ?_
                refine G_val (V_pick_f rfl rfl rfl) rfl rfl (.yes rfl rfl rfl rfl) ?_
                refine G_val (V_pick_t rfl rfl rfl) rfl rfl (.none rfl) ?_
                refine G_end (X_then ?_)
                refine G_cond_f rfl (decide_eq_false (by omega)) ?_
                refine G_skip (X_then (G_seq (G_region ?_)))
                refine G_val (V_move rfl rfl) rfl rfl (.none rfl) ?_
                refine G_val (V_move rfl rfl) rfl rfl (.none rfl) ?_
                refine G_stay (.no rfl rfl rfl rfl) rfl rfl ?_
                refine G_stay (.no rfl rfl rfl rfl) rfl rfl ?_
                refine G_stay (.no rfl rfl rfl rfl) rfl rfl ?_
                refine G_stay (.un rfl rfl rfl rfl) rfl rfl ?_
                refine G_stay (.un rfl rfl rfl rfl) rfl rfl ?_
                refine G_stay (.un rfl rfl rfl rfl) rfl rfl ?_
                refine G_stay (.no rfl rfl rfl rfl) rfl rfl ?_
                refine G_val (V_pick_f rfl rfl rfl) rfl rfl (.none rfl) ?_
                refine G_end (X_then ?_)
                refine G_cond_f rfl rfl ?_
                refine G_skip (X_block (X_then (G_region ?_)))
                refine G_val (V_move rfl rfl) rfl rfl (.none rfl) ?_
                refine G_val (V_add_i64 rfl rfl rfl (by omega) (by omega)) rfl rfl (.none rfl) ?_
                refine G_val (V_assign rfl rfl) rfl rfl (.none rfl) ?_
                refine G_end (X_then ?_)
                refine G_again (k + 1) hlt2 (by omega) ⟨rfl, rfl, rfl, rfl, rfl, rfl, rfl, (congrArg (fun b => some (Value.bool b)) (by rw [c2, Bool.or_true])), (congrArg (fun b => some (Value.bool b)) (by rw [d1, Bool.or_false])), (congrArg (fun n => some (Value.int .i64 n)) (by rw [c1])), (congrArg (fun n => some (Value.int .i64 n)) (by rw [d1])), rfl, trivial⟩ rfl rfl
          | false =>
            have c1 := a3 hgd
            cases hvd : rows[k].2.2.2.all (goodB false ((ft z5).map Option.isSome)) with
            | true =>
              by_cases hu2 : encR 0 (foldC none 1 (ft z5) (16 + (i : Int)) (z5.prods.take k)) = 0 ∨ 1 + sumI 0 0 (ft z5) rows[k].2.2.2 < encR 0 (foldC none 1 (ft z5) (16 + (i : Int)) (z5.prods.take k))
              · obtain ⟨d1, d2⟩ := b1 hvd (by simpa using hu2)
                refine G_seq (G_seq (G_region ?_))
                refine G_val (V_move rfl rfl) rfl rfl (.none rfl) ?_
                refine G_val (V_fieldAddr rfl rfl (by decide)) rfl rfl (.none rfl) ?_
                refine G_val (V_load rfl rfl (Cell.own (.head _) rfl)) rfl rfl (.none rfl) ?_
                refine G_val (V_move rfl rfl) rfl rfl (.none rfl) ?_
                refine G_val (V_idxAddr rfl rfl rfl (SlE.rd (by assumption)) (by omega) (by omega)) rfl rfl (.none rfl) ?_
                refine G_val (V_fieldAddrE rfl rfl (by assumption) (by omega) (by decide)) rfl rfl (.none rfl) ?_
                refine G_val (V_loadS rfl rfl (SlE.rd (by assumption)) (by assumption) (by simp)) rfl rfl (.none rfl) ?_
                refine G_val (V_lenS rfl rfl) rfl rfl (.none rfl) ?_
                refine G_val (V_lss rfl rfl rfl) rfl rfl (.none rfl) ?_
                refine G_end (X_then ?_)
                refine G_cond_f rfl (decide_eq_false (by omega)) ?_
                refine G_exit (X_then_exit (X_then_exit (X_block_hit (X_then (G_seq (G_region ?_))))))
                refine G_val (V_move rfl rfl) rfl rfl (.none rfl) ?_
                refine G_val (V_move rfl rfl) rfl rfl (.none rfl) ?_
                apply G_joinOr 2 119 121 rfl
                · intro H1
                  dsimp only [List.take]
                  refine G_stay (.no rfl rfl rfl rfl) rfl rfl ?_
                  refine G_val (V_pick_t rfl rfl rfl) rfl rfl (.none rfl) ?_
                  refine G_end ?_
                  exact JQ_end 2 rfl rfl (by kernel_rfl)
                · intro H2
                  dsimp only [List.take]
                  refine G_val (V_move rfl rfl) rfl rfl (.yes rfl rfl rfl rfl) ?_
                  refine G_val (V_pick_f rfl rfl rfl) rfl rfl (.none rfl) ?_
                  refine G_end ?_
                  exact JQ_end 2 rfl rfl (by kernel_rfl)
                dsimp only [List.drop]
                refine G_val (V_move rfl rfl) rfl rfl (.none rfl) ?_
                refine G_val (V_move rfl rfl) rfl rfl (.none rfl) ?_
                apply G_joinOr 2 123 125 rfl
                · intro H3
                  dsimp only [List.take]
                  refine G_stay (.no rfl rfl rfl rfl) rfl rfl ?_
                  refine G_val (V_pick_t rfl rfl rfl) rfl rfl (.none rfl) ?_
                  refine G_end ?_
                  exact JQ_end 2 rfl rfl (by kernel_rfl)
                · intro H4
                  dsimp only [List.take]
                  refine G_val (V_move rfl rfl) rfl rfl (.yes rfl rfl rfl rfl) ?_
                  refine G_val (V_pick_f rfl rfl rfl) rfl rfl (.none rfl) ?_
                  refine G_end ?_
                  exact JQ_end 2 rfl rfl (by kernel_rfl)
                dsimp only [List.drop]
                refine G_val (V_assign rfl rfl) rfl rfl (.none rfl) ?_
                refine G_val (V_assign rfl rfl) rfl rfl (.none rfl) ?_
                refine G_end (X_then (G_seq (G_seq (G_region ?_))))
                refine G_val (V_move rfl rfl) rfl rfl (.none rfl) ?_
                refine G_val (V_move rfl rfl) rfl rfl (.none rfl) ?_
                refine G_stay (.no rfl rfl rfl rfl) rfl rfl ?_
                refine G_stay (.no rfl rfl rfl rfl) rfl rfl ?_
                refine G_stay (.no rfl rfl rfl rfl) rfl rfl ?_
                refine G_stay (.un rfl rfl rfl rfl) rfl rfl ?_
                refine G_stay (.un rfl rfl rfl rfl) rfl rfl ?_
                refine G_stay (.un rfl rfl rfl rfl) rfl rfl ?_
                refine G_stay (.no rfl rfl rfl rfl) rfl rfl ?_
                refine G_val (V_pick_f rfl rfl rfl) rfl rfl (.none rfl) ?_
                refine G_end (X_then ?_)
                refine G_cond_f rfl rfl ?_
                refine G_skip (X_then (G_seq (G_region ?_)))
                refine G_val (V_move rfl rfl) rfl rfl (.none rfl) ?_
                refine G_val (V_move rfl rfl) rfl rfl (.none rfl) ?_
                refine G_val (V_move rfl rfl) rfl rfl (.yes rfl rfl rfl rfl) ?_
                refine G_val (V_eql rfl rfl rfl) rfl rfl (.yes rfl rfl rfl rfl) ?_
                refine G_val (V_move rfl rfl) rfl rfl (.yes rfl rfl rfl rfl) ?_
                apply G_joinOr 4 141 145 rfl
                · intro H5
                  dsimp only [List.take]
                  simp only [Bool.and_eq_true, Bool.or_eq_true, Bool.not_eq_true', Bool.not_eq_false', Bool.and_eq_false_iff, Bool.or_eq_false_iff, Bool.not_not, decide_eq_true_eq, decide_eq_false_iff_not, ne_eq, Decidable.not_not, Bool.decide_eq_true] at H5
                  refine G_stay (.no rfl rfl rfl rfl) rfl rfl ?_
                  refine G_stay (.no rfl rfl rfl rfl) rfl rfl ?_
                  refine G_stay (.no rfl rfl rfl rfl) rfl rfl ?_
                  refine G_val (V_pick_t rfl rfl rfl) rfl rfl (.yes rfl rfl rfl rfl) ?_
                  refine G_end ?_
                  exact JQ_end 4 rfl rfl (by kernel_rfl)
                · intro H6
                  dsimp only [List.take]
                  simp only [Bool.and_eq_true, Bool.or_eq_true, Bool.not_eq_true', Bool.not_eq_false', Bool.and_eq_false_iff, Bool.or_eq_false_iff, Bool.not_not, decide_eq_true_eq, decide_eq_false_iff_not, ne_eq, Decidable.not_not, Bool.decide_eq_true] at H6
                  refine G_val (V_move rfl rfl) rfl rfl (.yes rfl rfl rfl rfl) ?_
                  refine G_val (V_move rfl rfl) rfl rfl (.yes rfl rfl rfl rfl) ?_
                  refine G_val (V_lss rfl rfl rfl) rfl rfl (.yes rfl rfl rfl rfl) ?_
                  refine G_val (V_pick_f rfl rfl rfl) rfl rfl (.yes rfl rfl rfl rfl) ?_
                  refine G_end ?_
                  exact JQ_end 4 rfl rfl (by kernel_rfl)
                dsimp only [List.drop]
                refine G_val (V_pick_t rfl rfl rfl) rfl rfl (.none rfl) ?_
                refine G_end (X_then ?_)
                refine G_cond_t rfl (by simp [*]; done) ?_
                refine G_region ?_
                refine G_val (V_move rfl rfl) rfl rfl (.none rfl) ?_
                refine G_val (V_assign rfl rfl) rfl rfl (.none rfl) ?_
                refine G_end (X_block (X_then (G_region ?_)))
                refine G_val (V_move rfl rfl) rfl rfl (.none rfl) ?_
                refine G_val (V_add_i64 rfl rfl rfl (by omega) (by omega)) rfl rfl (.none rfl) ?_
                refine G_val (V_assign rfl rfl) rfl rfl (.none rfl) ?_
                refine G_end (X_then ?_)
                refine G_again (k + 1) hlt2 (by omega) ⟨rfl, rfl, rfl, rfl, rfl, rfl, rfl, (congrArg (fun b => some (Value.bool b)) (by rw [c1, Bool.or_false])), (congrArg (fun b => some (Value.bool b)) (by rw [d2, Bool.or_true])), (congrArg (fun n => some (Value.int .i64 n)) (by rw [c1])), (congrArg (fun n => some (Value.int .i64 n)) (by rw [d1]; simp)), rfl, trivial⟩ rfl rfl
              · obtain ⟨d1, d2⟩ := b2 hvd (by simpa using hu2)
                refine G_seq (G_seq (G_region ?_))
                refine G_val (V_move rfl rfl) rfl rfl (.none rfl) ?_
                refine G_val (V_fieldAddr rfl rfl (by decide)) rfl rfl (.none rfl) ?_
                refine G_val (V_load rfl rfl (Cell.own (.head _) rfl)) rfl rfl (.none rfl) ?_
                refine G_val (V_move rfl rfl) rfl rfl (.none rfl) ?_
                refine G_val (V_idxAddr rfl rfl rfl (SlE.rd (by assumption)) (by omega) (by omega)) rfl rfl (.none rfl) ?_
                refine G_val (V_fieldAddrE rfl rfl (by assumption) (by omega) (by decide)) rfl rfl (.none rfl) ?_
                refine G_val (V_loadS rfl rfl (SlE.rd (by assumption)) (by assumption) (by simp)) rfl rfl (.none rfl) ?_
                refine G_val (V_lenS rfl rfl) rfl rfl (.none rfl) ?_
                refine G_val (V_lss rfl rfl rfl) rfl rfl (.none rfl) ?_
                refine G_end (X_then ?_)
                refine G_cond_f rfl (decide_eq_false (by omega)) ?_
                refine G_exit (X_then_exit (X_then_exit (X_block_hit (X_then (G_seq (G_region ?_))))))
                refine G_val (V_move rfl rfl) rfl rfl (.none rfl) ?_
                refine G_val (V_move rfl rfl) rfl rfl (.none rfl) ?_
                apply G_joinOr 2 119 121 rfl
                · intro H1
                  dsimp only [List.take]
                  refine G_stay (.no rfl rfl rfl rfl) rfl rfl ?_
                  refine G_val (V_pick_t rfl rfl rfl) rfl rfl (.none rfl) ?_
                  refine G_end ?_
                  exact JQ_end 2 rfl rfl (by kernel_rfl)
                · intro H2
                  dsimp only [List.take]
                  refine G_val (V_move rfl rfl) rfl rfl (.yes rfl rfl rfl rfl) ?_
                  refine G_val (V_pick_f rfl rfl rfl) rfl rfl (.none rfl) ?_
                  refine G_end ?_
                  exact JQ_end 2 rfl rfl (by kernel_rfl)
                dsimp only [List.drop]
                refine G_val (V_move rfl rfl) rfl rfl (.none rfl) ?_
                refine G_val (V_move rfl rfl) rfl rfl (.none rfl) ?_
                apply G_joinOr 2 123 125 rfl
                · intro H3
                  dsimp only [List.take]
                  refine G_stay (.no rfl rfl rfl rfl) rfl rfl ?_
                  refine G_val (V_pick_t rfl rfl rfl) rfl rfl (.none rfl) ?_
                  refine G_end ?_
                  exact JQ_end 2 rfl rfl (by kernel_rfl)
                · intro H4
                  dsimp only [List.take]
                  refine G_val (V_move rfl rfl) rfl rfl (.yes rfl rfl rfl rfl) ?_
                  refine G_val (V_pick_f rfl rfl rfl) rfl rfl (.none rfl) ?_
                  refine G_end ?_
                  exact JQ_end 2 rfl rfl (by kernel_rfl)
                dsimp only [List.drop]
                refine G_val (V_assign rfl rfl) rfl rfl (.none rfl) ?_
                refine G_val (V_assign rfl rfl) rfl rfl (.none rfl) ?_
                refine G_end (X_then (G_seq (G_seq (G_region ?_))))
                refine G_val (V_move rfl rfl) rfl rfl (.none rfl) ?_
                refine G_val (V_move rfl rfl) rfl rfl (.none rfl) ?_
                refine G_stay (.no rfl rfl rfl rfl) rfl rfl ?_
                refine G_stay (.no rfl rfl rfl rfl) rfl rfl ?_
                refine G_stay (.no rfl rfl rfl rfl) rfl rfl ?_
                refine G_stay (.un rfl rfl rfl rfl) rfl rfl ?_
                refine G_stay (.un rfl rfl rfl rfl) rfl rfl ?_
                refine G_stay (.un rfl rfl rfl rfl) rfl rfl ?_
                refine G_stay (.no rfl rfl rfl rfl) rfl rfl ?_
                refine G_val (V_pick_f rfl rfl rfl) rfl rfl (.none rfl) ?_
                refine G_end (X_then ?_)
                refine G_cond_f rfl rfl ?_
                refine G_skip (X_then (G_seq (G_region ?_)))
                refine G_val (V_move rfl rfl) rfl rfl (.none rfl) ?_
                refine G_val (V_move rfl rfl) rfl rfl (.none rfl) ?_
                refine G_val (V_move rfl rfl) rfl rfl (.yes rfl rfl rfl rfl) ?_
                refine G_val (V_eql rfl rfl rfl) rfl rfl (.yes rfl rfl rfl rfl) ?_
                refine G_val (V_move rfl rfl) rfl rfl (.yes rfl rfl rfl rfl) ?_
                refine G.bool_f 141 rfl (decide_eq_false (by omega)) ?_
                refine G_val (V_move rfl rfl) rfl rfl (.yes rfl rfl rfl rfl) ?_
                refine G_val (V_move rfl rfl) rfl rfl (.yes rfl rfl rfl rfl) ?_
                refine G_val (V_lss rfl rfl rfl) rfl rfl (.yes rfl rfl rfl rfl) ?_
                refine G_val (V_pick_f rfl rfl rfl) rfl rfl (.yes rfl rfl rfl rfl) ?_
                refine G_val (V_pick_t rfl rfl rfl) rfl rfl (.none rfl) ?_
                refine G_end (X_then ?_)
                refine G_cond_f rfl (decide_eq_false (by omega)) ?_
                refine G_skip (X_block (X_then (G_region ?_)))
                refine G_val (V_move rfl rfl) rfl rfl (.none rfl) ?_
                refine G_val (V_add_i64 rfl rfl rfl (by omega) (by omega)) rfl rfl (.none rfl) ?_
                refine G_val (V_assign rfl rfl) rfl rfl (.none rfl) ?_
                refine G_end (X_then ?_)
                refine G_again (k + 1) hlt2 (by omega) ⟨rfl, rfl, rfl, rfl, rfl, rfl, rfl, (congrArg (fun b => some (Value.bool b)) (by rw [c1, Bool.or_false])), (congrArg (fun b => some (Value.bool b)) (by rw [d2, Bool.or_true])), (congrArg (fun n => some (Value.int .i64 n)) (by rw [c1])), (congrArg (fun n => some (Value.int .i64 n)) (by rw [d1])), rfl, trivial⟩ rfl rfl
            | false =>
              have d1 := b3 hvd
              refine G_seq (G_seq (G_region ?_))
              refine G_val (V_move rfl rfl) rfl rfl (.none rfl) ?_
              refine G_val (V_fieldAddr rfl rfl (by decide)) rfl rfl (.none rfl) ?_
              refine G_val (V_load rfl rfl (Cell.own (.head _) rfl)) rfl rfl (.none rfl) ?_
              refine G_val (V_move rfl rfl) rfl rfl (.none rfl) ?_
              refine G_val (V_idxAddr rfl rfl rfl (SlE.rd (by assumption)) (by omega) (by omega)) rfl rfl (.none rfl) ?_
              refine G_val (V_fieldAddrE rfl rfl (by assumption) (by omega) (by decide)) rfl rfl (.none rfl) ?_
              refine G_val (V_loadS rfl rfl (SlE.rd (by assumption)) (by assumption) (by simp)) rfl rfl (.none rfl) ?_
              refine G_val (V_lenS rfl rfl) rfl rfl (.none rfl) ?_
              refine G_val (V_lss rfl rfl rfl) rfl rfl (.none rfl) ?_
              refine G_end (X_then ?_)
              refine G_cond_f rfl (decide_eq_false (by omega)) ?_
              refine G_exit (X_then_exit (X_then_exit (X_block_hit (X_then (G_seq (G_region ?_))))))
              refine G_val (V_move rfl rfl) rfl rfl (.none rfl) ?_
              refine G_val (V_move rfl rfl) rfl rfl (.none rfl) ?_
              apply G_joinOr 2 119 121 rfl
              · intro H1
                dsimp only [List.take]
                refine G_stay (.no rfl rfl rfl rfl) rfl rfl ?_
                refine G_val (V_pick_t rfl rfl rfl) rfl rfl (.none rfl) ?_
                refine G_end ?_
                exact JQ_end 2 rfl rfl (by kernel_rfl)
              · intro H2
                dsimp only [List.take]
                refine G_val (V_move rfl rfl) rfl rfl (.yes rfl rfl rfl rfl) ?_
                refine G_val (V_pick_f rfl rfl rfl) rfl rfl (.none rfl) ?_
                refine G_end ?_
                exact JQ_end 2 rfl rfl (by kernel_rfl)
              dsimp only [List.drop]
              refine G_val (V_move rfl rfl) rfl rfl (.none rfl) ?_
              refine G_val (V_move rfl rfl) rfl rfl (.none rfl) ?_
              apply G_joinOr 2 123 125 rfl
              · intro H3
                dsimp only [List.take]
                refine G_stay (.no rfl rfl rfl rfl) rfl rfl ?_
                refine G_val (V_pick_t rfl rfl rfl) rfl rfl (.none rfl) ?_
                refine G_end ?_
                exact JQ_end 2 rfl rfl (by kernel_rfl)
              · intro H4
                dsimp only [List.take]
                refine G_val (V_move rfl rfl) rfl rfl (.yes rfl rfl rfl rfl) ?_
                refine G_val (V_pick_f rfl rfl rfl) rfl rfl (.none rfl) ?_
                refine G_end ?_
                exact JQ_end 2 rfl rfl (by kernel_rfl)
              dsimp only [List.drop]
              refine G_val (V_assign rfl rfl) rfl rfl (.none rfl) ?_
              refine G_val (V_assign rfl rfl) rfl rfl (.none rfl) ?_
              refine G_end (X_then (G_seq (G_seq (G_region ?_))))
              refine G_val (V_move rfl rfl) rfl rfl (.none rfl) ?_
              refine G_val (V_move rfl rfl) rfl rfl (.none rfl) ?_
              refine G_stay (.no rfl rfl rfl rfl) rfl rfl ?_
              refine G_stay (.no rfl rfl rfl rfl) rfl rfl ?_
              refine G_stay (.no rfl rfl rfl rfl) rfl rfl ?_
              refine G_stay (.un rfl rfl rfl rfl) rfl rfl ?_
              refine G_stay (.un rfl rfl rfl rfl) rfl rfl ?_
              refine G_stay (.un rfl rfl rfl rfl) rfl rfl ?_
              refine G_stay (.no rfl rfl rfl rfl) rfl rfl ?_
              refine G_val (V_pick_f rfl rfl rfl) rfl rfl (.none rfl) ?_
              refine G_end (X_then ?_)
              refine G_cond_f rfl rfl ?_
              refine G_skip (X_then (G_seq (G_region ?_)))
              refine G_val (V_move rfl rfl) rfl rfl (.none rfl) ?_
              refine G_val (V_move rfl rfl) rfl rfl (.none rfl) ?_
              refine G_stay (.no rfl rfl rfl rfl) rfl rfl ?_
              refine G_stay (.no rfl rfl rfl rfl) rfl rfl ?_
              refine G_stay (.no rfl rfl rfl rfl) rfl rfl ?_
              refine G_stay (.un rfl rfl rfl rfl) rfl rfl ?_
              refine G_stay (.un rfl rfl rfl rfl) rfl rfl ?_
              refine G_stay (.un rfl rfl rfl rfl) rfl rfl ?_
              refine G_stay (.no rfl rfl rfl rfl) rfl rfl ?_
              refine G_val (V_pick_f rfl rfl rfl) rfl rfl (.none rfl) ?_
              refine G_end (X_then ?_)
              refine G_cond_f rfl rfl ?_
              refine G_skip (X_block (X_then (G_region ?_)))
              refine G_val (V_move rfl rfl) rfl rfl (.none rfl) ?_
              refine G_val (V_add_i64 rfl rfl rfl (by omega) (by omega)) rfl rfl (.none rfl) ?_
              refine G_val (V_assign rfl rfl) rfl rfl (.none rfl) ?_
              refine G_end (X_then ?_)
              refine G_again (k + 1) hlt2 (by omega) ⟨rfl, rfl, rfl, rfl, rfl, rfl, rfl, (congrArg (fun b => some (Value.bool b)) (by rw [c1, Bool.or_false])), (congrArg (fun b => some (Value.bool b)) (by rw [d1, Bool.or_false])), (congrArg (fun n => some (Value.int .i64 n)) (by rw [c1])), (congrArg (fun n => some (Value.int .i64 n)) (by rw [d1])), rfl, trivial⟩ rfl rfl
      · refine G_seq ?_
        refine G_seq (G_region ?_)
        refine G_val (V_move rfl rfl) rfl rfl (.none rfl) ?_
        refine G_val (V_fieldAddr rfl rfl (by decide)) rfl rfl (.none rfl) ?_
        refine G_val (V_load rfl rfl (Cell.own (.head _) rfl)) rfl rfl (.none rfl) ?_
        refine G_val (V_lenS rfl rfl) rfl rfl (.none rfl) ?_
        refine G_val (V_lss rfl rfl rfl) rfl rfl (.none rfl) ?_
        refine G_end (X_then ?_)
        refine G_cond_t rfl (decide_eq_true (by omega)) ?_
        refine G_skip (X_then (G_seq (G_block (G_seq (G_seq (G_region ?_))))))
        refine G_val (V_fieldAddr rfl rfl (by decide)) rfl rfl (.none rfl) ?_
        refine G_val (V_load rfl rfl (Cell.own (.head _) rfl)) rfl rfl (.none rfl) ?_
        refine G_val (V_move rfl rfl) rfl rfl (.none rfl) ?_
        refine G_val (V_idxAddr rfl rfl rfl (SlE.rd (by assumption)) (by omega) (by omega)) rfl rfl (.none rfl) ?_
        refine G_val (V_fieldAddrE rfl rfl (by assumption) (by omega) (by decide)) rfl rfl (.none rfl) ?_
        refine G_val (V_loadS rfl rfl (SlE.rd (by assumption)) hyl (by simp)) rfl rfl (.none rfl) ?_
        refine G_val (V_move rfl rfl) rfl rfl (.none rfl) ?_
        refine G_val (V_add_i64 rfl rfl rfl (by omega) (by omega)) rfl rfl (.none rfl) ?_
        refine G_val (V_neq rfl rfl rfl) rfl rfl (.none rfl) ?_
        refine G_end (X_then ?_)
        refine G_cond_t rfl (decide_eq_true (by omega)) ?_
        refine G_exit (X_then_exit (X_block_hit (X_then (G_region ?_))))
        refine G_val (V_move rfl rfl) rfl rfl (.none rfl) ?_
        refine G_val (V_add_i64 rfl rfl rfl (by omega) (by omega)) rfl rfl (.none rfl) ?_
        refine G_val (V_assign rfl rfl) rfl rfl (.none rfl) ?_
        refine G_end (X_then ?_)
        exact G_again (k + 1) hlt2 (by omega) (by rw [skip_code hkp hpk hlf, skip_code hkp hpk hlf]; exact ⟨rfl, rfl, rfl, rfl, rfl, rfl, rfl, rfl, rfl, rfl, rfl, rfl, trivial⟩) rfl rfl
    · have etk : z5.prods.take k = z5.prods := List.take_of_length_le (by omega)
      have g1 := foldC_eq (fl_least hv) (s := 16 + (i : Int)) (by omega)
      have g2 := foldC_eq (ft_least hv) (s := 16 + (i : Int)) (by omega)
      rw [etk, g1, g2]
      have ei : (16 + (i : Int) - 16).toNat = i := by omega
      have f1 := some_at (f := fl z5) (s := 16 + (i : Int)) (by omega) (by omega)
      have f2 := some_at (f := ft z5) (s := 16 + (i : Int)) (by omega) (by omega)
      have f3 := enc_at (f := fl z5) (o := -1) (s := 16 + (i : Int)) (by omega) (by omega)
      have f4 := enc_at (f := ft z5) (o := 0) (s := 16 + (i : Int)) (by omega) (by omega)
      rw [ei] at f1 f2 f3 f4
      have f5 := len_null hv (s := 16 + (i : Int)) (by omega)
      refine G_seq (G_seq (G_region ?_))
      refine G_val (V_move rfl rfl) rfl rfl (.none rfl) ?_
      refine G_val (V_fieldAddr rfl rfl (by decide)) rfl rfl (.none rfl) ?_
      refine G_val (V_load rfl rfl (Cell.own (.head _) rfl)) rfl rfl (.none rfl) ?_
      refine G_val (V_lenS rfl rfl) rfl rfl (.none rfl) ?_
      refine G_val (V_lss rfl rfl rfl) rfl rfl (.none rfl) ?_
      refine G_end (X_then ?_)
      refine G_cond_f rfl (decide_eq_false (by omega)) ?_
      refine G_exit (X_then_exit (X_then_exit (X_block_hit (X_then (G_seq ?_)))))
      refine G_draw mixed (by kernel_rfl) ?_
      refine Q_val (V_move rfl rfl) rfl rfl (.none rfl) ?_
      refine Q_val (V_move rfl rfl) rfl rfl (.none rfl) ?_
      refine Q_val (V_idxAddr rfl rfl rfl (SlE.rd (by assumption)) (by omega) (by omega)) rfl rfl (.none rfl) ?_
      refine Q_val (V_loadS rfl rfl (SlE.rd (by assumption)) (by assumption) (by simp)) rfl rfl (.none rfl) ?_
      refine Q_val (V_move rfl rfl) rfl rfl (.none rfl) ?_
      refine Q_val (V_bneq rfl rfl rfl) rfl rfl (.none rfl) ?_
      refine Q_val (V_move rfl rfl) rfl rfl (.none rfl) ?_
      refine Q_bool_f 154 rfl (by simp [*]; done) ?_
      refine Q_val (V_move rfl rfl) rfl rfl (.yes rfl rfl rfl rfl) ?_
      refine Q_val (V_move rfl rfl) rfl rfl (.yes rfl rfl rfl rfl) ?_
      refine Q_val (V_idxAddr rfl rfl rfl (SlE.rd (by assumption)) (by omega) (by omega)) rfl rfl (.yes rfl rfl rfl rfl) ?_
      refine Q_val (V_loadS rfl rfl (SlE.rd (by assumption)) (by assumption) (by simp)) rfl rfl (.yes rfl rfl rfl rfl) ?_
      refine Q_val (V_move rfl rfl) rfl rfl (.yes rfl rfl rfl rfl) ?_
      refine Q_val (V_bneq rfl rfl rfl) rfl rfl (.yes rfl rfl rfl rfl) ?_
      refine Q_val (V_pick_f rfl rfl rfl) rfl rfl (.none rfl) ?_
      refine Q_val (V_move rfl rfl) rfl rfl (.none rfl) ?_
      refine Q_bool_f 162 rfl (by simp [*]; done) ?_
      refine Q_val (V_move rfl rfl) rfl rfl (.yes rfl rfl rfl rfl) ?_
      refine Q_val (V_move rfl rfl) rfl rfl (.yes rfl rfl rfl rfl) ?_
      refine Q_val (V_idxAddr rfl rfl rfl (SlE.rd (by assumption)) (by omega) (by omega)) rfl rfl (.yes rfl rfl rfl rfl) ?_
      refine Q_val (V_loadS rfl rfl (SlE.rd (by assumption)) (by assumption) (by simp)) rfl rfl (.yes rfl rfl rfl rfl) ?_
      refine Q_val (V_move rfl rfl) rfl rfl (.yes rfl rfl rfl rfl) ?_
      refine Q_val (V_neq rfl rfl rfl) rfl rfl (.yes rfl rfl rfl rfl) ?_
      refine Q_val (V_pick_f rfl rfl rfl) rfl rfl (.none rfl) ?_
      refine Q_val (V_move rfl rfl) rfl rfl (.none rfl) ?_
      refine Q_bool_f 170 rfl (decide_eq_false (by omega)) ?_
      refine Q_val (V_move rfl rfl) rfl rfl (.yes rfl rfl rfl rfl) ?_
      refine Q_val (V_move rfl rfl) rfl rfl (.yes rfl rfl rfl rfl) ?_
      refine Q_val (V_idxAddr rfl rfl rfl (SlE.rd (by assumption)) (by omega) (by omega)) rfl rfl (.yes rfl rfl rfl rfl) ?_
      refine Q_val (V_loadS rfl rfl (SlE.rd (by assumption)) (by assumption) (by simp)) rfl rfl (.yes rfl rfl rfl rfl) ?_
      refine Q_val (V_move rfl rfl) rfl rfl (.yes rfl rfl rfl rfl) ?_
      refine Q_val (V_neq rfl rfl rfl) rfl rfl (.yes rfl rfl rfl rfl) ?_
      refine Q_val (V_pick_f rfl rfl rfl) rfl rfl (.none rfl) ?_
      refine Q_val (V_move rfl rfl) rfl rfl (.none rfl) ?_
      refine Q_bool_f 178 rfl (decide_eq_false (by omega)) ?_
      refine Q_val (V_move rfl rfl) rfl rfl (.yes rfl rfl rfl rfl) ?_
      refine Q_val (V_move rfl rfl) rfl rfl (.yes rfl rfl rfl rfl) ?_
      refine Q_val (V_idxAddr rfl rfl rfl (SlE.rd (by assumption)) (by omega) (by omega)) rfl rfl (.yes rfl rfl rfl rfl) ?_
      refine Q_val (V_loadS rfl rfl (SlE.rd (by assumption)) (by assumption) (by simp)) rfl rfl (.yes rfl rfl rfl rfl) ?_
      refine Q_val (V_move rfl rfl) rfl rfl (.yes rfl rfl rfl rfl) ?_
      refine Q_val (V_move rfl rfl) rfl rfl (.yes rfl rfl rfl rfl) ?_
      refine Q_val (V_idxAddr rfl rfl rfl (SlE.rd (by assumption)) (by omega) (by omega)) rfl rfl (.yes rfl rfl rfl rfl) ?_
      refine Q_val (V_loadS rfl rfl (SlE.rd (by assumption)) (by assumption) (by simp)) rfl rfl (.yes rfl rfl rfl rfl) ?_
      refine Q_val (V_eql rfl rfl rfl) rfl rfl (.yes rfl rfl rfl rfl) ?_
      refine Q_val (V_bneq rfl rfl rfl) rfl rfl (.yes rfl rfl rfl rfl) ?_
      refine Q_val (V_pick_f rfl rfl rfl) rfl rfl (.none rfl) ?_
      refine Q_end ?_
      refine X_then ?_
      refine G_cond_f rfl (by simp [*]; done) ?_
      refine G_skip (X_block (X_then (G_region ?_)))
      refine G_val (V_move rfl rfl) rfl rfl (.none rfl) ?_
      refine G_val (V_add_i64 rfl rfl rfl (by omega) (by omega)) rfl rfl (.none rfl) ?_
      refine G_val (V_assign rfl rfl) rfl rfl (.none rfl) ?_
      refine G_end (X_then ?_)
      exact G_again (i + 1) hlt (by omega) ⟨rfl, rfl, rfl, rfl, rfl, rfl, rfl, trivial⟩ rfl rfl
  · refine G_seq ?_
    refine G_seq (G_region ?_)
    refine G_val (V_move rfl rfl) rfl rfl (.none rfl) ?_
    refine G_val (V_fieldAddr rfl rfl (by decide)) rfl rfl (.none rfl) ?_
    refine G_val (V_load rfl rfl (Cell.own (.head _) rfl)) rfl rfl (.none rfl) ?_
    refine G_val (V_lenS rfl rfl) rfl rfl (.none rfl) ?_
    refine G_val (V_lss rfl rfl rfl) rfl rfl (.none rfl) ?_
    refine G_end (X_then ?_)
    refine G_cond_f rfl (decide_eq_false (by omega)) ?_
    refine G_exit (X_then_exit (X_then_exit (X_block_hit (X_then (G_seq (G_region ?_))))))
    refine G_val (V_move rfl rfl) rfl rfl (.none rfl) ?_
    refine G_val (V_assign rfl rfl) rfl rfl (.none rfl) ?_
    refine G_end (X_then (G_ret ?_))
    refine G_leaveS (.drop _ (.nil _)) (by exact (.cons (.tmp rfl) (.nil))) rfl ?_ ?_
    · exact (hE4.trans hE5)
    exact ⟨(by kernel_rfl), rfl⟩
end
end Go.Proofs.Ytaoinojdijbhaaa
