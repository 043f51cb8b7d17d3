/-
  Rules and contracts, packed: E15.
-/
import Derived.Test.YtaoinojdijbhaaaQ10
set_option maxHeartbeats 1000000
set_option linter.unusedSimpArgs false
set_option linter.unusedVariables false
set_option maxHeartbeats 2000000
set_option maxRecDepth 20000
namespace Go.Proofs.Ytaoinojdijbhaaa
open Go.RowKit
theorem mem_natsI {l : List Nat} {n : Nat} : (n : Int) ∈ natsI l ↔ n ∈ l := by
  rw [natsI, List.mem_map]
  constructor
  · rintro ⟨m, hm, he⟩
    have : m = n := by omega
    exact this ▸ hm
  · exact fun h => ⟨n, h, rfl⟩
section
variable (E : Env) (L : List Res)
theorem RGrows_call (p : Option Addr) (c : Nat) (xs : List Int) (m : Int) (hx : SlE E 1 p xs.length (i64s xs)) (hn : xs.length ≤ 9223372036854775807) (hb : ∀ n, n ∈ xs → -9223372036854775808 ≤ n ∧ n ≤ 9223372036854775807) (hm : -9223372036854775808 ≤ m ∧ m ≤ 9223372036854775807) :
    CallV Try.prog 3 #[.slice p xs.length c, .int .i64 m] E L (.bool true) := by
  refine CallS.toV (CallS.intro (l := [_, _]) _ Try.func3 rfl Try.ntmps3 rfl ?_)
  refine G_seq (G_region ?_)
  refine G_val (V_assign rfl rfl) rfl rfl (.none rfl) ?_
  refine G_end (X_then (G_seq (G_region ?_)))
  refine G_val (V_move rfl rfl) rfl rfl (.none rfl) ?_
  refine G_call (k := 14) (.mk rfl rfl rfl rfl) rfl rfl (.none rfl) (Any_call _ _ _ _ _ (by assumption) (by assumption) (by assumption)) ?_
  rintro r1 E2 L3 hE4 ⟨z5, ⟨Z6, ⟨Z7, ⟨Z8, rfl⟩⟩⟩⟩
  replace hx := hx.mono hE4
  (refine G_alloc rfl rfl rfl (.none rfl) ?_; intro b5)
  have hgr : GrE E2 r1 z5 := by assumption
  have hl : Light z5 := by assumption
  have hc : gcheck z5 = 0 := by assumption
  have hg0 := hgr
  obtain ⟨tp, tc, np, nc, pp, pc, rfl, ht, hnm, ⟨rows, hrows, hps, hre⟩, k1, k2, k3⟩ := hgr
  have q1 := hl.t; have q2 := hl.n; have q3 := hl.p
  have hv := valid_of hc
  have hnn := hv.names
  have hll := leftM_le z5
  have hpn := prods_pos hc
  refine G_storeA rfl rfl rfl rfl (by simp [Value.oneCell']) rfl (.none rfl) (.head _ _ _) rfl ?_
  refine G_end (X_then (G_seq (G_region ?_)))
  refine G_val (V_loadA rfl rfl (Cells.own (.head _)) rfl) rfl rfl (.none rfl) ?_
  refine G_call (k := 15) (.mk rfl rfl rfl rfl) rfl rfl (.none rfl) (Left_call' _ _ _ _ (by assumption) (by assumption) (by assumption)) ?_
  rintro r1 E3 L4 hE5 ⟨z6, ⟨z7, ⟨rfl, ⟨Z9, rfl⟩⟩⟩⟩
  replace hx := hx.mono hE5
  replace Z6 := Z6.mono hE5
  replace hg0 := hg0.mono hE5
  replace ht := ht.mono hE5
  replace hnm := hnm.mono hE5
  replace hps := hps.mono hE5
  refine G_val (V_move rfl rfl) rfl rfl (.none rfl) ?_
  refine G_val (V_extract rfl rfl rfl) rfl rfl (.none rfl) ?_
  refine G_val (V_extract rfl rfl rfl) rfl rfl (.none rfl) ?_
  refine G_val (V_assign rfl rfl) rfl rfl (.none rfl) ?_
  refine G_val (V_assign rfl rfl) rfl rfl (.none rfl) ?_
  refine G_end (X_then (G_seq (G_region ?_)))
  refine G_val (V_loadA rfl rfl (Cells.own (.head _)) rfl) rfl rfl (.none rfl) ?_
  refine G_call (k := 16) (.mk rfl rfl rfl rfl) rfl rfl (.none rfl) (RBegins_call _ _ _ _ (by assumption) (by assumption) (by assumption)) ?_
  rintro r10 E11 L12 hE13 ⟨z14, ⟨z15, ⟨z16, ⟨rfl, ⟨Z17, ⟨Z18, ⟨Z19, rfl⟩⟩⟩⟩⟩⟩⟩
  replace Z9 := Z9.mono hE13
  replace hx := hx.mono hE13
  replace Z6 := Z6.mono hE13
  replace hg0 := hg0.mono hE13
  replace ht := ht.mono hE13
  replace hnm := hnm.mono hE13
  replace hps := hps.mono hE13
  refine G_val (V_move rfl rfl) rfl rfl (.none rfl) ?_
  refine G_val (V_extract rfl rfl rfl) rfl rfl (.none rfl) ?_
  refine G_val (V_extract rfl rfl rfl) rfl rfl (.none rfl) ?_
  refine G_val (V_assign rfl rfl) rfl rfl (.none rfl) ?_
  refine G_val (V_assign rfl rfl) rfl rfl (.none rfl) ?_
  refine G_end (X_then (G_seq (G_seq (G_region ?_))))
  refine G_val (V_move rfl rfl) rfl rfl (.none rfl) ?_
  refine G_val (V_neq rfl rfl rfl) rfl rfl (.none rfl) ?_
  refine G_val (V_move rfl rfl) rfl rfl (.none rfl) ?_
  refine G.bool_f 31 rfl (by kernel_rfl) ?_
  refine G_val (V_move rfl rfl) rfl rfl (.yes rfl rfl rfl rfl) ?_
  refine G_val (V_neq rfl rfl rfl) rfl rfl (.yes rfl rfl rfl rfl) ?_
  refine G_val (V_pick_f rfl rfl rfl) rfl rfl (.none rfl) ?_
  refine G_val (V_move rfl rfl) rfl rfl (.none rfl) ?_
  refine G.bool_f 35 rfl (by kernel_rfl) ?_
  refine G_val (V_move rfl rfl) rfl rfl (.yes rfl rfl rfl rfl) ?_
  refine G_val (V_lenS rfl rfl) rfl rfl (.yes rfl rfl rfl rfl) ?_
  refine G_val (V_fieldAddr rfl rfl (by decide)) rfl rfl (.yes rfl rfl rfl rfl) ?_
  refine G_val (V_load rfl rfl (Cell.own (.head _) rfl)) rfl rfl (.yes rfl rfl rfl rfl) ?_
  refine G_val (V_lenS rfl rfl) rfl rfl (.yes rfl rfl rfl rfl) ?_
  refine G_val (V_neq rfl rfl rfl) rfl rfl (.yes rfl rfl rfl rfl) ?_
  refine G_val (V_pick_f rfl rfl rfl) rfl rfl (.none rfl) ?_
  refine G_val (V_move rfl rfl) rfl rfl (.none rfl) ?_
  refine G.bool_f 43 rfl (decide_eq_false (by omega)) ?_
  refine G_val (V_fieldAddr rfl rfl (by decide)) rfl rfl (.yes rfl rfl rfl rfl) ?_
  refine G_val (V_load rfl rfl (Cell.own (.head _) rfl)) rfl rfl (.yes rfl rfl rfl rfl) ?_
  refine G_val (V_lenS rfl rfl) rfl rfl (.yes rfl rfl rfl rfl) ?_
  refine G_val (V_eql rfl rfl rfl) rfl rfl (.yes rfl rfl rfl rfl) ?_
  refine G_val (V_pick_f rfl rfl rfl) rfl rfl (.none rfl) ?_
  refine G_end (X_then ?_)
  refine G_cond_f rfl (decide_eq_false (by omega)) ?_
  refine G_skip (X_then (G_seq (G_seq (G_region ?_))))
  refine G_val (V_assign rfl rfl) rfl rfl (.none rfl) ?_
  refine G_end (X_then (G_block ?_))
  have hsa : SlE E11 1 z6 (leftM z5).length (i64s (natsI (leftM z5))) := by assumption
  have hsb : SlE E11 1 z14 z5.names.length (lrows z16) := by assumption
  have hrs : LsE E11 z16 := by assumption
  have hrm : z16.map (·.2.2) = begL z5 := by assumption
  have hrl : z16.length = z5.names.length := by rw [← begL_len z5, ← hrm, List.length_map]
  have h256 := begM_lt hv
  have hg1 : GrE E11 (.agg #[.int .i64 z5.k, .slice tp z5.toks.length tc, .string (S z5.sep), .slice np z5.names.length nc, .int .i64 z5.start, .slice pp z5.prods.length pc]) z5 := by assumption
  have hrow : ∀ x, (h : x < z5.names.length) → (lrows z16)[x]? = some (.slice (z16[x]'(by omega)).1 (bitL ((begM z5).getD x 0)).length (z16[x]'(by omega)).2.1) ∧ SlE E11 1 (z16[x]'(by omega)).1 (bitL ((begM z5).getD x 0)).length (i64s (natsI (bitL ((begM z5).getD x 0)))) := fun x h => by
    have hrx : x < z16.length := by omega
    have hat := lrows_at hrx
    have hr := hrs _ (List.getElem_mem hrx)
    have hre : z16[x].2.2 = natsI (bitL ((begM z5).getD x 0)) := by
      rw [← begL_at h]; simp [← hrm]
    rw [hre, natsI_len] at hat hr
    exact ⟨hat, hr⟩
  refine G_loop (α := Nat) (fun i => [(1, .int .i64 m), (5, .pointer (some ⟨b5, 0, none⟩)), (6, .slice z6 (leftM z5).length z7), (8, .slice z14 z5.names.length z15), (10, .int .i64 i)]) (fun _ => E11)
    (fun _ => GB b5 z5 tp tc np nc pp pc :: L3) (fun i => i ≤ z5.names.length) (fun i => z5.names.length - i) 0 (Nat.zero_le _) ⟨rfl, rfl, rfl, rfl, rfl, trivial⟩ rfl rfl ?_
  intro i hi
  by_cases hlti : i < z5.names.length
  · obtain ⟨hat, hse⟩ := hrow i hlti
    have hq256 := h256 i
    have hq8 := bitL_le ((begM z5).getD i 0)
    have hmem := fun y => mem_bitL (k := y) hq256
    generalize hqe : (begM z5).getD i 0 = q at hat hse hq256 hq8 hmem
    refine G_seq (G_seq (G_region ?_))
    refine G_val (V_move rfl rfl) rfl rfl (.none rfl) ?_
    refine G_val (V_move rfl rfl) rfl rfl (.none rfl) ?_
    refine G_val (V_lenS rfl rfl) rfl rfl (.none rfl) ?_
    refine G_val (V_lss rfl rfl rfl) rfl rfl (.none rfl) ?_
    refine G_end (X_then ?_)
    refine G_cond_t rfl (decide_eq_true (by omega)) ?_
    refine G_skip (X_then (G_seq (G_block (G_seq (G_region ?_)))))
    refine G_val (V_assign rfl rfl) rfl rfl (.none rfl) ?_
    refine G_end (X_then (G_block ?_))
    refine G_loop (α := Nat) (fun k => [(1, .int .i64 m), (5, .pointer (some ⟨b5, 0, none⟩)), (6, .slice z6 (leftM z5).length z7), (8, .slice z14 z5.names.length z15), (10, .int .i64 i), (11, .int .i64 k)]) (fun _ => E11)
      (fun _ => GB b5 z5 tp tc np nc pp pc :: L3) (fun k => k ≤ (bitL q).length) (fun k => (bitL q).length - k) 0 (Nat.zero_le _) ⟨rfl, rfl, rfl, rfl, rfl, rfl, trivial⟩ rfl rfl ?_
    intro k hk
    by_cases hltk : k < (bitL q).length
    · have hy := i64s_at (l := natsI (bitL q)) (i := k) (by rw [natsI_len]; exact hltk)
      have hyk : (natsI (bitL q))[k]'(by rw [natsI_len]; exact hltk) = (((bitL q)[k] : Nat) : Int) := by simp [natsI]
      rw [hyk] at hy
      have hsuc : suc (begM z5) i (bitL q)[k] = true := by rw [suc, hqe]; exact (hmem _).1 (List.getElem_mem hltk)
      generalize (bitL q)[k] = x at hy hsuc
      have hxn := begM_in hv hsuc
      obtain ⟨hatx, hsex⟩ := hrow x hxn
      have hqx8 := bitL_le ((begM z5).getD x 0)
      have hmx := mem_bitL (k := i) (h256 x)
      by_cases hb : suc (begM z5) x i = true
      · obtain ⟨l1, l2⟩ := left_two hv hsuc hb
        have d1 : decide ((i : Int) ∈ natsI (bitL ((begM z5).getD x 0))) = true := decide_eq_true (mem_natsI.2 (hmx.2 hb))
        have d2 : decide ((i : Int) ∈ natsI (leftM z5)) = true := decide_eq_true (mem_natsI.2 l1)
        have d3 : decide ((x : Int) ∈ natsI (leftM z5)) = true := decide_eq_true (mem_natsI.2 l2)
        refine G_seq (G_seq (G_region ?_))
        refine G_val (V_move rfl rfl) rfl rfl (.none rfl) ?_
        refine G_val (V_move rfl rfl) rfl rfl (.none rfl) ?_
        refine G_val (V_move rfl rfl) rfl rfl (.none rfl) ?_
        refine G_val (V_idxAddr rfl rfl rfl (SlE.rd (by assumption)) (by omega) (by omega)) rfl rfl (.none rfl) ?_
        refine G_val (V_loadS rfl rfl (SlE.rd (by assumption)) hat (by simp)) rfl rfl (.none rfl) ?_
        refine G_val (V_lenS rfl rfl) rfl rfl (.none rfl) ?_
        refine G_val (V_lss rfl rfl rfl) rfl rfl (.none rfl) ?_
        refine G_end (X_then ?_)
        refine G_cond_t rfl (decide_eq_true (by omega)) ?_
        refine G_skip (X_then (G_seq (G_block (G_seq (G_region ?_)))))
        refine G_val (V_move rfl rfl) rfl rfl (.none rfl) ?_
        refine G_val (V_move rfl rfl) rfl rfl (.none rfl) ?_
        refine G_val (V_idxAddr rfl rfl rfl (SlE.rd (by assumption)) (by omega) (by omega)) rfl rfl (.none rfl) ?_
        refine G_val (V_loadS rfl rfl (SlE.rd (by assumption)) hat (by simp)) rfl rfl (.none rfl) ?_
        refine G_val (V_move rfl rfl) rfl rfl (.none rfl) ?_
        refine G_val (V_idxAddr rfl rfl rfl (SlE.rd (by assumption)) (by omega) (by omega)) rfl rfl (.none rfl) ?_
        refine G_val (V_loadS rfl rfl (SlE.rd (by assumption)) (by assumption) (by simp)) rfl rfl (.none rfl) ?_
        refine G_val (V_assign rfl rfl) rfl rfl (.none rfl) ?_
        refine G_end (X_then (G_seq (G_region ?_)))
        refine G_val (V_move rfl rfl) rfl rfl (.none rfl) ?_
        refine G_val (V_lss rfl rfl rfl) rfl rfl (.none rfl) ?_
        refine G_val (V_move rfl rfl) rfl rfl (.none rfl) ?_
        refine G.bool_f 73 rfl (decide_eq_false (by omega)) ?_
        refine G_val (V_move rfl rfl) rfl rfl (.yes rfl rfl rfl rfl) ?_
        refine G_val (V_move rfl rfl) rfl rfl (.yes rfl rfl rfl rfl) ?_
        refine G_val (V_lenS rfl rfl) rfl rfl (.yes rfl rfl rfl rfl) ?_
        refine G_val (V_geq rfl rfl rfl) rfl rfl (.yes rfl rfl rfl rfl) ?_
        refine G_val (V_pick_f rfl rfl rfl) rfl rfl (.none rfl) ?_
        refine G_val (V_move rfl rfl) rfl rfl (.none rfl) ?_
        refine G.bool_f 79 rfl (decide_eq_false (by omega)) ?_
        refine G_val (V_move rfl rfl) rfl rfl (.yes rfl rfl rfl rfl) ?_
        refine G_val (V_move rfl rfl) rfl rfl (.yes rfl rfl rfl rfl) ?_
        refine G_val (V_idxAddr rfl rfl rfl (SlE.rd (by assumption)) (by omega) (by omega)) rfl rfl (.yes rfl rfl rfl rfl) ?_
        refine G_val (V_loadS rfl rfl (SlE.rd (by assumption)) (by assumption) (by simp)) rfl rfl (.yes rfl rfl rfl rfl) ?_
        refine G_val (V_move rfl rfl) rfl rfl (.yes rfl rfl rfl rfl) ?_
        refine G_callv (k := 17) (.mk rfl rfl rfl rfl) rfl rfl (.yes rfl rfl rfl rfl) (Has_call _ _ _ _ _ _ (by assumption) (by omega) _) ?_
        refine G_val (V_move rfl rfl) rfl rfl (.yes rfl rfl rfl rfl) ?_
        refine G.bool_t 86 rfl (by assumption) ?_
        refine G_val (V_move rfl rfl) rfl rfl (.yes rfl rfl rfl rfl) ?_
        refine G_val (V_move rfl rfl) rfl rfl (.yes rfl rfl rfl rfl) ?_
        refine G_callv (k := 17) (.mk rfl rfl rfl rfl) rfl rfl (.yes rfl rfl rfl rfl) (Has_call _ _ _ _ _ _ (by assumption) (by omega) _) ?_
        refine G_val (V_not rfl rfl) rfl rfl (.yes rfl rfl rfl rfl) ?_
        refine G_val (V_move rfl rfl) rfl rfl (.yes rfl rfl rfl rfl) ?_
        refine G.bool_f 91 rfl (by simp [*]; done) ?_
        refine G_val (V_move rfl rfl) rfl rfl (.yes rfl rfl rfl rfl) ?_
        refine G_val (V_move rfl rfl) rfl rfl (.yes rfl rfl rfl rfl) ?_
        refine G_callv (k := 17) (.mk rfl rfl rfl rfl) rfl rfl (.yes rfl rfl rfl rfl) (Has_call _ _ _ _ _ _ (by assumption) (by omega) _) ?_
        refine G_val (V_not rfl rfl) rfl rfl (.yes rfl rfl rfl rfl) ?_
        refine G_val (V_pick_f rfl rfl rfl) rfl rfl (.yes rfl rfl rfl rfl) ?_
        refine G_val (V_pick_t rfl rfl rfl) rfl rfl (.yes rfl rfl rfl rfl) ?_
        refine G_val (V_pick_f rfl rfl rfl) rfl rfl (.none rfl) ?_
        refine G_end (X_then ?_)
        refine G_cond_f rfl (by simp [*]; done) ?_
        refine G_skip (X_block (X_then (G_region ?_)))
        refine G_val (V_move rfl rfl) rfl rfl (.none rfl) ?_
        refine G_val (V_add_i64 rfl rfl rfl (by omega) (by omega)) rfl rfl (.none rfl) ?_
        refine G_val (V_assign rfl rfl) rfl rfl (.none rfl) ?_
        refine G_end (X_then ?_)
        exact G_again (k + 1) hltk (by omega) ⟨rfl, rfl, rfl, rfl, rfl, rfl, trivial⟩ rfl rfl
      · have d1 : decide ((i : Int) ∈ natsI (bitL ((begM z5).getD x 0))) = false := decide_eq_false fun h => hb (hmx.1 (mem_natsI.1 h))
        refine G_seq (G_seq (G_region ?_))
        refine G_val (V_move rfl rfl) rfl rfl (.none rfl) ?_
        refine G_val (V_move rfl rfl) rfl rfl (.none rfl) ?_
        refine G_val (V_move rfl rfl) rfl rfl (.none rfl) ?_
        refine G_val (V_idxAddr rfl rfl rfl (SlE.rd (by assumption)) (by omega) (by omega)) rfl rfl (.none rfl) ?_
        refine G_val (V_loadS rfl rfl (SlE.rd (by assumption)) hat (by simp)) rfl rfl (.none rfl) ?_
        refine G_val (V_lenS rfl rfl) rfl rfl (.none rfl) ?_
        refine G_val (V_lss rfl rfl rfl) rfl rfl (.none rfl) ?_
        refine G_end (X_then ?_)
        refine G_cond_t rfl (decide_eq_true (by omega)) ?_
        refine G_skip (X_then (G_seq (G_block (G_seq (G_region ?_)))))
        refine G_val (V_move rfl rfl) rfl rfl (.none rfl) ?_
        refine G_val (V_move rfl rfl) rfl rfl (.none rfl) ?_
        refine G_val (V_idxAddr rfl rfl rfl (SlE.rd (by assumption)) (by omega) (by omega)) rfl rfl (.none rfl) ?_
        refine G_val (V_loadS rfl rfl (SlE.rd (by assumption)) hat (by simp)) rfl rfl (.none rfl) ?_
        refine G_val (V_move rfl rfl) rfl rfl (.none rfl) ?_
        refine G_val (V_idxAddr rfl rfl rfl (SlE.rd (by assumption)) (by omega) (by omega)) rfl rfl (.none rfl) ?_
        refine G_val (V_loadS rfl rfl (SlE.rd (by assumption)) (by assumption) (by simp)) rfl rfl (.none rfl) ?_
        refine G_val (V_assign rfl rfl) rfl rfl (.none rfl) ?_
        refine G_end (X_then (G_seq (G_region ?_)))
        refine G_val (V_move rfl rfl) rfl rfl (.none rfl) ?_
        refine G_val (V_lss rfl rfl rfl) rfl rfl (.none rfl) ?_
        refine G_val (V_move rfl rfl) rfl rfl (.none rfl) ?_
        refine G.bool_f 73 rfl (decide_eq_false (by omega)) ?_
        refine G_val (V_move rfl rfl) rfl rfl (.yes rfl rfl rfl rfl) ?_
        refine G_val (V_move rfl rfl) rfl rfl (.yes rfl rfl rfl rfl) ?_
        refine G_val (V_lenS rfl rfl) rfl rfl (.yes rfl rfl rfl rfl) ?_
        refine G_val (V_geq rfl rfl rfl) rfl rfl (.yes rfl rfl rfl rfl) ?_
        refine G_val (V_pick_f rfl rfl rfl) rfl rfl (.none rfl) ?_
        refine G_val (V_move rfl rfl) rfl rfl (.none rfl) ?_
        refine G.bool_f 79 rfl (decide_eq_false (by omega)) ?_
        refine G_val (V_move rfl rfl) rfl rfl (.yes rfl rfl rfl rfl) ?_
        refine G_val (V_move rfl rfl) rfl rfl (.yes rfl rfl rfl rfl) ?_
        refine G_val (V_idxAddr rfl rfl rfl (SlE.rd (by assumption)) (by omega) (by omega)) rfl rfl (.yes rfl rfl rfl rfl) ?_
        refine G_val (V_loadS rfl rfl (SlE.rd (by assumption)) (by assumption) (by simp)) rfl rfl (.yes rfl rfl rfl rfl) ?_
        refine G_val (V_move rfl rfl) rfl rfl (.yes rfl rfl rfl rfl) ?_
        refine G_callv (k := 17) (.mk rfl rfl rfl rfl) rfl rfl (.yes rfl rfl rfl rfl) (Has_call _ _ _ _ _ _ (by assumption) (by omega) _) ?_
        refine G_val (V_move rfl rfl) rfl rfl (.yes rfl rfl rfl rfl) ?_
        refine G.bool_f 86 rfl (by assumption) ?_
        refine G_stay (.no rfl rfl rfl rfl) rfl rfl ?_
        refine G_stay (.no rfl rfl rfl rfl) rfl rfl ?_
        refine G_stay (.no rfl rfl rfl rfl) rfl rfl ?_
        refine G_stay (.no rfl rfl rfl rfl) rfl rfl ?_
        refine G_stay (.no rfl rfl rfl rfl) rfl rfl ?_
        refine G_stay (.un rfl rfl rfl rfl) rfl rfl ?_
        refine G_stay (.un rfl rfl rfl rfl) rfl rfl ?_
        refine G_stay (.un rfl rfl rfl rfl) rfl rfl ?_
        refine G_stay (.un rfl rfl rfl rfl) rfl rfl ?_
        refine G_stay (.no rfl rfl rfl rfl) rfl rfl ?_
        refine G_val (V_pick_f rfl rfl rfl) rfl rfl (.yes rfl rfl rfl rfl) ?_
        refine G_val (V_pick_f rfl rfl rfl) rfl rfl (.none rfl) ?_
        refine G_end (X_then ?_)
        refine G_cond_f rfl rfl ?_
        refine G_skip (X_block (X_then (G_region ?_)))
        refine G_val (V_move rfl rfl) rfl rfl (.none rfl) ?_
        refine G_val (V_add_i64 rfl rfl rfl (by omega) (by omega)) rfl rfl (.none rfl) ?_
        refine G_val (V_assign rfl rfl) rfl rfl (.none rfl) ?_
        refine G_end (X_then ?_)
        exact G_again (k + 1) hltk (by omega) ⟨rfl, rfl, rfl, rfl, rfl, rfl, trivial⟩ rfl rfl
    · refine G_seq ?_
      refine G_seq (G_region ?_)
      refine G_val (V_move rfl rfl) rfl rfl (.none rfl) ?_
      refine G_val (V_move rfl rfl) rfl rfl (.none rfl) ?_
      refine G_val (V_move rfl rfl) rfl rfl (.none rfl) ?_
      refine G_val (V_idxAddr rfl rfl rfl (SlE.rd (by assumption)) (by omega) (by omega)) rfl rfl (.none rfl) ?_
      refine G_val (V_loadS rfl rfl (SlE.rd (by assumption)) (by assumption) (by simp)) rfl rfl (.none rfl) ?_
      refine G_val (V_lenS rfl rfl) rfl rfl (.none rfl) ?_
      refine G_val (V_lss rfl rfl rfl) rfl rfl (.none rfl) ?_
      refine G_end (X_then ?_)
      refine G_cond_f rfl (decide_eq_false (by omega)) ?_
      refine G_exit (X_then_exit (X_then_exit (X_block_hit (X_block (X_then (G_region ?_))))))
      refine G_val (V_move rfl rfl) rfl rfl (.none rfl) ?_
      refine G_val (V_add_i64 rfl rfl rfl (by omega) (by omega)) rfl rfl (.none rfl) ?_
      refine G_val (V_assign rfl rfl) rfl rfl (.none rfl) ?_
      refine G_end (X_then ?_)
      exact G_again (i + 1) hlti (by omega) ⟨rfl, rfl, rfl, rfl, rfl, trivial⟩ rfl rfl
  · clear hrow hrs hrm hrl hsb
    refine G_seq (G_seq (G_region ?_))
    refine G_val (V_move rfl rfl) rfl rfl (.none rfl) ?_
    refine G_val (V_move rfl rfl) rfl rfl (.none rfl) ?_
    refine G_val (V_lenS rfl rfl) rfl rfl (.none rfl) ?_
    refine G_val (V_lss rfl rfl rfl) rfl rfl (.none rfl) ?_
    refine G_end (X_then ?_)
    refine G_cond_f rfl (decide_eq_false (by omega)) ?_
    refine G_exit (X_then_exit (X_then_exit (X_block_hit (X_then (G_seq (G_region ?_))))))
    refine G_val (V_loadA rfl rfl (Cells.own (.head _)) rfl) rfl rfl (.none rfl) ?_
    refine G_call (k := 18) (.mk rfl rfl rfl rfl) rfl rfl (.none rfl) (OwnGrammar_call _ _ _ _ (by assumption) (by assumption)) ?_
    rintro r1 E4 L5 hE6 ⟨Z10, rfl⟩
    replace Z17 := Z17.mono hE6
    replace Z9 := Z9.mono hE6
    replace hx := hx.mono hE6
    replace Z6 := Z6.mono hE6
    replace hg0 := hg0.mono hE6
    replace ht := ht.mono hE6
    replace hnm := hnm.mono hE6
    replace hps := hps.mono hE6
    replace hsa := hsa.mono hE6
    replace hg1 := hg1.mono hE6
    (refine G_alloc rfl rfl rfl (.none rfl) ?_; intro b13)
    have hg2 : GrE E4 r1 z5 := by assumption
    obtain ⟨tp2, tc2, np2, nc2, pp2, pc2, rfl, ht2, hnm2, ⟨rows2, hrows2, hps2, hre2⟩, kk1, kk2, kk3⟩ := hg2
    have hlen2 : z5.prods.length = rows2.length := by rw [← hrows2]; simp
    clear hpn
    refine G_storeA rfl rfl rfl rfl (by simp [Value.oneCell']) rfl (.none rfl) (.head _ _ _) rfl ?_
    refine G_end (X_then (G_seq (G_region ?_)))
    refine G_val (V_move rfl rfl) rfl rfl (.none rfl) ?_
    refine G_val (V_fieldAddr rfl rfl (by decide)) rfl rfl (.none rfl) ?_
    refine G_val (V_load rfl rfl (Cell.own (.tail _ (.head _)) rfl)) rfl rfl (.none rfl) ?_
    refine G_val (V_lenS rfl rfl) rfl rfl (.none rfl) ?_
    have hpn := prods_pos hc
    refine G_call (k := 19) (.mk rfl rfl rfl rfl) rfl rfl (.none rfl) (Mod_call'' _ _ _ _ hm ⟨by omega, by omega⟩) ?_
    rintro r E5 L5 hE5 ⟨z8, rfl, hz8, rfl, rfl⟩
    have e8 : ((z8 : Int) + 1).toNat = z8 + 1 := by omega
    have hhd : SlE E4 2 pp2 z8 (prows (rows2.take z8)) := by
      have := hps2.head (i := z8) (by omega)
      rwa [prows_take] at this
    have htl : SlE E4 2 (tailAt pp2 ((z8 : Int) + 1).toNat pc2 2) (z5.prods.length - ((z8 : Int) + 1).toNat) (prows (rows2.drop (z8 + 1))) := by
      have := hps2.tail (l := z8 + 1) (c := pc2) (by omega) (by omega)
      rwa [prows_drop, ← e8] at this
    have hpl1 := prows_len (rows2.take z8)
    have hpl2 := prows_len (rows2.drop (z8 + 1))
    rw [List.length_take] at hpl1
    rw [List.length_drop] at hpl2
    refine G_val (V_assign rfl rfl) rfl rfl (.none rfl) ?_
    refine G_end (X_then (G_seq ?_))
    (refine G_drawT 10 mixed (by kernel_rfl) ?_; dsimp only [List.take, List.drop])
    refine Q_val (V_fieldAddr rfl rfl (by decide)) rfl rfl (.none rfl) ?_
    refine Q_val (V_load rfl rfl (Cell.own (.head _) rfl)) rfl rfl (.none rfl) ?_
    refine Q_val (V_move rfl rfl) rfl rfl (.none rfl) ?_
    refine Q_val (V_move rfl rfl) rfl rfl (.none rfl) ?_
    refine Q_val (V_sl3n rfl rfl rfl rfl (by omega) (by omega)) rfl rfl (.none rfl) ?_
    refine Q_val (V_fieldAddr rfl rfl (by decide)) rfl rfl (.none rfl) ?_
    refine Q_val (V_load rfl rfl (Cell.own (.head _) rfl)) rfl rfl (.none rfl) ?_
    refine Q_val (V_move rfl rfl) rfl rfl (.none rfl) ?_
    refine Q_val (V_add_i64 rfl rfl rfl (by omega) (by omega)) rfl rfl (.none rfl) ?_
    refine Q_val (V_slTail rfl rfl rfl (by omega) (by omega)) rfl rfl (.none rfl) ?_
    refine Q_endT ?_
    refine G_appendZ rfl rfl rfl hhd htl (by omega) (by omega) rfl rfl (.none rfl) ?_
    intro a116 c116 E116 hE116 hs116 hc116
    have hl3 : (z5.prods.take z8 ++ z5.prods.drop (z8 + 1)).length = z5.prods.length - 1 := by rw [List.length_append, List.length_take, List.length_drop]; omega
    rw [show z8 + (z5.prods.length - ((z8 : Int) + 1).toNat) = z5.prods.length - 1 by omega] at hs116 hc116 ⊢
    have hmap : (rows2.take z8 ++ rows2.drop (z8 + 1)).map (·.2.2) = z5.prods.take z8 ++ z5.prods.drop (z8 + 1) := by
      rw [List.map_append, List.map_take, List.map_drop, hrows2]
    have hsub : ∀ p, p ∈ z5.prods.take z8 ++ z5.prods.drop (z8 + 1) → p ∈ z5.prods := fun p hp => by
      rcases List.mem_append.1 hp with h | h
      · exact List.mem_of_mem_take h
      · exact List.mem_of_mem_drop h
    have hord := ords_erase (gcheck_ok hc).2.2.2.2.2.2.1 z8
    have hp24 : z5.prods.length ≤ 24 := hv.prods
    have hck := check_less hc (by omega) hsub hord
    have hgl : GrE E116 (.agg #[.int .i64 z5.k, .slice tp2 z5.toks.length tc2, .string (S z5.sep), .slice np2 z5.names.length nc2, .int .i64 z5.start, .slice a116 (z5.prods.length - 1) c116]) (withP z5 (z5.prods.take z8 ++ z5.prods.drop (z8 + 1))) :=
      ⟨tp2, tc2, np2, nc2, a116, c116, by rw [← hl3]; rfl, ht2.mono hE116, hnm2.mono hE116, ⟨rows2.take z8 ++ rows2.drop (z8 + 1), hmap, by show SlE E116 2 _ (z5.prods.take z8 ++ z5.prods.drop (z8 + 1)).length _; rw [hl3, prows_append]; exact hs116, fun y hy => by
        rcases List.mem_append.1 hy with h | h
        · exact (hre2.mono hE116) y (List.mem_of_mem_take h)
        · exact (hre2.mono hE116) y (List.mem_of_mem_drop h)⟩, kk1, kk2, by show (z5.prods.take z8 ++ z5.prods.drop (z8 + 1)).length ≤ _; rw [hl3]; exact hc116⟩
    have hll2 : Light (withP z5 (z5.prods.take z8 ++ z5.prods.drop (z8 + 1))) := ⟨hl.t, hl.n, Nat.le_trans (Nat.le_of_eq hl3) (by omega), hl.sep, hl.ts, hl.ns, fun p hp => hl.ps p (hsub p hp)⟩
    have hlt2 : gcheck (withP z5 (z5.prods.take z8 ++ z5.prods.drop (z8 + 1))) = 0 → ∀ i, i ∈ leftM (withP z5 (z5.prods.take z8 ++ z5.prods.drop (z8 + 1))) → i ∈ leftM z5 := fun h i hi => left_less hv (valid_of h) hsub hi
    have hlm2 : (leftM (withP z5 (z5.prods.take z8 ++ z5.prods.drop (z8 + 1)))).length ≤ z5.names.length := leftM_le _
    generalize withP z5 (z5.prods.take z8 ++ z5.prods.drop (z8 + 1)) = g2 at hck hgl hll2 hlt2 hlm2
    replace hsa := hsa.mono (Env.Le.trans (by repeat (first | assumption | refine Env.Le.trans (by assumption) ?_)) hE116)
    refine G_val (V_fieldAddr rfl rfl (by decide)) rfl rfl (.none rfl) ?_
    refine G_storeAt rfl rfl rfl rfl rfl rfl (.none rfl) (.head _ _ _) (Nat.le_of_ble_eq_true rfl) (by simp only [putAll, Nat.zero_add, Nat.reduceAdd, List.setIfInBounds_toArray, List.set_cons_succ, List.set_cons_zero]; rfl) ?_
    refine G_end (X_then (G_seq (G_region ?_)))
    refine G_val (V_loadA rfl rfl (Cells.own (.head _)) rfl) rfl rfl (.none rfl) ?_
    refine G_call (k := 15) (.mk rfl rfl rfl rfl) rfl rfl (.none rfl) (Left_call _ _ _ g2 hgl hll2) ?_
    rintro r E6 L6 hE6 ⟨q, cq, rfl, hsq, rfl⟩
    replace hsa := hsa.mono hE6
    rcases hck with hck | hck
    · rw [okL_pos hck] at hsq ⊢
      rw [hck]
      refine G_val (V_move rfl rfl) rfl rfl (.none rfl) ?_
      refine G_val (V_extract rfl rfl rfl) rfl rfl (.none rfl) ?_
      refine G_val (V_extract rfl rfl rfl) rfl rfl (.none rfl) ?_
      refine G_val (V_assign rfl rfl) rfl rfl (.none rfl) ?_
      refine G_val (V_assign rfl rfl) rfl rfl (.none rfl) ?_
      refine G_end (X_then (G_seq (G_seq (G_region ?_))))
      refine G_val (V_move rfl rfl) rfl rfl (.none rfl) ?_
      refine G_val (V_neq rfl rfl rfl) rfl rfl (.none rfl) ?_
      refine G_end (X_then ?_)
      refine G_cond_f rfl (by kernel_rfl) ?_
      refine G_skip (X_then (G_seq (G_seq (G_region ?_))))
      refine G_val (V_assign rfl rfl) rfl rfl (.none rfl) ?_
      refine G_end (X_then (G_block ?_))
      have hml := hlt2 hck
      have hEc : E.Le E6 := by repeat (first | assumption | refine Env.Le.trans (by assumption) ?_)
      refine G.drop (G.drop ?_)
      refine G_loop (α := Nat) (fun k => [(6, .slice z6 (leftM z5).length z7), (15, .slice q (leftM g2).length cq), (16, .int .i64 k)]) (fun _ => E6)
        (fun _ => L3) (fun k => k ≤ (leftM g2).length) (fun k => (leftM g2).length - k) 0 (Nat.zero_le _) ⟨rfl, rfl, rfl, trivial⟩ rfl rfl ?_
      intro k hk
      by_cases hltk : k < (leftM g2).length
      · have hy := i64s_at (l := natsI (leftM g2)) (i := k) (by rw [natsI_len]; exact hltk)
        have hyk : (natsI (leftM g2))[k]'(by rw [natsI_len]; exact hltk) = (((leftM g2)[k] : Nat) : Int) := by simp [natsI]
        rw [hyk] at hy
        have hyl := hml _ (List.getElem_mem hltk)
        generalize (leftM g2)[k] = y at hy hyl
        have d1 : decide ((y : Int) ∈ natsI (leftM z5)) = true := decide_eq_true (mem_natsI.2 hyl)
        refine G_seq (G_seq (G_region ?_))
        refine G_val (V_move rfl rfl) rfl rfl (.none rfl) ?_
        refine G_val (V_move rfl rfl) rfl rfl (.none rfl) ?_
        refine G_val (V_lenS rfl rfl) rfl rfl (.none rfl) ?_
        refine G_val (V_lss rfl rfl rfl) rfl rfl (.none rfl) ?_
        refine G_end (X_then ?_)
        refine G_cond_t rfl (decide_eq_true (by omega)) ?_
        refine G_skip (X_then (G_seq (G_block (G_seq (G_region ?_)))))
        refine G_val (V_move rfl rfl) rfl rfl (.none rfl) ?_
        refine G_val (V_move rfl rfl) rfl rfl (.none rfl) ?_
        refine G_val (V_move rfl rfl) rfl rfl (.none rfl) ?_
        refine G_val (V_idxAddr rfl rfl rfl (SlE.rd (by assumption)) (by omega) (by omega)) rfl rfl (.none rfl) ?_
        refine G_val (V_loadS rfl rfl (SlE.rd (by assumption)) (by assumption) (by simp)) rfl rfl (.none rfl) ?_
        refine G_callv (k := 17) (.mk rfl rfl rfl rfl) rfl rfl (.none rfl) (Has_call _ _ _ _ _ _ (by assumption) (by omega) _) ?_
        refine G_val (V_not rfl rfl) rfl rfl (.none rfl) ?_
        refine G_end (X_then ?_)
        refine G_cond_f rfl (by simp [*]; done) ?_
        refine G_skip (X_block (X_then (G_region ?_)))
        refine G_val (V_move rfl rfl) rfl rfl (.none rfl) ?_
        refine G_val (V_add_i64 rfl rfl rfl (by omega) (by omega)) rfl rfl (.none rfl) ?_
        refine G_val (V_assign rfl rfl) rfl rfl (.none rfl) ?_
        refine G_end (X_then ?_)
        exact G_again (k + 1) hltk (by omega) ⟨rfl, rfl, rfl, trivial⟩ rfl rfl
      · refine G_seq ?_
        refine G_seq (G_region ?_)
        refine G_val (V_move rfl rfl) rfl rfl (.none rfl) ?_
        refine G_val (V_move rfl rfl) rfl rfl (.none rfl) ?_
        refine G_val (V_lenS rfl rfl) rfl rfl (.none rfl) ?_
        refine G_val (V_lss rfl rfl rfl) rfl rfl (.none rfl) ?_
        refine G_end (X_then ?_)
        refine G_cond_f rfl (decide_eq_false (by omega)) ?_
        refine G_exit (X_then_exit (X_then_exit (X_block_hit (X_then (G_seq (G_region ?_))))))
        refine G_call (k := 20) (.mk rfl rfl rfl rfl) rfl rfl (.none rfl) (awake11_call _ _) ?_
        rintro r1 E5 L6 hE7 ⟨rfl, rfl⟩
        replace hsq := hsq.mono hE7
        replace hsa := hsa.mono hE7
        refine G_val (V_assign rfl rfl) rfl rfl (.none rfl) ?_
        refine G_end (X_then (G_ret ?_))
        exact G_leave 0 (.cons (.tmp rfl) .nil) rfl (Env.Le.trans hEc (by assumption)) ⟨rfl, rfl⟩
    · rw [hck]
      have hEc : E.Le E6 := by repeat (first | assumption | refine Env.Le.trans (by assumption) ?_)
      refine G_val (V_move rfl rfl) rfl rfl (.none rfl) ?_
      refine G_val (V_extract rfl rfl rfl) rfl rfl (.none rfl) ?_
      refine G_val (V_extract rfl rfl rfl) rfl rfl (.none rfl) ?_
      refine G_val (V_assign rfl rfl) rfl rfl (.none rfl) ?_
      refine G_val (V_assign rfl rfl) rfl rfl (.none rfl) ?_
      refine G_end (X_then (G_seq (G_seq (G_region ?_))))
      refine G_val (V_move rfl rfl) rfl rfl (.none rfl) ?_
      refine G_val (V_neq rfl rfl rfl) rfl rfl (.none rfl) ?_
      refine G_end (X_then ?_)
      refine G_cond_t rfl (by kernel_rfl) ?_
      refine G_seq (G_region ?_)
      refine G_val (V_move rfl rfl) rfl rfl (.none rfl) ?_
      refine G_val (V_eql rfl rfl rfl) rfl rfl (.none rfl) ?_
      refine G_val (V_move rfl rfl) rfl rfl (.none rfl) ?_
      refine G.bool_t 127 rfl (by kernel_rfl) ?_
      refine G_call (k := 20) (.mk rfl rfl rfl rfl) rfl rfl (.yes rfl rfl rfl rfl) (awake11_call _ _) ?_
      rintro r1 E5 L6 hE7 ⟨rfl, rfl⟩
      replace hsq := hsq.mono hE7
      replace hsa := hsa.mono hE7
      refine G_val (V_pick_t rfl rfl rfl) rfl rfl (.none rfl) ?_
      refine G_val (V_assign rfl rfl) rfl rfl (.none rfl) ?_
      refine G_end (X_then (G_ret (X_then_ret ?_)))
      exact G_leave 2 (.cons (.tmp rfl) .nil) rfl (Env.Le.trans hEc (by assumption)) ⟨rfl, rfl⟩
end
end Go.Proofs.Ytaoinojdijbhaaa
