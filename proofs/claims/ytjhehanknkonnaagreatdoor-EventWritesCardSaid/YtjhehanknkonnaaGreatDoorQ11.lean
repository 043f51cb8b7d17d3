/-
  Rules and contracts, packed: W33, W34, W35, W36, W30, W37, W38.
-/
import Derived.Test.YtjhehanknkonnaaGreatDoorQ10
set_option maxHeartbeats 1000000
set_option linter.unusedSimpArgs false
set_option linter.unusedVariables false
set_option maxHeartbeats 2000000
set_option maxRecDepth 20000
namespace Go.Proofs.YtjhehanknkonnaaGreatDoor
open Go.RowKit
/-! The reference's Bytes. -/
section
variable (E : Env) (L : List Res)
theorem RBytes_call (k sy pr rc pl : Int) (tx : List UInt8) (er : Int) : CallS Tryz.prog 15 #[.agg #[.int .i64 k, .int .i64 sy, .int .i64 pr, .int .i64 rc, .int .i64 pl, .string (S tx), .int .i64 er]] E L (fun r E' L' => r = .tuple #[.string (S (byM (k, sy, pr, rc, pl, tx, er)).1), .int .i64 (byM (k, sy, pr, rc, pl, tx, er)).2] ∧ L' = L) := by
  unfold byM
  refine CallS.intro (l := [_]) _ Tryz.func15 rfl Tryz.ntmps15 rfl ?_
  refine G_seq (G_region ?_)
  (refine G_boxA rfl rfl rfl rfl (.none rfl) ?_; intro b1)
  refine Ga ?_
  refine Ga ?_
  refine G_end (X_then (G_seq (G_region ?_)))
  refine Gv (V_loadA rfl rfl (Cells.own (.head _)) rfl) ?_
  refine G_call (k := 13) (.mk rfl rfl rfl rfl) rfl rfl (.none rfl) (RCheck_call' _ _ k sy pr rc pl tx er) ?_
  rintro x1 E1 L1 hE1 ⟨rfl, rfl⟩
  by_cases hc : chkE (k, sy, pr, rc, pl, tx, er) = 0
  · rw [if_pos hc, hc]
    have hok := ev_ok hc
    have k1 : 1 ≤ k := hok.k1
    have k7 : k ≤ 7 := hok.k7
    have s0 : -1 ≤ sy := hok.s0
    have s1 : sy < 24 := hok.s1
    have p0 : 0 ≤ pr := hok.p0
    have p1 : pr < 24 := hok.p1
    have r0 : 0 ≤ rc := hok.r0
    have r1 : rc ≤ 1099511627776 := hok.r1
    have l0 : 0 ≤ pl := hok.l0
    have l1 : pl ≤ 1099511627776 := hok.l1
    have t1 : tx.length ≤ 24 := hok.t
    have e0 : 0 ≤ er := hok.e0
    have e1 : er ≤ 26 := hok.e1
    refine Ga ?_
    refine G_end (X_then (G_seq (G_seq (G_region ?_))))
    refine Gm ?_
    refine Gv (V_neq rfl rfl rfl) ?_
    refine G_end (X_then ?_)
    refine G_cond_f rfl (by kernel_rfl) ?_
    refine G_skip (X_then (G_seq ?_))
    refine G_drawX 6 [(1, 0), (2, 1), (0, 3), (3, 0), (4, 3), (5, 2)] mixed (by kernel_rfl) ?_
    refine F_pure rfl (fun _ _ => V_fieldAddr rfl rfl (by decide)) rfl rfl (.none rfl) ?_
    refine F_load rfl (.head _) (V_load rfl rfl (Cell.own (.head _) rfl)) rfl rfl (.none rfl) ?_
    refine F_callv (k := 48) rfl (.mk rfl rfl rfl rfl) rfl rfl (.none rfl) (fun _ => Make2I_call _ _) ?_
    refine F_pure rfl (fun _ _ => V_conv_u64 rfl rfl (by omega) (by omega)) rfl rfl (.none rfl) ?_
    refine F_callv (k := 47) rfl (.mk rfl rfl rfl rfl) rfl rfl (.none rfl) (fun _ => Put2I_call _ _ _ _ _ (by omega) (by omega) (by omega) (by (simp; done))) ?_
    (refine F_alloc rfl rfl rfl rfl (.none rfl) ?_; intro b5)
    (refine F_end (.nil _) ?_; dsimp only [List.drop])
    refine G_storeA rfl rfl rfl rfl (by simp [Value.oneCell']) rfl (.none rfl) (.head _ _ _) rfl ?_
    refine G_end (X_then (G_seq (G_region ?_)))
    refine Gv (V_fieldAddr rfl rfl (by decide)) ?_
    refine Gv (V_load rfl rfl (Cell.own (.tail _ (.head _)) rfl)) ?_
    refine G_call (k := 49) (.mk rfl rfl rfl rfl) rfl rfl (.none rfl) (rfields_call' _ _ _) ?_
    rintro r2 E3 L4 hE5 ⟨Z6, rfl⟩
    refine Ga ?_
    refine G_end (X_then (G_seq (G_seq (G_region ?_))))
    refine Ga ?_
    refine G_end (X_then (G_block ?_))
    obtain ⟨⟨fa, fc, rfl, hs, hfc⟩⟩ := (by assumption : RFldR k E3 r2)
    rw [fieldsR_eq ⟨k1, k7⟩] at hs hfc
    rw [fieldsR_eq ⟨k1, k7⟩, List.length_map]
    rw [List.length_map] at hs hfc
    have hfl := fieldsK_len k
    have h00 : vbytes k.toNat = bL (k, sy, pr, rc, pl, tx, er) 0 := by simp [bL]
    rw [List.nil_append, h00]
    refine G_loop (α := Nat × Env) (fun x => [(1, .pointer (some ⟨b1, 0, none⟩)), (5, .pointer (some ⟨b5, 0, none⟩)), (6, .slice fa (fieldsK k).length fc), (7, .int .i64 (x.1 : Nat))]) (fun x => x.2)
      (fun x => .blk b5 (.cells #[.string (S (bL (k, sy, pr, rc, pl, tx, er) x.1)), .int .i64 20000, .int .i64 0] 60 (0, 0)) :: .blk b1 (.cells #[.int .i64 k, .int .i64 sy, .int .i64 pr, .int .i64 rc, .int .i64 pl, .string (S tx), .int .i64 er] 28 (0, 0)) :: L) (fun x => x.1 ≤ (fieldsK k).length ∧ E3.Le x.2) (fun x => (fieldsK k).length - x.1) (0, E3) ⟨Nat.zero_le _, .refl _⟩ ⟨rfl, rfl, rfl, rfl, trivial⟩ rfl rfl ?_
    rintro ⟨i, E9⟩ ⟨hi, hE9⟩
    simp only at hi hE9 ⊢
    replace hs := hs.mono hE9
    have hbl := bL_len (e := (k, sy, pr, rc, pl, tx, er)) t1 i
    by_cases hlt : i < (fieldsK k).length
    · obtain ⟨f, hf, hfv⟩ := fieldsK_get hlt
      have hx : (i64s ((fieldsK k).map toR))[i]? = some (.int .i64 (toR f)) := i64s_get (by rw [List.getElem?_map, hf]; rfl)
      have hw := bL_succ (e := (k, sy, pr, rc, pl, tx, er)) hf
      generalize bL (k, sy, pr, rc, pl, tx, er) i = o at *
      rcases hfv with rfl | rfl | rfl | rfl | rfl | rfl
      · have hw2 : bL (k, sy, pr, rc, pl, tx, er) (i + 1) = o ++ vbytes rc.toNat := hw
        have hx1 : (i64s ((fieldsK k).map toR))[i]? = some (.int .i64 1) := hx
        clear hw hx
        refine G_seq (G_seq (G_region ?_))
        refine Gm ?_
        refine Gm ?_
        refine Gv (V_lenS rfl rfl) ?_
        refine Gv (V_lss rfl rfl rfl) ?_
        refine G_end (X_then ?_)
        refine G_cond_t rfl (decide_eq_true (by omega)) ?_
        refine G_skip (X_then (G_seq (G_block (G_seq (G_region ?_)))))
        refine Gm ?_
        refine Gm ?_
        refine Gv (V_idxAddr rfl rfl rfl (SlE.rd (by assumption)) (by omega) (by omega)) ?_
        refine Gv (V_loadS rfl rfl (SlE.rd (by assumption)) (by assumption) (by simp)) ?_
        refine G_end (X_then (G_block (G_seq (G_region ?_))))
        refine Gv (V_eql rfl rfl rfl) ?_
        refine Ga ?_
        refine G_end (X_then ?_)
        refine G_cond_t rfl (by kernel_rfl) ?_
        refine G_region ?_
        refine Gv (V_loadA rfl rfl (Cells.own (.head _)) rfl) ?_
        refine Gv (V_fieldAddr rfl rfl (by decide)) ?_
        refine Gv (V_load rfl rfl (Cell.own (.tail _ (.head _)) rfl)) ?_
        refine Gv (V_conv_u64 rfl rfl (by omega) (by omega)) ?_
        refine G_callv (k := 47) (.mk rfl rfl rfl rfl) rfl rfl (.none rfl) (Put2I_call _ _ _ _ _ (by omega) (by assumption) (by omega) (by omega)) ?_
        refine G_storeA rfl rfl rfl rfl (by simp [Value.oneCell']) rfl (.none rfl) (.head _ _ _) rfl ?_
        refine G_end (X_block (X_block (X_then (G_region ?_))))
        refine Gm ?_
        refine Gv (V_add_i64 rfl rfl rfl (by omega) (by omega)) ?_
        refine Ga ?_
        refine G_end (X_then ?_)
        rw [← hw2]
        exact G_again (i + 1, E9) ⟨hlt, hE9⟩ (by simp only; omega) ⟨rfl, rfl, rfl, rfl, trivial⟩ rfl rfl
      · have hw2 : bL (k, sy, pr, rc, pl, tx, er) (i + 1) = o ++ vbytes (sy + 1).toNat := hw
        have hx1 : (i64s ((fieldsK k).map toR))[i]? = some (.int .i64 3) := hx
        clear hw hx
        refine G_seq (G_seq (G_region ?_))
        refine Gm ?_
        refine Gm ?_
        refine Gv (V_lenS rfl rfl) ?_
        refine Gv (V_lss rfl rfl rfl) ?_
        refine G_end (X_then ?_)
        refine G_cond_t rfl (decide_eq_true (by omega)) ?_
        refine G_skip (X_then (G_seq (G_block (G_seq (G_region ?_)))))
        refine Gm ?_
        refine Gm ?_
        refine Gv (V_idxAddr rfl rfl rfl (SlE.rd (by assumption)) (by omega) (by omega)) ?_
        refine Gv (V_loadS rfl rfl (SlE.rd (by assumption)) (by assumption) (by simp)) ?_
        refine G_end (X_then (G_block (G_seq (G_region ?_))))
        refine Gv (V_eql rfl rfl rfl) ?_
        refine Ga ?_
        refine G_end (X_then ?_)
        refine G_cond_f rfl (by kernel_rfl) ?_
        refine G_seq (G_region ?_)
        refine Gv (V_eql rfl rfl rfl) ?_
        refine Ga ?_
        refine G_end (X_then ?_)
        refine G_cond_f rfl (by kernel_rfl) ?_
        refine G_seq (G_region ?_)
        refine Gv (V_eql rfl rfl rfl) ?_
        refine Ga ?_
        refine G_end (X_then ?_)
        refine G_cond_t rfl (by kernel_rfl) ?_
        refine G_region ?_
        refine Gv (V_loadA rfl rfl (Cells.own (.head _)) rfl) ?_
        refine Gv (V_fieldAddr rfl rfl (by decide)) ?_
        refine Gv (V_load rfl rfl (Cell.own (.tail _ (.head _)) rfl)) ?_
        refine Gv (V_add_i64 rfl rfl rfl (by omega) (by omega)) ?_
        refine Gv (V_conv_u64 rfl rfl (by omega) (by omega)) ?_
        refine G_callv (k := 47) (.mk rfl rfl rfl rfl) rfl rfl (.none rfl) (Put2I_call _ _ _ _ _ (by omega) (by omega) (by omega) (by omega)) ?_
        refine G_storeA rfl rfl rfl rfl (by simp [Value.oneCell']) rfl (.none rfl) (.head _ _ _) rfl ?_
        refine G_end (X_block (X_block (X_then (G_region ?_))))
        refine Gm ?_
        refine Gv (V_add_i64 rfl rfl rfl (by omega) (by omega)) ?_
        refine Ga ?_
        refine G_end (X_then ?_)
        rw [← hw2]
        exact G_again (i + 1, E9) ⟨hlt, hE9⟩ (by simp only; omega) ⟨rfl, rfl, rfl, rfl, trivial⟩ rfl rfl
      · have hw2 : bL (k, sy, pr, rc, pl, tx, er) (i + 1) = o ++ vbytes pr.toNat := hw
        have hx1 : (i64s ((fieldsK k).map toR))[i]? = some (.int .i64 4) := hx
        clear hw hx
        refine G_seq (G_seq (G_region ?_))
        refine Gm ?_
        refine Gm ?_
        refine Gv (V_lenS rfl rfl) ?_
        refine Gv (V_lss rfl rfl rfl) ?_
        refine G_end (X_then ?_)
        refine G_cond_t rfl (decide_eq_true (by omega)) ?_
        refine G_skip (X_then (G_seq (G_block (G_seq (G_region ?_)))))
        refine Gm ?_
        refine Gm ?_
        refine Gv (V_idxAddr rfl rfl rfl (SlE.rd (by assumption)) (by omega) (by omega)) ?_
        refine Gv (V_loadS rfl rfl (SlE.rd (by assumption)) (by assumption) (by simp)) ?_
        refine G_end (X_then (G_block (G_seq (G_region ?_))))
        refine Gv (V_eql rfl rfl rfl) ?_
        refine Ga ?_
        refine G_end (X_then ?_)
        refine G_cond_f rfl (by kernel_rfl) ?_
        refine G_seq (G_region ?_)
        refine Gv (V_eql rfl rfl rfl) ?_
        refine Ga ?_
        refine G_end (X_then ?_)
        refine G_cond_f rfl (by kernel_rfl) ?_
        refine G_seq (G_region ?_)
        refine Gv (V_eql rfl rfl rfl) ?_
        refine Ga ?_
        refine G_end (X_then ?_)
        refine G_cond_f rfl (by kernel_rfl) ?_
        refine G_seq (G_region ?_)
        refine Gv (V_eql rfl rfl rfl) ?_
        refine Ga ?_
        refine G_end (X_then ?_)
        refine G_cond_t rfl (by kernel_rfl) ?_
        refine G_region ?_
        refine Gv (V_loadA rfl rfl (Cells.own (.head _)) rfl) ?_
        refine Gv (V_fieldAddr rfl rfl (by decide)) ?_
        refine Gv (V_load rfl rfl (Cell.own (.tail _ (.head _)) rfl)) ?_
        refine Gv (V_conv_u64 rfl rfl (by omega) (by omega)) ?_
        refine G_callv (k := 47) (.mk rfl rfl rfl rfl) rfl rfl (.none rfl) (Put2I_call _ _ _ _ _ (by omega) (by assumption) (by omega) (by omega)) ?_
        refine G_storeA rfl rfl rfl rfl (by simp [Value.oneCell']) rfl (.none rfl) (.head _ _ _) rfl ?_
        refine G_end (X_block (X_block (X_then (G_region ?_))))
        refine Gm ?_
        refine Gv (V_add_i64 rfl rfl rfl (by omega) (by omega)) ?_
        refine Ga ?_
        refine G_end (X_then ?_)
        rw [← hw2]
        exact G_again (i + 1, E9) ⟨hlt, hE9⟩ (by simp only; omega) ⟨rfl, rfl, rfl, rfl, trivial⟩ rfl rfl
      · have hw2 : bL (k, sy, pr, rc, pl, tx, er) (i + 1) = o ++ (vbytes tx.length ++ tx) := hw
        have hx1 : (i64s ((fieldsK k).map toR))[i]? = some (.int .i64 5) := hx
        clear hw hx
        refine G_seq (G_seq (G_region ?_))
        refine Gm ?_
        refine Gm ?_
        refine Gv (V_lenS rfl rfl) ?_
        refine Gv (V_lss rfl rfl rfl) ?_
        refine G_end (X_then ?_)
        refine G_cond_t rfl (decide_eq_true (by omega)) ?_
        refine G_skip (X_then (G_seq (G_block (G_seq (G_region ?_)))))
        refine Gm ?_
        refine Gm ?_
        refine Gv (V_idxAddr rfl rfl rfl (SlE.rd (by assumption)) (by omega) (by omega)) ?_
        refine Gv (V_loadS rfl rfl (SlE.rd (by assumption)) (by assumption) (by simp)) ?_
        refine G_end (X_then (G_block (G_seq (G_region ?_))))
        refine Gv (V_eql rfl rfl rfl) ?_
        refine Ga ?_
        refine G_end (X_then ?_)
        refine G_cond_f rfl (by kernel_rfl) ?_
        refine G_seq (G_region ?_)
        refine Gv (V_eql rfl rfl rfl) ?_
        refine Ga ?_
        refine G_end (X_then ?_)
        refine G_cond_f rfl (by kernel_rfl) ?_
        refine G_seq (G_region ?_)
        refine Gv (V_eql rfl rfl rfl) ?_
        refine Ga ?_
        refine G_end (X_then ?_)
        refine G_cond_f rfl (by kernel_rfl) ?_
        refine G_seq (G_region ?_)
        refine Gv (V_eql rfl rfl rfl) ?_
        refine Ga ?_
        refine G_end (X_then ?_)
        refine G_cond_f rfl (by kernel_rfl) ?_
        refine G_seq (G_region ?_)
        refine Gv (V_eql rfl rfl rfl) ?_
        refine Ga ?_
        refine G_end (X_then ?_)
        refine G_cond_t rfl (by kernel_rfl) ?_
        refine G_region ?_
        refine Gv (V_loadA rfl rfl (Cells.own (.head _)) rfl) ?_
        refine Gv (V_fieldAddr rfl rfl (by decide)) ?_
        refine Gv (V_load rfl rfl (Cell.own (.tail _ (.head _)) rfl)) ?_
        (refine G_litZ rfl rfl (by decide) (by simp [fillS, zeros, setLs, setL, Value.cells, List.range, List.range.loop]; rfl) (by rfl) rfl rfl (.none rfl) ?_; intro b65 E65 hE65 hs65)
        replace hs := hs.mono hE65
        refine G_callv (k := 50) (.mk rfl rfl rfl rfl) rfl rfl (.none rfl) (Put2S_call _ _ _ _ (by omega) _ _ _ (by assumption) (by assumption) (by omega)) ?_
        refine G_storeA rfl rfl rfl rfl (by simp [Value.oneCell']) rfl (.none rfl) (.head _ _ _) rfl ?_
        refine G_end (X_block (X_block (X_then (G_region ?_))))
        refine Gm ?_
        refine Gv (V_add_i64 rfl rfl rfl (by omega) (by omega)) ?_
        refine Ga ?_
        refine G_end (X_then ?_)
        rw [← hw2]
        exact G_again (i + 1, E65) ⟨hlt, hE9.trans hE65⟩ (by simp only; omega) ⟨rfl, rfl, rfl, rfl, trivial⟩ rfl rfl
      · have hw2 : bL (k, sy, pr, rc, pl, tx, er) (i + 1) = o ++ vbytes er.toNat := hw
        have hx1 : (i64s ((fieldsK k).map toR))[i]? = some (.int .i64 6) := hx
        clear hw hx
        refine G_seq (G_seq (G_region ?_))
        refine Gm ?_
        refine Gm ?_
        refine Gv (V_lenS rfl rfl) ?_
        refine Gv (V_lss rfl rfl rfl) ?_
        refine G_end (X_then ?_)
        refine G_cond_t rfl (decide_eq_true (by omega)) ?_
        refine G_skip (X_then (G_seq (G_block (G_seq (G_region ?_)))))
        refine Gm ?_
        refine Gm ?_
        refine Gv (V_idxAddr rfl rfl rfl (SlE.rd (by assumption)) (by omega) (by omega)) ?_
        refine Gv (V_loadS rfl rfl (SlE.rd (by assumption)) (by assumption) (by simp)) ?_
        refine G_end (X_then (G_block (G_seq (G_region ?_))))
        refine Gv (V_eql rfl rfl rfl) ?_
        refine Ga ?_
        refine G_end (X_then ?_)
        refine G_cond_f rfl (by kernel_rfl) ?_
        refine G_seq (G_region ?_)
        refine Gv (V_eql rfl rfl rfl) ?_
        refine Ga ?_
        refine G_end (X_then ?_)
        refine G_cond_f rfl (by kernel_rfl) ?_
        refine G_seq (G_region ?_)
        refine Gv (V_eql rfl rfl rfl) ?_
        refine Ga ?_
        refine G_end (X_then ?_)
        refine G_cond_f rfl (by kernel_rfl) ?_
        refine G_seq (G_region ?_)
        refine Gv (V_eql rfl rfl rfl) ?_
        refine Ga ?_
        refine G_end (X_then ?_)
        refine G_cond_f rfl (by kernel_rfl) ?_
        refine G_seq (G_region ?_)
        refine Gv (V_eql rfl rfl rfl) ?_
        refine Ga ?_
        refine G_end (X_then ?_)
        refine G_cond_f rfl (by kernel_rfl) ?_
        refine G_seq (G_region ?_)
        refine Gv (V_eql rfl rfl rfl) ?_
        refine Ga ?_
        refine G_end (X_then ?_)
        refine G_cond_t rfl (by kernel_rfl) ?_
        refine G_region ?_
        refine Gv (V_loadA rfl rfl (Cells.own (.head _)) rfl) ?_
        refine Gv (V_fieldAddr rfl rfl (by decide)) ?_
        refine Gv (V_load rfl rfl (Cell.own (.tail _ (.head _)) rfl)) ?_
        refine Gv (V_conv_u64 rfl rfl (by omega) (by omega)) ?_
        refine G_callv (k := 47) (.mk rfl rfl rfl rfl) rfl rfl (.none rfl) (Put2I_call _ _ _ _ _ (by omega) (by assumption) (by omega) (by omega)) ?_
        refine G_storeA rfl rfl rfl rfl (by simp [Value.oneCell']) rfl (.none rfl) (.head _ _ _) rfl ?_
        refine G_end (X_block (X_block (X_then (G_region ?_))))
        refine Gm ?_
        refine Gv (V_add_i64 rfl rfl rfl (by omega) (by omega)) ?_
        refine Ga ?_
        refine G_end (X_then ?_)
        rw [← hw2]
        exact G_again (i + 1, E9) ⟨hlt, hE9⟩ (by simp only; omega) ⟨rfl, rfl, rfl, rfl, trivial⟩ rfl rfl
      · have hw2 : bL (k, sy, pr, rc, pl, tx, er) (i + 1) = o ++ vbytes pl.toNat := hw
        have hx1 : (i64s ((fieldsK k).map toR))[i]? = some (.int .i64 2) := hx
        clear hw hx
        refine G_seq (G_seq (G_region ?_))
        refine Gm ?_
        refine Gm ?_
        refine Gv (V_lenS rfl rfl) ?_
        refine Gv (V_lss rfl rfl rfl) ?_
        refine G_end (X_then ?_)
        refine G_cond_t rfl (decide_eq_true (by omega)) ?_
        refine G_skip (X_then (G_seq (G_block (G_seq (G_region ?_)))))
        refine Gm ?_
        refine Gm ?_
        refine Gv (V_idxAddr rfl rfl rfl (SlE.rd (by assumption)) (by omega) (by omega)) ?_
        refine Gv (V_loadS rfl rfl (SlE.rd (by assumption)) (by assumption) (by simp)) ?_
        refine G_end (X_then (G_block (G_seq (G_region ?_))))
        refine Gv (V_eql rfl rfl rfl) ?_
        refine Ga ?_
        refine G_end (X_then ?_)
        refine G_cond_f rfl (by kernel_rfl) ?_
        refine G_seq (G_region ?_)
        refine Gv (V_eql rfl rfl rfl) ?_
        refine Ga ?_
        refine G_end (X_then ?_)
        refine G_cond_t rfl (by kernel_rfl) ?_
        refine G_region ?_
        refine Gv (V_loadA rfl rfl (Cells.own (.head _)) rfl) ?_
        refine Gv (V_fieldAddr rfl rfl (by decide)) ?_
        refine Gv (V_load rfl rfl (Cell.own (.tail _ (.head _)) rfl)) ?_
        refine Gv (V_conv_u64 rfl rfl (by omega) (by omega)) ?_
        refine G_callv (k := 47) (.mk rfl rfl rfl rfl) rfl rfl (.none rfl) (Put2I_call _ _ _ _ _ (by omega) (by assumption) (by omega) (by omega)) ?_
        refine G_storeA rfl rfl rfl rfl (by simp [Value.oneCell']) rfl (.none rfl) (.head _ _ _) rfl ?_
        refine G_end (X_block (X_block (X_then (G_region ?_))))
        refine Gm ?_
        refine Gv (V_add_i64 rfl rfl rfl (by omega) (by omega)) ?_
        refine Ga ?_
        refine G_end (X_then ?_)
        rw [← hw2]
        exact G_again (i + 1, E9) ⟨hlt, hE9⟩ (by simp only; omega) ⟨rfl, rfl, rfl, rfl, trivial⟩ rfl rfl
    · obtain rfl : i = (fieldsK k).length := by omega
      have hall := bL_all (k, sy, pr, rc, pl, tx, er) (i := (fieldsK k).length) (Nat.le_refl _)
      rw [← hall]
      generalize bL (k, sy, pr, rc, pl, tx, er) (fieldsK k).length = o at *
      refine G_seq (G_seq (G_region ?_))
      refine Gm ?_
      refine Gm ?_
      refine Gv (V_lenS rfl rfl) ?_
      refine Gv (V_lss rfl rfl rfl) ?_
      refine G_end (X_then ?_)
      refine G_cond_f rfl (decide_eq_false (by omega)) ?_
      refine G_exit (X_then_exit (X_then_exit (X_block_hit (X_then (G_seq (G_region ?_))))))
      refine Gv (V_loadA rfl rfl (Cells.own (.head _)) rfl) ?_
      refine G_callv (k := 51) (.mk rfl rfl rfl rfl) rfl rfl (.none rfl) (Done2I_call _ _ _ _ (by omega) (by omega)) ?_
      refine Gv (V_extract rfl rfl rfl) ?_
      refine Gv (V_extract rfl rfl rfl) ?_
      refine Ga ?_
      refine Ga ?_
      refine G_end (X_then (G_ret ?_))
      refine G_leaveS (.drop _ (.drop _ (.nil _))) (by exact (.cons (.tmp rfl) (.cons (.tmp rfl) (.nil)))) rfl ?_ ?_
      · exact ((hE1.trans hE5).trans hE9)
      exact ⟨rfl, rfl⟩
  · rw [if_neg hc]
    refine Ga ?_
    refine G_end (X_then (G_seq (G_seq (G_region ?_))))
    refine Gm ?_
    refine Gv (V_neq rfl rfl rfl) ?_
    refine G_end (X_then ?_)
    refine G_cond_t rfl (decide_eq_true (by omega)) ?_
    refine G_seq (G_region ?_)
    refine Gm ?_
    refine Ga ?_
    refine Ga ?_
    refine G_end (X_then (G_ret (X_then_ret ?_)))
    refine G_leaveS (.drop _ (.nil _)) (by exact (.cons (.tmp rfl) (.cons (.tmp rfl) (.nil)))) rfl ?_ ?_
    · exact hE1
    exact ⟨rfl, rfl⟩
end
end Go.Proofs.YtjhehanknkonnaaGreatDoor
set_option linter.unusedSimpArgs false
set_option linter.unusedVariables false
set_option maxHeartbeats 2000000
set_option maxRecDepth 20000
namespace Go.Proofs.YtjhehanknkonnaaGreatDoor
open Go.RowKit
/-! Reading events from bytes: the plain model. -/
/-- One field is read. -/
def rdF (q : Rdr) (e : Ev) (f : Int) : Rdr × Ev :=
  if f = 0 then ((aNum q 0 1099511627776).1, (e.k, e.sy, e.pr, (aNum q 0 1099511627776).2, e.pl, e.tx, e.er))
  else if f = 1 then ((aNum q 0 24).1, (e.k, (aNum q 0 24).2 - 1, e.pr, e.rc, e.pl, e.tx, e.er))
  else if f = 2 then ((aNum q 0 23).1, (e.k, e.sy, (aNum q 0 23).2, e.rc, e.pl, e.tx, e.er))
  else if f = 3 then ((aStr q 24).1, (e.k, e.sy, e.pr, e.rc, e.pl, (aStr q 24).2, e.er))
  else if f = 4 then ((aNum q 0 31).1, (e.k, e.sy, e.pr, e.rc, e.pl, e.tx, (aNum q 0 31).2))
  else ((aNum q 0 1099511627776).1, (e.k, e.sy, e.pr, e.rc, (aNum q 0 1099511627776).2, e.tx, e.er))
/-- Fields are read, one after the other. -/
def rdL : Rdr → Ev → List Int → Rdr × Ev
  | q, e, [] => (q, e)
  | q, e, f :: l => rdL (rdF q e f).1 (rdF q e f).2 l
/-- The reader behind the kind, the kind. -/
def rd0 (s : List UInt8) (a : Int) : Rdr × Int := if s.length ≤ 20000 then aNum ⟨s, a, 0, 0⟩ 1 7 else (⟨[], 0, 10, 0⟩, 0)
/-- What all reading comes to. -/
def rdE (s : List UInt8) (a : Int) : Rdr × Ev := rdL (rd0 s a).1 ((rd0 s a).2, 0, 0, 0, 0, [], 0) (fieldsK (rd0 s a).2)
def ev0 : Ev := (0, 0, 0, 0, 0, [], 0)
def readF (s : List UInt8) (a : Int) : Ev × Int × Int × Int :=
  if (rdE s a).1.e ≠ 0 then (ev0, 0, (rdE s a).1.e, (rdE s a).1.fa) else if chkE (rdE s a).2 ≠ 0 then (ev0, 0, chkE (rdE s a).2, a) else ((rdE s a).2, (rdE s a).1.at', 0, 0)
def readM (s : List UInt8) (a : Int) : Ev × Int × Int × Int := if a < 0 ∨ (s.length : Int) < a then (ev0, 0, 2, 0) else readF s a
/-! What readers are. -/
theorem rfield_ok {α : Type} {q : Rdr} {f : Rdr × α} {z : α} (h : q.ok) (hf : q.e = 0 → f.1.s = q.s ∧ ((f.1.e = 0 ∧ f.1.fa = 0 ∧ 0 ≤ f.1.at' ∧ f.1.at' ≤ q.s.length) ∨ (1 ≤ f.1.e ∧ f.1.e ≤ 31 ∧ 0 ≤ f.1.fa ∧ f.1.fa ≤ q.s.length))) : (rfield q f z).1.ok := by
  unfold rfield
  split
  · rename_i h0
    obtain ⟨h1, h2⟩ := hf h0
    obtain ⟨k1, k2, k3, k4⟩ := h
    unfold rback
    simp only
    rcases h2 with ⟨e0, e1, e2, e3⟩ | ⟨e0, e1, e2, e3⟩
    · rw [if_pos e0]
      exact ⟨by rw [h1]; exact k1, e2, by rw [h1]; exact e3, .inl ⟨e0, e1⟩⟩
    · rw [if_neg (by omega)]
      exact ⟨by rw [h1]; exact k1, k2, by rw [h1]; exact k3, .inr ⟨e0, e1, e2, by rw [h1]; exact e3⟩⟩
  · exact h
theorem rdr_ok0 {q : Rdr} (h : q.ok) (h0 : q.e = 0) : q.fa = 0 := by
  rcases h.2.2.2 with h1 | h1
  · exact h1.2
  · omega
theorem aNum_ok (q : Rdr) (l m : Int) : (aNum q l m).1.ok := by
  unfold aNum
  have hok := rbegin_ok q
  generalize rbegin q = q at *
  refine rfield_ok hok fun h0 => ?_
  have hfa := rdr_ok0 hok h0
  obtain ⟨p1, p2⟩ := rwide_props q h0 hfa hok.2.1 hok.2.2.1
  have hs := rwide_s q
  have h2 := hok.2.1
  have h3 := hok.2.2.1
  unfold rnum
  split
  · exact ⟨rfl, .inr ⟨by show (1 : Int) ≤ 2; decide, by show (2 : Int) ≤ 31; decide, h2, h3⟩⟩
  · split
    · exact ⟨hs, .inr ⟨by show (1 : Int) ≤ 2; decide, by show (2 : Int) ≤ 31; decide, h2, h3⟩⟩
    · refine ⟨hs, ?_⟩
      dsimp only
      by_cases he : (rwide q).1.e = 0
      · have := p1 he
        exact .inl ⟨he, by omega⟩
      · have := p2 he
        exact .inr (by omega)
theorem aNum_in (q : Rdr) (l m : Int) : ((aNum q l m).1.e = 0 → l ≤ (aNum q l m).2 ∧ (aNum q l m).2 ≤ m) ∧ ((aNum q l m).1.e ≠ 0 → (aNum q l m).2 = 0) := by
  unfold aNum rfield
  generalize rbegin q = q at *
  split
  · rename_i h0
    unfold rnum
    simp only [rback_e]
    split
    · exact ⟨fun h => absurd h (by show ¬ (2 : Int) = 0; decide), fun _ => rfl⟩
    · split
      · exact ⟨fun h => absurd h (by show ¬ (2 : Int) = 0; decide), fun _ => rfl⟩
      · rename_i hn
        constructor
        · intro he
          rw [if_pos he]
          have hn2 : ¬ (((rwide q).2 : Int) < l ∨ m < ((rwide q).2 : Int)) := fun hx => hn ⟨he, hx⟩
          dsimp only
          omega
        · intro he
          rw [if_neg he]
  · rename_i h0
    exact ⟨fun h => absurd h h0, fun _ => rfl⟩
theorem aNum_le {q : Rdr} {m : Int} (h : 0 ≤ m) : 0 ≤ (aNum q 0 m).2 ∧ (aNum q 0 m).2 ≤ m := by
  obtain ⟨h1, h2⟩ := aNum_in q 0 m
  by_cases he : (aNum q 0 m).1.e = 0
  · exact h1 he
  · rw [h2 he]; exact ⟨Int.le_refl _, h⟩
theorem aNum_stop {q : Rdr} (hok : q.ok) (he : q.e ≠ 0) (l m : Int) : aNum q l m = (q, 0) := by
  unfold aNum rfield
  rw [show rbegin q = q from if_pos hok, if_neg he]
theorem aStr_ok (q : Rdr) (m : Int) : (aStr q m).1.ok := by
  unfold aStr
  have hok := rbegin_ok q
  generalize rbegin q = q at *
  refine rfield_ok hok fun h0 => ?_
  have hfa := rdr_ok0 hok h0
  obtain ⟨p1, p2⟩ := rwide_props q h0 hfa hok.2.1 hok.2.2.1
  have hs := rwide_s q
  have h2 := hok.2.1
  have h3 := hok.2.2.1
  unfold rstr
  split
  · exact ⟨rfl, .inr ⟨by show (1 : Int) ≤ 2; decide, by show (2 : Int) ≤ 31; decide, h2, h3⟩⟩
  · split
    · rename_i he
      have := p2 he
      exact ⟨hs, .inr (by dsimp only; omega)⟩
    · rename_i he
      have he0 : (rwide q).1.e = 0 := by omega
      have p3 := p1 he0
      split
      · exact ⟨hs, .inr ⟨by show (1 : Int) ≤ 4; decide, by show (4 : Int) ≤ 31; decide, h2, h3⟩⟩
      · split
        · exact ⟨hs, .inr ⟨by show (1 : Int) ≤ 5; decide, by show (5 : Int) ≤ 31; decide, by show 0 ≤ (rwide q).1.at'; omega, by show (rwide q).1.at' ≤ _; omega⟩⟩
        · unfold rtake
          split
          · exact ⟨hs, .inr ⟨by show (1 : Int) ≤ 5; decide, by show (5 : Int) ≤ 31; decide, by show 0 ≤ (rwide q).1.at'; omega, by show (rwide q).1.at' ≤ _; omega⟩⟩
          · rename_i hlt
            rw [hs] at hlt
            exact ⟨hs, .inl ⟨he0, p3.2.2.1, by show 0 ≤ (rwide q).1.at' + _; omega, by show (rwide q).1.at' + _ ≤ _; omega⟩⟩
theorem rd0_ok (s : List UInt8) (a : Int) : (rd0 s a).1.ok := by
  unfold rd0
  split
  · exact aNum_ok _ _ _
  · exact ⟨by simp, by decide, by simp, .inr ⟨by decide, by decide, by decide, by simp⟩⟩
theorem rdL_drop {k : Int} {i : Nat} {f : Int} (h : (fieldsK k)[i]? = some f) (q : Rdr) (e : Ev) : rdL q e ((fieldsK k).drop i) = rdL (rdF q e f).1 (rdF q e f).2 ((fieldsK k).drop (i + 1)) := by
  rw [List.drop_eq_getElem_cons (List.getElem?_eq_some_iff.1 h).1, (List.getElem?_eq_some_iff.1 h).2]
  rfl
end Go.Proofs.YtjhehanknkonnaaGreatDoor
set_option linter.unusedSimpArgs false
set_option linter.unusedVariables false
set_option maxHeartbeats 2000000
set_option maxRecDepth 20000
namespace Go.Proofs.YtjhehanknkonnaaGreatDoor
open Go.RowKit
/-! event.Read and event.Parse. -/
section
variable (E : Env) (L : List Res)
theorem NumberQ_call (q : Rdr) (hok : q.ok) (least most : Int) (hm : most ≤ 9223372036854775807) : CallV Tryz.prog 63 #[q.v, .int .i64 least, .int .i64 most] E L (.tuple #[(aNum q least most).1.v, .int .i64 (aNum q least most).2]) := by
  obtain ⟨s, a, e, f⟩ := q
  exact Number_call' E L s (by have := hok.1; simp only at this; omega) a e f least most hm
theorem StringQ_call (q : Rdr) (hok : q.ok) (most : Int) (hm : most ≤ 9223372036854775807) : CallV Tryz.prog 64 #[q.v, .int .i64 most] E L (.tuple #[(aStr q most).1.v, .string (S (aStr q most).2)]) := by
  obtain ⟨s, a, e, f⟩ := q
  exact String_call' E L s (by have := hok.1; simp only at this; omega) a e f most hm
theorem ReadB_call (s : List UInt8) (hs : s.length ≤ 1000000000000) (h : 20000 < s.length) : CallV Tryz.prog 62 #[.string (S s)] E L (.agg #[.string (S []), .int .i64 0, .int .i64 10, .int .i64 0]) := by
  have := Read_codec_call E L s hs
  rw [show rbegin ⟨s, 0, 0, 0⟩ = ⟨[], 0, 10, 0⟩ from if_neg (fun h1 => by have := h1.1; simp only at this; omega)] at this
  exact this
abbrev rdB (b : Nat) (q : Rdr) : Res := .blk b (.cells #[.string (S q.s), .int .i64 q.at', .int .i64 q.e, .int .i64 q.fa] 88 (0, 0))
abbrev evB (b : Nat) (e : Ev) : Res := .blk b (.cells #[.int .i64 e.k, .int .i64 e.sy, .int .i64 e.pr, .int .i64 e.rc, .int .i64 e.pl, .string (S e.tx), .int .i64 e.er] 28 (0, 0))
abbrev readV (x : Ev × Int × Int × Int) : Value := .tuple #[evV x.1, .int .i64 x.2.1, .agg #[.int .i64 x.2.2.1, .int .i64 x.2.2.2]]
theorem EvRead_call (s : List UInt8) (hs : s.length ≤ 1000000000000) (a : Int) : CallS Tryz.prog 23 #[.string (S s), .int .i64 a] E L (fun r E' L' => r = readV (readM s a) ∧ L' = L) := by
  unfold readM
  refine CallS.intro (l := [_, _]) _ Tryz.func23 rfl Tryz.ntmps23 rfl ?_
  by_cases h0 : a < 0
  · rw [if_pos (.inl h0)]
    refine G_seq (G_region ?_)
    (refine G_alloc rfl rfl rfl (.none rfl) ?_; intro b4)
    refine Ga ?_
    (refine G_alloc rfl rfl rfl (.none rfl) ?_; intro b6)
    refine G_end (X_then (G_seq (G_seq (G_region ?_))))
    refine Gm ?_
    refine Gv (V_lss rfl rfl rfl) ?_
    refine Gm ?_
    refine G.bool_t 14 rfl (decide_eq_true (by omega)) ?_
    refine Gn ?_
    refine Gn ?_
    refine Gn ?_
    refine Gn ?_
    refine Gv (V_pick_t rfl rfl rfl) ?_
    refine G_end (X_then ?_)
    refine G_cond_t rfl rfl ?_
    refine G_seq (G_region ?_)
    refine Gv (V_build rfl rfl (by simp [fillV, setLs, setL, Value.cells]; rfl)) ?_
    refine Gv (V_build rfl rfl (by simp [fillV, setLs, setL, Value.cells]; rfl)) ?_
    refine G_storeA rfl rfl rfl rfl (by simp [Value.oneCell']) rfl (.none rfl) (.tail _ (.head _ _ _)) rfl ?_
    refine Ga ?_
    refine G_storeA rfl rfl rfl rfl (by simp [Value.oneCell']) rfl (.none rfl) (.head _ _ _) rfl ?_
    refine G_end (X_then (G_ret (X_then_ret ?_)))
    refine G_leaveS (.drop _ (.drop _ (.nil _))) (by exact (.cons (.cellA rfl (Cells.own (.tail _ (.head _))) rfl) (.cons (.tmp rfl) (.cons (.cellA rfl (Cells.own (.head _)) rfl) (.nil))))) rfl ?_ ?_
    · exact (.refl _)
    exact ⟨(by kernel_rfl), rfl⟩
  by_cases h1 : (s.length : Int) < a
  · rw [if_pos (.inr h1)]
    refine G_seq (G_region ?_)
    (refine G_alloc rfl rfl rfl (.none rfl) ?_; intro b4)
    refine Ga ?_
    (refine G_alloc rfl rfl rfl (.none rfl) ?_; intro b6)
    refine G_end (X_then (G_seq (G_seq (G_region ?_))))
    refine Gm ?_
    refine Gv (V_lss rfl rfl rfl) ?_
    refine Gm ?_
    refine G.bool_f 14 rfl (decide_eq_false (by omega)) ?_
    refine Gy (V_move rfl rfl) ?_
    refine Gy (V_move rfl rfl) ?_
    refine Gy (V_len rfl rfl) ?_
    refine Gy (V_gtr rfl rfl rfl) ?_
    refine Gv (V_pick_f rfl rfl rfl) ?_
    refine G_end (X_then ?_)
    refine G_cond_t rfl (decide_eq_true (by omega)) ?_
    refine G_seq (G_region ?_)
    refine Gv (V_build rfl rfl (by simp [fillV, setLs, setL, Value.cells]; rfl)) ?_
    refine Gv (V_build rfl rfl (by simp [fillV, setLs, setL, Value.cells]; rfl)) ?_
    refine G_storeA rfl rfl rfl rfl (by simp [Value.oneCell']) rfl (.none rfl) (.tail _ (.head _ _ _)) rfl ?_
    refine Ga ?_
    refine G_storeA rfl rfl rfl rfl (by simp [Value.oneCell']) rfl (.none rfl) (.head _ _ _) rfl ?_
    refine G_end (X_then (G_ret (X_then_ret ?_)))
    refine G_leaveS (.drop _ (.drop _ (.nil _))) (by exact (.cons (.cellA rfl (Cells.own (.tail _ (.head _))) rfl) (.cons (.tmp rfl) (.cons (.cellA rfl (Cells.own (.head _)) rfl) (.nil))))) rfl ?_ ?_
    · exact (.refl _)
    exact ⟨(by kernel_rfl), rfl⟩
  rw [if_neg (by omega)]
  by_cases h2 : s.length ≤ 20000
  · have hrd : rd0 s a = aNum ⟨s, a, 0, 0⟩ 1 7 := if_pos h2
    have hn0 := fun E0 L0 => NumberQ_call E0 L0 ⟨s, a, 0, 0⟩ ⟨h2, by show 0 ≤ a; omega, by show a ≤ (s.length : Int); omega, .inl ⟨rfl, rfl⟩⟩ 1 7 (by decide)
    rw [← hrd] at hn0
    have hok0 := rd0_ok s a
    have hE0 : rdE s a = rdL (rd0 s a).1 ((rd0 s a).2, 0, 0, 0, 0, [], 0) (fieldsK (rd0 s a).2) := rfl
    unfold readF
    generalize rdE s a = X at *
    generalize rd0 s a = q0 at *
    obtain ⟨q0, k0⟩ := q0
    simp only at hn0 hok0 hE0
    clear hrd
    refine G_seq (G_region ?_)
    (refine G_alloc rfl rfl rfl (.none rfl) ?_; intro b4)
    refine Ga ?_
    (refine G_alloc rfl rfl rfl (.none rfl) ?_; intro b6)
    refine G_end (X_then (G_seq (G_seq (G_region ?_))))
    refine Gm ?_
    refine Gv (V_lss rfl rfl rfl) ?_
    refine Gm ?_
    refine G.bool_f 14 rfl (decide_eq_false (by omega)) ?_
    refine Gy (V_move rfl rfl) ?_
    refine Gy (V_move rfl rfl) ?_
    refine Gy (V_len rfl rfl) ?_
    refine Gy (V_gtr rfl rfl rfl) ?_
    refine Gv (V_pick_f rfl rfl rfl) ?_
    refine G_end (X_then ?_)
    refine G_cond_f rfl (decide_eq_false (by omega)) ?_
    refine G_skip (X_then (G_seq (G_region ?_)))
    refine Gm ?_
    refine G_callv (k := 62) (.mk rfl rfl rfl rfl) rfl rfl (.none rfl) (Read_codec_call' _ _ s h2) ?_
    (refine G_alloc rfl rfl rfl (.none rfl) ?_; intro b7)
    refine G_storeA rfl rfl rfl rfl (by simp [Value.oneCell']) rfl (.none rfl) (.head _ _ _) rfl ?_
    refine G_end (X_then (G_seq (G_seq (G_region ?_))))
    refine Gv (V_fieldAddr rfl rfl (by decide)) ?_
    refine Gv (V_fieldAddr rfl rfl (by decide)) ?_
    refine Gv (V_load rfl rfl (Cell.own (.head _) rfl)) ?_
    refine Gv (V_eql rfl rfl rfl) ?_
    refine G_end (X_then ?_)
    refine G_cond_t rfl (by kernel_rfl) ?_
    refine G_region ?_
    refine Gm ?_
    refine Gv (V_fieldAddr rfl rfl (by decide)) ?_
    refine G_storeAt rfl rfl rfl rfl rfl rfl (.none rfl) (.head _ _ _) (Nat.le_of_ble_eq_true rfl) (by simp only [putAll, Nat.zero_add, Nat.reduceAdd, List.setIfInBounds_toArray, List.set_cons_succ, List.set_cons_zero]; rfl) ?_
    refine G_end (X_then (G_seq (G_region ?_)))
    refine Ga ?_
    refine G_end (X_then (G_seq (G_region ?_)))
    refine Gv (V_loadA rfl rfl (Cells.own (.head _)) rfl) ?_
    refine G_callv (k := 63) (.mk rfl rfl rfl rfl) rfl rfl (.none rfl) (hn0 _ _) ?_
    refine Gm ?_
    refine Gv (V_extract rfl rfl rfl) ?_
    refine Gv (V_extract rfl rfl rfl) ?_
    refine G_storeA rfl rfl rfl rfl (by simp [Value.oneCell']) rfl (.none rfl) (.head _ _ _) rfl ?_
    refine Gv (V_fieldAddr rfl rfl (by decide)) ?_
    refine G_storeAt rfl rfl rfl rfl rfl rfl (.none rfl) (.tail _ (.tail _ (.head _ _ _))) (Nat.le_of_ble_eq_true rfl) (by simp only [putAll, Nat.zero_add, Nat.reduceAdd, List.setIfInBounds_toArray, List.set_cons_succ, List.set_cons_zero]; rfl) ?_
    refine G_end (X_then (G_seq (G_seq (G_region ?_))))
    refine Gv (V_fieldAddr rfl rfl (by decide)) ?_
    refine Gv (V_load rfl rfl (Cell.own (.tail _ (.tail _ (.head _))) rfl)) ?_
    refine G_call (k := 34) (.mk rfl rfl rfl rfl) rfl rfl (.none rfl) (fields_call' _ _ k0) ?_
    rintro x3 E3 L3 hE3 ⟨⟨⟨fa, fc, rfl, hs, hnil, hfc⟩⟩, rfl⟩
    have hfl := fieldsK_len k0
    refine Gv (V_lenS rfl rfl) ?_
    refine Gm ?_
    refine G_end (X_then (G_block ?_))
    refine G_loop (α := Nat × Rdr × Ev) (fun x => [(1, .int .i64 a), (4, .pointer (some ⟨b4, 0, none⟩)), (6, .pointer (some ⟨b6, 0, none⟩)), (7, .pointer (some ⟨b7, 0, none⟩)), (38, .slice fa (fieldsK k0).length fc), (39, .int .i64 (fieldsK k0).length), (40, .int .i64 (x.1 : Nat))]) (fun _ => E3)
      (fun x => rdB b7 x.2.1 :: .blk b6 (.cells #[.int .i64 0, .int .i64 0] 36 (0, 0)) :: evB b4 x.2.2 :: L) (fun x => x.1 ≤ (fieldsK k0).length ∧ x.2.1.ok ∧ X = rdL x.2.1 x.2.2 ((fieldsK k0).drop x.1)) (fun x => (fieldsK k0).length - x.1) (0, q0, (k0, 0, 0, 0, 0, [], 0)) ⟨Nat.zero_le _, hok0, hE0⟩ ⟨rfl, rfl, rfl, rfl, rfl, rfl, rfl, trivial⟩ rfl rfl ?_
    rintro ⟨i, q, e⟩ ⟨hi, hok, hX⟩
    simp only at hi hok hX ⊢
    clear hn0 hE0
    obtain ⟨k, sy, pr, rc, pl, tx, er⟩ := e
    by_cases hlt : i < (fieldsK k0).length
    · obtain ⟨f, hf, hfv⟩ := fieldsK_get hlt
      have hx := i64s_get hf
      rw [rdL_drop hf] at hX
      rcases hfv with rfl | rfl | rfl | rfl | rfl | rfl
      · have hX2 : X = rdL (aNum q 0 1099511627776).1 (k, sy, pr, (aNum q 0 1099511627776).2, pl, tx, er) ((fieldsK k0).drop (i + 1)) := hX
        have hc := fun L0 => NumberQ_call E3 L0 q hok 0 1099511627776 (by decide)
        have hok2 := aNum_ok q 0 1099511627776
        have hle := aNum_le (q := q) (m := 1099511627776) (by decide)
        clear hX hok
        generalize aNum q 0 1099511627776 = y at *
        obtain ⟨q2, n⟩ := y
        simp only at hX2 hc hok2 hle
        refine G_seq (G_region ?_)
        refine Gv (V_lss rfl rfl rfl) ?_
        refine G_end (X_then (G_seq ?_))
        refine G_cond_t rfl (decide_eq_true (by omega)) ?_
        refine G_skip (X_then (G_seq (G_block (G_seq (G_region ?_)))))
        refine Gv (V_idxAddr rfl rfl rfl (SlE.rd (by assumption)) (by omega) (by omega)) ?_
        refine Gv (V_loadS rfl rfl (SlE.rd (by assumption)) (by assumption) (by simp)) ?_
        refine Ga ?_
        refine G_end (X_then (G_seq (G_region ?_)))
        refine Gm ?_
        refine G_end (X_then (G_block (G_seq (G_region ?_))))
        refine Gv (V_eql rfl rfl rfl) ?_
        refine Ga ?_
        refine G_end (X_then ?_)
        refine G_cond_t rfl (by kernel_rfl) ?_
        refine G_region ?_
        refine Gv (V_loadA rfl rfl (Cells.own (.head _)) rfl) ?_
        refine G_callv (k := 63) (.mk rfl rfl rfl rfl) rfl rfl (.none rfl) (hc _) ?_
        refine Gm ?_
        refine Gv (V_extract rfl rfl rfl) ?_
        refine Gv (V_extract rfl rfl rfl) ?_
        refine G_storeA rfl rfl rfl rfl (by simp [Value.oneCell']) rfl (.none rfl) (.head _ _ _) rfl ?_
        refine Gv (V_fieldAddr rfl rfl (by decide)) ?_
        refine G_storeAt rfl rfl rfl rfl rfl rfl (.none rfl) (.tail _ (.tail _ (.head _ _ _))) (Nat.le_of_ble_eq_true rfl) (by simp only [putAll, Nat.zero_add, Nat.reduceAdd, List.setIfInBounds_toArray, List.set_cons_succ, List.set_cons_zero]; rfl) ?_
        refine G_end (X_block (X_block (X_then (G_region ?_))))
        refine Gv (V_add_i64 rfl rfl rfl (by omega) (by omega)) ?_
        refine Gm ?_
        refine G_end (X_then ?_)
        exact G_again (i + 1, q2, (k, sy, pr, n, pl, tx, er)) ⟨hlt, hok2, hX2⟩ (by simp only; omega) ⟨rfl, rfl, rfl, rfl, rfl, rfl, rfl, trivial⟩ rfl rfl
      · have hX2 : X = rdL (aNum q 0 24).1 (k, (aNum q 0 24).2 - 1, pr, rc, pl, tx, er) ((fieldsK k0).drop (i + 1)) := hX
        have hc := fun L0 => NumberQ_call E3 L0 q hok 0 24 (by decide)
        have hok2 := aNum_ok q 0 24
        have hle := aNum_le (q := q) (m := 24) (by decide)
        clear hX hok
        generalize aNum q 0 24 = y at *
        obtain ⟨q2, n⟩ := y
        simp only at hX2 hc hok2 hle
        refine G_seq (G_region ?_)
        refine Gv (V_lss rfl rfl rfl) ?_
        refine G_end (X_then (G_seq ?_))
        refine G_cond_t rfl (decide_eq_true (by omega)) ?_
        refine G_skip (X_then (G_seq (G_block (G_seq (G_region ?_)))))
        refine Gv (V_idxAddr rfl rfl rfl (SlE.rd (by assumption)) (by omega) (by omega)) ?_
        refine Gv (V_loadS rfl rfl (SlE.rd (by assumption)) (by assumption) (by simp)) ?_
        refine Ga ?_
        refine G_end (X_then (G_seq (G_region ?_)))
        refine Gm ?_
        refine G_end (X_then (G_block (G_seq (G_region ?_))))
        refine Gv (V_eql rfl rfl rfl) ?_
        refine Ga ?_
        refine G_end (X_then ?_)
        refine G_cond_f rfl (by kernel_rfl) ?_
        refine G_seq (G_region ?_)
        refine Gv (V_eql rfl rfl rfl) ?_
        refine Ga ?_
        refine G_end (X_then ?_)
        refine G_cond_t rfl (by kernel_rfl) ?_
        refine G_seq (G_region ?_)
        refine Gv (V_loadA rfl rfl (Cells.own (.head _)) rfl) ?_
        refine G_callv (k := 63) (.mk rfl rfl rfl rfl) rfl rfl (.none rfl) (hc _) ?_
        refine Gm ?_
        refine Gv (V_extract rfl rfl rfl) ?_
        refine Gv (V_extract rfl rfl rfl) ?_
        refine G_storeA rfl rfl rfl rfl (by simp [Value.oneCell']) rfl (.none rfl) (.head _ _ _) rfl ?_
        refine Ga ?_
        refine G_end (X_then (G_region ?_))
        refine Gm ?_
        refine Gv (V_sub_i64 rfl rfl rfl (by omega) (by omega)) ?_
        refine Gv (V_fieldAddr rfl rfl (by decide)) ?_
        refine G_storeAt rfl rfl rfl rfl rfl rfl (.none rfl) (.tail _ (.tail _ (.head _ _ _))) (Nat.le_of_ble_eq_true rfl) (by simp only [putAll, Nat.zero_add, Nat.reduceAdd, List.setIfInBounds_toArray, List.set_cons_succ, List.set_cons_zero]; rfl) ?_
        refine G_end (X_block (X_block (X_then (G_region ?_))))
        refine Gv (V_add_i64 rfl rfl rfl (by omega) (by omega)) ?_
        refine Gm ?_
        refine G_end (X_then ?_)
        exact G_again (i + 1, q2, (k, n - 1, pr, rc, pl, tx, er)) ⟨hlt, hok2, hX2⟩ (by simp only; omega) ⟨rfl, rfl, rfl, rfl, rfl, rfl, rfl, trivial⟩ rfl rfl
      · have hX2 : X = rdL (aNum q 0 23).1 (k, sy, (aNum q 0 23).2, rc, pl, tx, er) ((fieldsK k0).drop (i + 1)) := hX
        have hc := fun L0 => NumberQ_call E3 L0 q hok 0 23 (by decide)
        have hok2 := aNum_ok q 0 23
        have hle := aNum_le (q := q) (m := 23) (by decide)
        clear hX hok
        generalize aNum q 0 23 = y at *
        obtain ⟨q2, n⟩ := y
        simp only at hX2 hc hok2 hle
        refine G_seq (G_region ?_)
        refine Gv (V_lss rfl rfl rfl) ?_
        refine G_end (X_then (G_seq ?_))
        refine G_cond_t rfl (decide_eq_true (by omega)) ?_
        refine G_skip (X_then (G_seq (G_block (G_seq (G_region ?_)))))
        refine Gv (V_idxAddr rfl rfl rfl (SlE.rd (by assumption)) (by omega) (by omega)) ?_
        refine Gv (V_loadS rfl rfl (SlE.rd (by assumption)) (by assumption) (by simp)) ?_
        refine Ga ?_
        refine G_end (X_then (G_seq (G_region ?_)))
        refine Gm ?_
        refine G_end (X_then (G_block (G_seq (G_region ?_))))
        refine Gv (V_eql rfl rfl rfl) ?_
        refine Ga ?_
        refine G_end (X_then ?_)
        refine G_cond_f rfl (by kernel_rfl) ?_
        refine G_seq (G_region ?_)
        refine Gv (V_eql rfl rfl rfl) ?_
        refine Ga ?_
        refine G_end (X_then ?_)
        refine G_cond_f rfl (by kernel_rfl) ?_
        refine G_seq (G_region ?_)
        refine Gv (V_eql rfl rfl rfl) ?_
        refine Ga ?_
        refine G_end (X_then ?_)
        refine G_cond_t rfl (by kernel_rfl) ?_
        refine G_region ?_
        refine Gv (V_loadA rfl rfl (Cells.own (.head _)) rfl) ?_
        refine G_callv (k := 63) (.mk rfl rfl rfl rfl) rfl rfl (.none rfl) (hc _) ?_
        refine Gm ?_
        refine Gv (V_extract rfl rfl rfl) ?_
        refine Gv (V_extract rfl rfl rfl) ?_
        refine G_storeA rfl rfl rfl rfl (by simp [Value.oneCell']) rfl (.none rfl) (.head _ _ _) rfl ?_
        refine Gv (V_fieldAddr rfl rfl (by decide)) ?_
        refine G_storeAt rfl rfl rfl rfl rfl rfl (.none rfl) (.tail _ (.tail _ (.head _ _ _))) (Nat.le_of_ble_eq_true rfl) (by simp only [putAll, Nat.zero_add, Nat.reduceAdd, List.setIfInBounds_toArray, List.set_cons_succ, List.set_cons_zero]; rfl) ?_
        refine G_end (X_block (X_block (X_then (G_region ?_))))
        refine Gv (V_add_i64 rfl rfl rfl (by omega) (by omega)) ?_
        refine Gm ?_
        refine G_end (X_then ?_)
        exact G_again (i + 1, q2, (k, sy, n, rc, pl, tx, er)) ⟨hlt, hok2, hX2⟩ (by simp only; omega) ⟨rfl, rfl, rfl, rfl, rfl, rfl, rfl, trivial⟩ rfl rfl
      · have hX2 : X = rdL (aStr q 24).1 (k, sy, pr, rc, pl, (aStr q 24).2, er) ((fieldsK k0).drop (i + 1)) := hX
        have hc := fun L0 => StringQ_call E3 L0 q hok 24 (by decide)
        have hok2 := aStr_ok q 24
        clear hX hok
        generalize aStr q 24 = y at *
        obtain ⟨q2, n⟩ := y
        simp only at hX2 hc hok2
        refine G_seq (G_region ?_)
        refine Gv (V_lss rfl rfl rfl) ?_
        refine G_end (X_then (G_seq ?_))
        refine G_cond_t rfl (decide_eq_true (by omega)) ?_
        refine G_skip (X_then (G_seq (G_block (G_seq (G_region ?_)))))
        refine Gv (V_idxAddr rfl rfl rfl (SlE.rd (by assumption)) (by omega) (by omega)) ?_
        refine Gv (V_loadS rfl rfl (SlE.rd (by assumption)) (by assumption) (by simp)) ?_
        refine Ga ?_
        refine G_end (X_then (G_seq (G_region ?_)))
        refine Gm ?_
        refine G_end (X_then (G_block (G_seq (G_region ?_))))
        refine Gv (V_eql rfl rfl rfl) ?_
        refine Ga ?_
        refine G_end (X_then ?_)
        refine G_cond_f rfl (by kernel_rfl) ?_
        refine G_seq (G_region ?_)
        refine Gv (V_eql rfl rfl rfl) ?_
        refine Ga ?_
        refine G_end (X_then ?_)
        refine G_cond_f rfl (by kernel_rfl) ?_
        refine G_seq (G_region ?_)
        refine Gv (V_eql rfl rfl rfl) ?_
        refine Ga ?_
        refine G_end (X_then ?_)
        refine G_cond_f rfl (by kernel_rfl) ?_
        refine G_seq (G_region ?_)
        refine Gv (V_eql rfl rfl rfl) ?_
        refine Ga ?_
        refine G_end (X_then ?_)
        refine G_cond_t rfl (by kernel_rfl) ?_
        refine G_region ?_
        refine Gv (V_loadA rfl rfl (Cells.own (.head _)) rfl) ?_
        refine G_callv (k := 64) (.mk rfl rfl rfl rfl) rfl rfl (.none rfl) (hc _) ?_
        refine Gm ?_
        refine Gv (V_extract rfl rfl rfl) ?_
        refine Gv (V_extract rfl rfl rfl) ?_
        refine G_storeA rfl rfl rfl rfl (by simp [Value.oneCell']) rfl (.none rfl) (.head _ _ _) rfl ?_
        refine Gv (V_fieldAddr rfl rfl (by decide)) ?_
        refine G_storeAt rfl rfl rfl rfl rfl rfl (.none rfl) (.tail _ (.tail _ (.head _ _ _))) (Nat.le_of_ble_eq_true rfl) (by simp only [putAll, Nat.zero_add, Nat.reduceAdd, List.setIfInBounds_toArray, List.set_cons_succ, List.set_cons_zero]; rfl) ?_
        refine G_end (X_block (X_block (X_then (G_region ?_))))
        refine Gv (V_add_i64 rfl rfl rfl (by omega) (by omega)) ?_
        refine Gm ?_
        refine G_end (X_then ?_)
        exact G_again (i + 1, q2, (k, sy, pr, rc, pl, n, er)) ⟨hlt, hok2, hX2⟩ (by simp only; omega) ⟨rfl, rfl, rfl, rfl, rfl, rfl, rfl, trivial⟩ rfl rfl
      · have hX2 : X = rdL (aNum q 0 31).1 (k, sy, pr, rc, pl, tx, (aNum q 0 31).2) ((fieldsK k0).drop (i + 1)) := hX
        have hc := fun L0 => NumberQ_call E3 L0 q hok 0 31 (by decide)
        have hok2 := aNum_ok q 0 31
        have hle := aNum_le (q := q) (m := 31) (by decide)
        clear hX hok
        generalize aNum q 0 31 = y at *
        obtain ⟨q2, n⟩ := y
        simp only at hX2 hc hok2 hle
        refine G_seq (G_region ?_)
        refine Gv (V_lss rfl rfl rfl) ?_
        refine G_end (X_then (G_seq ?_))
        refine G_cond_t rfl (decide_eq_true (by omega)) ?_
        refine G_skip (X_then (G_seq (G_block (G_seq (G_region ?_)))))
        refine Gv (V_idxAddr rfl rfl rfl (SlE.rd (by assumption)) (by omega) (by omega)) ?_
        refine Gv (V_loadS rfl rfl (SlE.rd (by assumption)) (by assumption) (by simp)) ?_
        refine Ga ?_
        refine G_end (X_then (G_seq (G_region ?_)))
        refine Gm ?_
        refine G_end (X_then (G_block (G_seq (G_region ?_))))
        refine Gv (V_eql rfl rfl rfl) ?_
        refine Ga ?_
        refine G_end (X_then ?_)
        refine G_cond_f rfl (by kernel_rfl) ?_
        refine G_seq (G_region ?_)
        refine Gv (V_eql rfl rfl rfl) ?_
        refine Ga ?_
        refine G_end (X_then ?_)
        refine G_cond_f rfl (by kernel_rfl) ?_
        refine G_seq (G_region ?_)
        refine Gv (V_eql rfl rfl rfl) ?_
        refine Ga ?_
        refine G_end (X_then ?_)
        refine G_cond_f rfl (by kernel_rfl) ?_
        refine G_seq (G_region ?_)
        refine Gv (V_eql rfl rfl rfl) ?_
        refine Ga ?_
        refine G_end (X_then ?_)
        refine G_cond_f rfl (by kernel_rfl) ?_
        refine G_seq (G_region ?_)
        refine Gv (V_eql rfl rfl rfl) ?_
        refine Ga ?_
        refine G_end (X_then ?_)
        refine G_cond_t rfl (by kernel_rfl) ?_
        refine G_seq (G_region ?_)
        refine Gv (V_loadA rfl rfl (Cells.own (.head _)) rfl) ?_
        refine G_callv (k := 63) (.mk rfl rfl rfl rfl) rfl rfl (.none rfl) (hc _) ?_
        refine Gm ?_
        refine Gv (V_extract rfl rfl rfl) ?_
        refine Gv (V_extract rfl rfl rfl) ?_
        refine G_storeA rfl rfl rfl rfl (by simp [Value.oneCell']) rfl (.none rfl) (.head _ _ _) rfl ?_
        refine Ga ?_
        refine G_end (X_then (G_region ?_))
        refine Gm ?_
        refine Gv (V_fieldAddr rfl rfl (by decide)) ?_
        refine G_storeAt rfl rfl rfl rfl rfl rfl (.none rfl) (.tail _ (.tail _ (.head _ _ _))) (Nat.le_of_ble_eq_true rfl) (by simp only [putAll, Nat.zero_add, Nat.reduceAdd, List.setIfInBounds_toArray, List.set_cons_succ, List.set_cons_zero]; rfl) ?_
        refine G_end (X_block (X_block (X_then (G_region ?_))))
        refine Gv (V_add_i64 rfl rfl rfl (by omega) (by omega)) ?_
        refine Gm ?_
        refine G_end (X_then ?_)
        exact G_again (i + 1, q2, (k, sy, pr, rc, pl, tx, n)) ⟨hlt, hok2, hX2⟩ (by simp only; omega) ⟨rfl, rfl, rfl, rfl, rfl, rfl, rfl, trivial⟩ rfl rfl
      · have hX2 : X = rdL (aNum q 0 1099511627776).1 (k, sy, pr, rc, (aNum q 0 1099511627776).2, tx, er) ((fieldsK k0).drop (i + 1)) := hX
        have hc := fun L0 => NumberQ_call E3 L0 q hok 0 1099511627776 (by decide)
        have hok2 := aNum_ok q 0 1099511627776
        have hle := aNum_le (q := q) (m := 1099511627776) (by decide)
        clear hX hok
        generalize aNum q 0 1099511627776 = y at *
        obtain ⟨q2, n⟩ := y
        simp only at hX2 hc hok2 hle
        refine G_seq (G_region ?_)
        refine Gv (V_lss rfl rfl rfl) ?_
        refine G_end (X_then (G_seq ?_))
        refine G_cond_t rfl (decide_eq_true (by omega)) ?_
        refine G_skip (X_then (G_seq (G_block (G_seq (G_region ?_)))))
        refine Gv (V_idxAddr rfl rfl rfl (SlE.rd (by assumption)) (by omega) (by omega)) ?_
        refine Gv (V_loadS rfl rfl (SlE.rd (by assumption)) (by assumption) (by simp)) ?_
        refine Ga ?_
        refine G_end (X_then (G_seq (G_region ?_)))
        refine Gm ?_
        refine G_end (X_then (G_block (G_seq (G_region ?_))))
        refine Gv (V_eql rfl rfl rfl) ?_
        refine Ga ?_
        refine G_end (X_then ?_)
        refine G_cond_f rfl (by kernel_rfl) ?_
        refine G_seq (G_region ?_)
        refine Gv (V_eql rfl rfl rfl) ?_
        refine Ga ?_
        refine G_end (X_then ?_)
        refine G_cond_f rfl (by kernel_rfl) ?_
        refine G_seq (G_region ?_)
        refine Gv (V_eql rfl rfl rfl) ?_
        refine Ga ?_
        refine G_end (X_then ?_)
        refine G_cond_f rfl (by kernel_rfl) ?_
        refine G_seq (G_region ?_)
        refine Gv (V_eql rfl rfl rfl) ?_
        refine Ga ?_
        refine G_end (X_then ?_)
        refine G_cond_f rfl (by kernel_rfl) ?_
        refine G_seq (G_region ?_)
        refine Gv (V_eql rfl rfl rfl) ?_
        refine Ga ?_
        refine G_end (X_then ?_)
        refine G_cond_f rfl (by kernel_rfl) ?_
        refine G_seq (G_region ?_)
        refine Gv (V_eql rfl rfl rfl) ?_
        refine Ga ?_
        refine G_end (X_then ?_)
        refine G_cond_t rfl (by kernel_rfl) ?_
        refine G_region ?_
        refine Gv (V_loadA rfl rfl (Cells.own (.head _)) rfl) ?_
        refine G_callv (k := 63) (.mk rfl rfl rfl rfl) rfl rfl (.none rfl) (hc _) ?_
        refine Gm ?_
        refine Gv (V_extract rfl rfl rfl) ?_
        refine Gv (V_extract rfl rfl rfl) ?_
        refine G_storeA rfl rfl rfl rfl (by simp [Value.oneCell']) rfl (.none rfl) (.head _ _ _) rfl ?_
        refine Gv (V_fieldAddr rfl rfl (by decide)) ?_
        refine G_storeAt rfl rfl rfl rfl rfl rfl (.none rfl) (.tail _ (.tail _ (.head _ _ _))) (Nat.le_of_ble_eq_true rfl) (by simp only [putAll, Nat.zero_add, Nat.reduceAdd, List.setIfInBounds_toArray, List.set_cons_succ, List.set_cons_zero]; rfl) ?_
        refine G_end (X_block (X_block (X_then (G_region ?_))))
        refine Gv (V_add_i64 rfl rfl rfl (by omega) (by omega)) ?_
        refine Gm ?_
        refine G_end (X_then ?_)
        exact G_again (i + 1, q2, (k, sy, pr, rc, n, tx, er)) ⟨hlt, hok2, hX2⟩ (by simp only; omega) ⟨rfl, rfl, rfl, rfl, rfl, rfl, rfl, trivial⟩ rfl rfl
    · rw [List.drop_eq_nil_of_le (by omega)] at hX
      rw [show X = (q, (k, sy, pr, rc, pl, tx, er)) from hX]
      simp only
      obtain ⟨qs, qa, qe, qf⟩ := q
      simp only
      by_cases he : qe = 0
      · rw [if_neg (fun h => h he)]
        have hck := fun E0 L0 => EvCheck_call E0 L0 k sy pr rc pl tx er
        generalize chkE (k, sy, pr, rc, pl, tx, er) = z at *
        refine G_seq (G_region ?_)
        refine Gv (V_lss rfl rfl rfl) ?_
        refine G_end (X_then (G_seq ?_))
        refine G_cond_f rfl (decide_eq_false (by omega)) ?_
        refine G_exit (X_then_exit (X_then_exit (X_block_hit (X_then (G_seq (G_seq (G_region ?_)))))))
        refine Gv (V_fieldAddr rfl rfl (by decide)) ?_
        refine Gv (V_fieldAddr rfl rfl (by decide)) ?_
        refine Gv (V_load rfl rfl (Cell.own (.head _) rfl)) ?_
        refine Gv (V_neq rfl rfl rfl) ?_
        refine G_end (X_then ?_)
        refine G_cond_f rfl (by simp [*]; done) ?_
        refine G_skip (X_then (G_seq (G_seq (G_region ?_))))
        refine Gv (V_loadA rfl rfl (Cells.own (.tail _ (.tail _ (.head _)))) rfl) ?_
        refine G_call (k := 12) (.mk rfl rfl rfl rfl) rfl rfl (.none rfl) (hck _ _) ?_
        rintro x5 E5 L5 hE5 ⟨rfl, rfl⟩
        by_cases hz : z = 0
        · rw [if_neg (fun h => h hz)]
          refine Ga ?_
          refine G_end (X_then (G_seq (G_region ?_)))
          refine Gm ?_
          refine Gv (V_neq rfl rfl rfl) ?_
          refine G_end (X_then ?_)
          refine G_cond_f rfl (decide_eq_false (by omega)) ?_
          refine G_skip (X_then (G_seq ?_))
          refine G_drawX 7 [(0, 1), (1, 0), (2, 1), (3, 0), (4, 4), (5, 0), (6, 4)] mixed (by kernel_rfl) ?_
          refine F_load rfl (.tail _ (.tail _ (.head _))) (V_loadA rfl rfl (Cells.own (.head _)) rfl) rfl rfl (.none rfl) ?_
          refine F_pure rfl (fun _ _ => V_fieldAddr rfl rfl (by decide)) rfl rfl (.none rfl) ?_
          refine F_load rfl (.head _) (V_load rfl rfl (Cell.own (.head _) rfl)) rfl rfl (.none rfl) ?_
          refine F_pure rfl (fun _ _ => V_build rfl rfl (by simp [fillV, setLs, setL, Value.cells]; rfl)) rfl rfl (.none rfl) ?_
          refine F_storeF rfl rfl rfl rfl rfl (by simp [Value.oneCell']) rfl (.none rfl) (.tail _ (.tail _ (.head _ _ _))) (Nat.le_of_ble_eq_true rfl) (by simp only [putAll, Nat.zero_add, Nat.reduceAdd, List.setIfInBounds_toArray, List.set_cons_succ, List.set_cons_zero]; rfl) (.cons (by exact .refl _) (by simp) (.drop (by kernel_rfl) (.nil))) ?_
          refine F_pure rfl (fun _ _ => V_assign rfl rfl) rfl rfl (.none rfl) ?_
          refine F_storeF rfl rfl rfl rfl rfl (by simp [Value.oneCell']) rfl (.none rfl) (.tail _ (.head _ _ _)) (Nat.le_of_ble_eq_true rfl) (by simp only [putAll, Nat.zero_add, Nat.reduceAdd, List.setIfInBounds_toArray, List.set_cons_succ, List.set_cons_zero]; rfl) (.drop (by kernel_rfl) (.nil)) ?_
          (refine F_end (.nil _) ?_; dsimp only [List.drop])
          refine G_end (X_then (G_ret ?_))
          refine G_leaveS (.drop _ (.drop _ (.drop _ (.nil _)))) (by exact (.cons (.cellA rfl (Cells.own (.tail _ (.tail _ (.head _)))) rfl) (.cons (.tmp rfl) (.cons (.cellA rfl (Cells.own (.tail _ (.head _))) rfl) (.nil))))) rfl ?_ ?_
          · exact (hE3.trans hE5)
          exact ⟨rfl, rfl⟩
        · rw [if_pos hz]
          refine Ga ?_
          refine G_end (X_then (G_seq (G_region ?_)))
          refine Gm ?_
          refine Gv (V_neq rfl rfl rfl) ?_
          refine G_end (X_then ?_)
          refine G_cond_t rfl (decide_eq_true (by omega)) ?_
          refine G_seq (G_region ?_)
          refine Gv (V_build rfl rfl (by simp [fillV, setLs, setL, Value.cells]; rfl)) ?_
          refine Gm ?_
          refine Gm ?_
          refine Gv (V_build rfl rfl (by simp [fillV, setLs, setL, Value.cells]; rfl)) ?_
          refine G_storeA rfl rfl rfl rfl (by simp [Value.oneCell']) rfl (.none rfl) (.tail _ (.tail _ (.head _ _ _))) rfl ?_
          refine Ga ?_
          refine G_storeA rfl rfl rfl rfl (by simp [Value.oneCell']) rfl (.none rfl) (.tail _ (.head _ _ _)) rfl ?_
          refine G_end (X_then (G_ret (X_then_ret ?_)))
          refine G_leaveS (.drop _ (.drop _ (.drop _ (.nil _)))) (by exact (.cons (.cellA rfl (Cells.own (.tail _ (.tail _ (.head _)))) rfl) (.cons (.tmp rfl) (.cons (.cellA rfl (Cells.own (.tail _ (.head _))) rfl) (.nil))))) rfl ?_ ?_
          · exact (hE3.trans hE5)
          exact ⟨rfl, rfl⟩
      · rw [if_pos he]
        refine G_seq (G_region ?_)
        refine Gv (V_lss rfl rfl rfl) ?_
        refine G_end (X_then (G_seq ?_))
        refine G_cond_f rfl (decide_eq_false (by omega)) ?_
        refine G_exit (X_then_exit (X_then_exit (X_block_hit (X_then (G_seq (G_seq (G_region ?_)))))))
        refine Gv (V_fieldAddr rfl rfl (by decide)) ?_
        refine Gv (V_fieldAddr rfl rfl (by decide)) ?_
        refine Gv (V_load rfl rfl (Cell.own (.head _) rfl)) ?_
        refine Gv (V_neq rfl rfl rfl) ?_
        refine G_end (X_then ?_)
        refine G_cond_t rfl (decide_eq_true (by omega)) ?_
        refine G_seq ?_
        refine G_drawX 6 [(0, 0), (1, 0), (2, 1), (3, 4), (4, 0), (5, 4)] mixed (by kernel_rfl) ?_
        refine F_pure rfl (fun _ _ => V_build rfl rfl (by simp [fillV, setLs, setL, Value.cells]; rfl)) rfl rfl (.none rfl) ?_
        refine F_pure rfl (fun _ _ => V_fieldAddr rfl rfl (by decide)) rfl rfl (.none rfl) ?_
        refine F_load rfl (.head _) (V_loadF rfl rfl (.head _) (by simp only [Nat.zero_add, List.drop_succ_cons, List.drop_zero, List.take_succ_cons, List.take_zero]; rfl) (by rfl)) rfl rfl (.none rfl) ?_
        refine F_storeF rfl rfl rfl rfl rfl (by simp [Value.oneCell']) rfl (.none rfl) (.tail _ (.tail _ (.head _ _ _))) (Nat.le_of_ble_eq_true rfl) (by simp only [putAll, Nat.zero_add, Nat.reduceAdd, List.setIfInBounds_toArray, List.set_cons_succ, List.set_cons_zero]; rfl) (.cons (by exact .refl _) (by simp) (.nil)) ?_
        refine F_pure rfl (fun _ _ => V_assign rfl rfl) rfl rfl (.none rfl) ?_
        refine F_storeF rfl rfl rfl rfl rfl (by simp [Value.oneCell']) rfl (.none rfl) (.tail _ (.head _ _ _)) (Nat.le_of_ble_eq_true rfl) (by simp only [putAll, Nat.zero_add, Nat.reduceAdd, List.setIfInBounds_toArray, List.set_cons_succ, List.set_cons_zero]; rfl) (.drop (by kernel_rfl) (.nil)) ?_
        (refine F_end (.nil _) ?_; dsimp only [List.drop])
        refine G_end (X_then (G_ret (X_then_ret ?_)))
        refine G_leaveS (.drop _ (.drop _ (.drop _ (.nil _)))) (by exact (.cons (.cellA rfl (Cells.own (.tail _ (.tail _ (.head _)))) rfl) (.cons (.tmp rfl) (.cons (.cellA rfl (Cells.own (.tail _ (.head _))) rfl) (.nil))))) rfl ?_ ?_
        · exact hE3
        exact ⟨rfl, rfl⟩
  · have hrd : rd0 s a = (⟨[], 0, 10, 0⟩, 0) := if_neg h2
    have hF : readF s a = (ev0, 0, 10, 0) := by
      unfold readF rdE
      rw [hrd]
      rfl
    rw [hF]
    have hq0 : (⟨[], 0, 10, 0⟩ : Rdr).ok := ⟨by simp, by decide, by simp, .inr ⟨by decide, by decide, by decide, by simp⟩⟩
    have hn0 := fun E0 L0 => NumberQ_call E0 L0 ⟨[], 0, 10, 0⟩ hq0 1 7 (by decide)
    rw [aNum_stop hq0 (by decide)] at hn0
    refine G_seq (G_region ?_)
    (refine G_alloc rfl rfl rfl (.none rfl) ?_; intro b4)
    refine Ga ?_
    (refine G_alloc rfl rfl rfl (.none rfl) ?_; intro b6)
    refine G_end (X_then (G_seq (G_seq (G_region ?_))))
    refine Gm ?_
    refine Gv (V_lss rfl rfl rfl) ?_
    refine Gm ?_
    refine G.bool_f 14 rfl (decide_eq_false (by omega)) ?_
    refine Gy (V_move rfl rfl) ?_
    refine Gy (V_move rfl rfl) ?_
    refine Gy (V_len rfl rfl) ?_
    refine Gy (V_gtr rfl rfl rfl) ?_
    refine Gv (V_pick_f rfl rfl rfl) ?_
    refine G_end (X_then ?_)
    refine G_cond_f rfl (decide_eq_false (by omega)) ?_
    refine G_skip (X_then (G_seq (G_region ?_)))
    refine Gm ?_
    refine G_callv (k := 62) (.mk rfl rfl rfl rfl) rfl rfl (.none rfl) (ReadB_call _ _ s hs (by omega)) ?_
    (refine G_alloc rfl rfl rfl (.none rfl) ?_; intro b7)
    refine G_storeA rfl rfl rfl rfl (by simp [Value.oneCell']) rfl (.none rfl) (.head _ _ _) rfl ?_
    refine G_end (X_then (G_seq (G_seq (G_region ?_))))
    refine Gv (V_fieldAddr rfl rfl (by decide)) ?_
    refine Gv (V_fieldAddr rfl rfl (by decide)) ?_
    refine Gv (V_load rfl rfl (Cell.own (.head _) rfl)) ?_
    refine Gv (V_eql rfl rfl rfl) ?_
    refine G_end (X_then ?_)
    refine G_cond_f rfl (by kernel_rfl) ?_
    refine G_skip (X_then (G_seq (G_region ?_)))
    refine Ga ?_
    refine G_end (X_then (G_seq (G_region ?_)))
    refine Gv (V_loadA rfl rfl (Cells.own (.head _)) rfl) ?_
    refine G_callv (k := 63) (.mk rfl rfl rfl rfl) rfl rfl (.none rfl) (hn0 _ _) ?_
    refine Gm ?_
    refine Gv (V_extract rfl rfl rfl) ?_
    refine Gv (V_extract rfl rfl rfl) ?_
    refine G_storeA rfl rfl rfl rfl (by simp [Value.oneCell']) rfl (.none rfl) (.head _ _ _) rfl ?_
    refine Gv (V_fieldAddr rfl rfl (by decide)) ?_
    refine G_storeAt rfl rfl rfl rfl rfl rfl (.none rfl) (.tail _ (.tail _ (.head _ _ _))) (Nat.le_of_ble_eq_true rfl) (by simp only [putAll, Nat.zero_add, Nat.reduceAdd, List.setIfInBounds_toArray, List.set_cons_succ, List.set_cons_zero]; rfl) ?_
    refine G_end (X_then (G_seq (G_seq (G_region ?_))))
    refine Gv (V_fieldAddr rfl rfl (by decide)) ?_
    refine Gv (V_load rfl rfl (Cell.own (.tail _ (.tail _ (.head _))) rfl)) ?_
    refine G_callv (k := 34) (.mk rfl rfl rfl rfl) rfl rfl (.none rfl) (fields0_call _ _ 0 (by omega)) ?_
    refine Gv (V_lenS rfl rfl) ?_
    refine Gm ?_
    refine G_end (X_then (G_block ?_))
    refine G_loop (α := Unit) (fun x => [(1, .int .i64 a), (4, .pointer (some ⟨b4, 0, none⟩)), (6, .pointer (some ⟨b6, 0, none⟩)), (7, .pointer (some ⟨b7, 0, none⟩)), (38, .slice none 0 0), (39, .int .i64 ((0 : Nat) : Int)), (40, .int .i64 0)]) (fun _ => E)
      (fun x => rdB b7 ⟨[], 0, 10, 0⟩ :: .blk b6 (.cells #[.int .i64 0, .int .i64 0] 36 (0, 0)) :: evB b4 ev0 :: L) (fun x => True) (fun x => 0) () trivial ⟨rfl, rfl, rfl, rfl, rfl, rfl, rfl, trivial⟩ rfl rfl ?_
    rintro _ _
    refine G_seq (G_region ?_)
    refine Gv (V_lss rfl rfl rfl) ?_
    refine G_end (X_then (G_seq ?_))
    refine G_cond_f rfl (by kernel_rfl) ?_
    refine G_exit (X_then_exit (X_then_exit (X_block_hit (X_then (G_seq (G_seq (G_region ?_)))))))
    refine Gv (V_fieldAddr rfl rfl (by decide)) ?_
    refine Gv (V_fieldAddr rfl rfl (by decide)) ?_
    refine Gv (V_load rfl rfl (Cell.own (.head _) rfl)) ?_
    refine Gv (V_neq rfl rfl rfl) ?_
    refine G_end (X_then ?_)
    refine G_cond_t rfl (by kernel_rfl) ?_
    refine G_seq ?_
    refine G_drawX 6 [(0, 0), (1, 0), (2, 1), (3, 4), (4, 0), (5, 4)] mixed (by kernel_rfl) ?_
    refine F_pure rfl (fun _ _ => V_build rfl rfl (by simp [fillV, setLs, setL, Value.cells]; rfl)) rfl rfl (.none rfl) ?_
    refine F_pure rfl (fun _ _ => V_fieldAddr rfl rfl (by decide)) rfl rfl (.none rfl) ?_
    refine F_load rfl (.head _) (V_loadF rfl rfl (.head _) (by simp only [Nat.zero_add, List.drop_succ_cons, List.drop_zero, List.take_succ_cons, List.take_zero]; rfl) (by rfl)) rfl rfl (.none rfl) ?_
    refine F_storeF rfl rfl rfl rfl rfl (by simp [Value.oneCell']) rfl (.none rfl) (.tail _ (.tail _ (.head _ _ _))) (Nat.le_of_ble_eq_true rfl) (by simp only [putAll, Nat.zero_add, Nat.reduceAdd, List.setIfInBounds_toArray, List.set_cons_succ, List.set_cons_zero]; rfl) (.cons (by exact .refl _) (by simp) (.nil)) ?_
    refine F_pure rfl (fun _ _ => V_assign rfl rfl) rfl rfl (.none rfl) ?_
    refine F_storeF rfl rfl rfl rfl rfl (by simp [Value.oneCell']) rfl (.none rfl) (.tail _ (.head _ _ _)) (Nat.le_of_ble_eq_true rfl) (by simp only [putAll, Nat.zero_add, Nat.reduceAdd, List.setIfInBounds_toArray, List.set_cons_succ, List.set_cons_zero]; rfl) (.drop (by kernel_rfl) (.nil)) ?_
    (refine F_end (.nil _) ?_; dsimp only [List.drop])
    refine G_end (X_then (G_ret (X_then_ret ?_)))
    refine G_leaveS (.drop _ (.drop _ (.drop _ (.nil _)))) (by exact (.cons (.cellA rfl (Cells.own (.tail _ (.tail _ (.head _)))) rfl) (.cons (.tmp rfl) (.cons (.cellA rfl (Cells.own (.tail _ (.head _))) rfl) (.nil))))) rfl ?_ ?_
    · exact (.refl _)
    exact ⟨(by kernel_rfl), rfl⟩
abbrev parseM (s : List UInt8) : Ev × Int × Int := if (readM s 0).2.2.1 ≠ 0 then (ev0, (readM s 0).2.2.1, (readM s 0).2.2.2) else if (readM s 0).2.1 < s.length then (ev0, 4, (readM s 0).2.1) else ((readM s 0).1, 0, 0)
theorem EvParse_call (s : List UInt8) (hs : s.length ≤ 1000000000000) : CallS Tryz.prog 25 #[.string (S s)] E L (fun r E' L' => r = .tuple #[evV (parseM s).1, .agg #[.int .i64 (parseM s).2.1, .int .i64 (parseM s).2.2]] ∧ L' = L) := by
  have hr := fun E0 L0 => EvRead_call E0 L0 s hs 0
  unfold parseM
  generalize readM s 0 = x at *
  obtain ⟨⟨k, sy, pr, rc, pl, tx, er⟩, n, z, fa⟩ := x
  simp only [readV] at hr ⊢
  refine CallS.intro (l := [_]) _ Tryz.func25 rfl Tryz.ntmps25 rfl ?_
  refine G_seq (G_region ?_)
  (refine G_alloc rfl rfl rfl (.none rfl) ?_; intro b2)
  (refine G_alloc rfl rfl rfl (.none rfl) ?_; intro b3)
  refine G_end (X_then (G_seq (G_region ?_)))
  refine Gm ?_
  refine G_call (k := 23) (.mk rfl rfl rfl rfl) rfl rfl (.none rfl) (hr _ _) ?_
  rintro x1 E1 L1 hE1 ⟨rfl, rfl⟩
  by_cases hz : z = 0
  · rw [if_neg (fun h => h hz)]
    by_cases hn : n < s.length
    · rw [if_pos hn]
      refine Gm ?_
      refine Gv (V_extract rfl rfl rfl) ?_
      refine Gv (V_extract rfl rfl rfl) ?_
      refine Gv (V_extract rfl rfl rfl) ?_
      (refine G_alloc rfl rfl rfl (.none rfl) ?_; intro b4)
      (refine G_alloc rfl rfl rfl (.none rfl) ?_; intro b6)
      refine G_storeA rfl rfl rfl rfl (by simp [Value.oneCell']) rfl (.none rfl) (.tail _ (.head _ _ _)) rfl ?_
      refine Ga ?_
      refine G_storeA rfl rfl rfl rfl (by simp [Value.oneCell']) rfl (.none rfl) (.head _ _ _) rfl ?_
      refine G_end (X_then (G_seq (G_seq (G_region ?_))))
      refine Gv (V_fieldAddr rfl rfl (by decide)) ?_
      refine Gv (V_load rfl rfl (Cell.own (.head _) rfl)) ?_
      refine Gv (V_eql rfl rfl rfl) ?_
      refine Gm ?_
      refine G.bool_t 16 rfl (decide_eq_true (by omega)) ?_
      refine Gy (V_move rfl rfl) ?_
      refine Gy (V_move rfl rfl) ?_
      refine Gy (V_len rfl rfl) ?_
      refine Gy (V_lss rfl rfl rfl) ?_
      refine Gv (V_pick_t rfl rfl rfl) ?_
      refine G_end (X_then ?_)
      refine G_cond_t rfl (decide_eq_true (by omega)) ?_
      refine G_region ?_
      refine Gm ?_
      refine Gv (V_build rfl rfl (by simp [fillV, setLs, setL, Value.cells]; rfl)) ?_
      refine G_storeA rfl rfl rfl rfl (by simp [Value.oneCell']) rfl (.none rfl) (.head _ _ _) rfl ?_
      refine G_end (X_then (G_seq (G_seq (G_region ?_))))
      refine Gv (V_fieldAddr rfl rfl (by decide)) ?_
      refine Gv (V_load rfl rfl (Cell.own (.head _) rfl)) ?_
      refine Gv (V_neq rfl rfl rfl) ?_
      refine G_end (X_then ?_)
      refine G_cond_t rfl (by kernel_rfl) ?_
      refine G_seq ?_
      refine G_drawX 4 [(0, 0), (1, 1), (2, 4), (3, 4)] mixed (by kernel_rfl) ?_
      refine F_pure rfl (fun _ _ => V_build rfl rfl (by simp [fillV, setLs, setL, Value.cells]; rfl)) rfl rfl (.none rfl) ?_
      refine F_load rfl (.head _) (V_loadA rfl rfl (Cells.own (.head _)) rfl) rfl rfl (.none rfl) ?_
      refine F_storeF rfl rfl rfl rfl rfl (by simp [Value.oneCell']) rfl (.none rfl) (.tail _ (.tail _ (.tail _ (.head _ _ _)))) (Nat.le_of_ble_eq_true rfl) (by simp only [putAll, Nat.zero_add, Nat.reduceAdd, List.setIfInBounds_toArray, List.set_cons_succ, List.set_cons_zero]; rfl) (.cons (by exact .refl _) (by simp) (.nil)) ?_
      refine F_storeF rfl rfl rfl rfl rfl (by simp [Value.oneCell']) rfl (.none rfl) (.tail _ (.tail _ (.head _ _ _))) (Nat.le_of_ble_eq_true rfl) (by simp only [putAll, Nat.zero_add, Nat.reduceAdd, List.setIfInBounds_toArray, List.set_cons_succ, List.set_cons_zero]; rfl) (.drop (by kernel_rfl) (.nil)) ?_
      (refine F_end (.nil _) ?_; dsimp only [List.drop])
      refine G_end (X_then (G_ret (X_then_ret ?_)))
      refine G_leaveS (.drop _ (.drop _ (.drop _ (.drop _ (.nil _))))) (by exact (.cons (.cellA rfl (Cells.own (.tail _ (.tail _ (.tail _ (.head _))))) rfl) (.cons (.cellA rfl (Cells.own (.tail _ (.tail _ (.head _)))) rfl) (.nil)))) rfl ?_ ?_
      · exact hE1
      exact ⟨rfl, rfl⟩
    · rw [if_neg hn]
      refine Gm ?_
      refine Gv (V_extract rfl rfl rfl) ?_
      refine Gv (V_extract rfl rfl rfl) ?_
      refine Gv (V_extract rfl rfl rfl) ?_
      (refine G_alloc rfl rfl rfl (.none rfl) ?_; intro b4)
      (refine G_alloc rfl rfl rfl (.none rfl) ?_; intro b6)
      refine G_storeA rfl rfl rfl rfl (by simp [Value.oneCell']) rfl (.none rfl) (.tail _ (.head _ _ _)) rfl ?_
      refine Ga ?_
      refine G_storeA rfl rfl rfl rfl (by simp [Value.oneCell']) rfl (.none rfl) (.head _ _ _) rfl ?_
      refine G_end (X_then (G_seq (G_seq (G_region ?_))))
      refine Gv (V_fieldAddr rfl rfl (by decide)) ?_
      refine Gv (V_load rfl rfl (Cell.own (.head _) rfl)) ?_
      refine Gv (V_eql rfl rfl rfl) ?_
      refine Gm ?_
      refine G.bool_t 16 rfl (decide_eq_true (by omega)) ?_
      refine Gy (V_move rfl rfl) ?_
      refine Gy (V_move rfl rfl) ?_
      refine Gy (V_len rfl rfl) ?_
      refine Gy (V_lss rfl rfl rfl) ?_
      refine Gv (V_pick_t rfl rfl rfl) ?_
      refine G_end (X_then ?_)
      refine G_cond_f rfl (decide_eq_false (by omega)) ?_
      refine G_skip (X_then (G_seq (G_seq (G_region ?_))))
      refine Gv (V_fieldAddr rfl rfl (by decide)) ?_
      refine Gv (V_load rfl rfl (Cell.own (.head _) rfl)) ?_
      refine Gv (V_neq rfl rfl rfl) ?_
      refine G_end (X_then ?_)
      refine G_cond_f rfl (decide_eq_false (by omega)) ?_
      refine G_skip (X_then (G_seq (G_region ?_)))
      refine Gv (V_loadA rfl rfl (Cells.own (.tail _ (.head _))) rfl) ?_
      refine Gv (V_build rfl rfl (by simp [fillV, setLs, setL, Value.cells]; rfl)) ?_
      refine G_storeA rfl rfl rfl rfl (by simp [Value.oneCell']) rfl (.none rfl) (.tail _ (.tail _ (.tail _ (.head _ _ _)))) rfl ?_
      refine G_storeA rfl rfl rfl rfl (by simp [Value.oneCell']) rfl (.none rfl) (.tail _ (.tail _ (.head _ _ _))) rfl ?_
      refine G_end (X_then (G_ret ?_))
      refine G_leaveS (.drop _ (.drop _ (.drop _ (.drop _ (.nil _))))) (by exact (.cons (.cellA rfl (Cells.own (.tail _ (.tail _ (.tail _ (.head _))))) rfl) (.cons (.cellA rfl (Cells.own (.tail _ (.tail _ (.head _)))) rfl) (.nil)))) rfl ?_ ?_
      · exact hE1
      exact ⟨rfl, rfl⟩
  · rw [if_pos hz]
    refine Gm ?_
    refine Gv (V_extract rfl rfl rfl) ?_
    refine Gv (V_extract rfl rfl rfl) ?_
    refine Gv (V_extract rfl rfl rfl) ?_
    (refine G_alloc rfl rfl rfl (.none rfl) ?_; intro b4)
    (refine G_alloc rfl rfl rfl (.none rfl) ?_; intro b6)
    refine G_storeA rfl rfl rfl rfl (by simp [Value.oneCell']) rfl (.none rfl) (.tail _ (.head _ _ _)) rfl ?_
    refine Ga ?_
    refine G_storeA rfl rfl rfl rfl (by simp [Value.oneCell']) rfl (.none rfl) (.head _ _ _) rfl ?_
    refine G_end (X_then (G_seq (G_seq (G_region ?_))))
    refine Gv (V_fieldAddr rfl rfl (by decide)) ?_
    refine Gv (V_load rfl rfl (Cell.own (.head _) rfl)) ?_
    refine Gv (V_eql rfl rfl rfl) ?_
    refine Gm ?_
    refine G.bool_f 16 rfl (decide_eq_false (by omega)) ?_
    refine Gn ?_
    refine Gn ?_
    refine Gn ?_
    refine Gn ?_
    refine Gv (V_pick_f rfl rfl rfl) ?_
    refine G_end (X_then ?_)
    refine G_cond_f rfl rfl ?_
    refine G_skip (X_then (G_seq (G_seq (G_region ?_))))
    refine Gv (V_fieldAddr rfl rfl (by decide)) ?_
    refine Gv (V_load rfl rfl (Cell.own (.head _) rfl)) ?_
    refine Gv (V_neq rfl rfl rfl) ?_
    refine G_end (X_then ?_)
    refine G_cond_t rfl (decide_eq_true (by omega)) ?_
    refine G_seq ?_
    refine G_drawX 4 [(0, 0), (1, 1), (2, 4), (3, 4)] mixed (by kernel_rfl) ?_
    refine F_pure rfl (fun _ _ => V_build rfl rfl (by simp [fillV, setLs, setL, Value.cells]; rfl)) rfl rfl (.none rfl) ?_
    refine F_load rfl (.head _) (V_loadA rfl rfl (Cells.own (.head _)) rfl) rfl rfl (.none rfl) ?_
    refine F_storeF rfl rfl rfl rfl rfl (by simp [Value.oneCell']) rfl (.none rfl) (.tail _ (.tail _ (.tail _ (.head _ _ _)))) (Nat.le_of_ble_eq_true rfl) (by simp only [putAll, Nat.zero_add, Nat.reduceAdd, List.setIfInBounds_toArray, List.set_cons_succ, List.set_cons_zero]; rfl) (.cons (by exact .refl _) (by simp) (.nil)) ?_
    refine F_storeF rfl rfl rfl rfl rfl (by simp [Value.oneCell']) rfl (.none rfl) (.tail _ (.tail _ (.head _ _ _))) (Nat.le_of_ble_eq_true rfl) (by simp only [putAll, Nat.zero_add, Nat.reduceAdd, List.setIfInBounds_toArray, List.set_cons_succ, List.set_cons_zero]; rfl) (.drop (by kernel_rfl) (.nil)) ?_
    (refine F_end (.nil _) ?_; dsimp only [List.drop])
    refine G_end (X_then (G_ret (X_then_ret ?_)))
    refine G_leaveS (.drop _ (.drop _ (.drop _ (.drop _ (.nil _))))) (by exact (.cons (.cellA rfl (Cells.own (.tail _ (.tail _ (.tail _ (.head _))))) rfl) (.cons (.cellA rfl (Cells.own (.tail _ (.tail _ (.head _)))) rfl) (.nil)))) rfl ?_ ?_
    · exact hE1
    exact ⟨rfl, rfl⟩
end
end Go.Proofs.YtjhehanknkonnaaGreatDoor
set_option linter.unusedSimpArgs false
set_option linter.unusedVariables false
set_option maxHeartbeats 2000000
set_option maxRecDepth 20000
namespace Go.Proofs.YtjhehanknkonnaaGreatDoor
open Go.RowKit
/-! The reference's Read, Parse, Name. -/
section
variable (E : Env) (L : List Res)
theorem RName_call (k : Int) : CallS Tryz.prog 21 #[.int .i64 k] E L (fun r E' L' => r = .tuple #[.string (S (nmM k).1), .int .i64 (nmM k).2] ∧ L' = L) := by
  refine CallS.intro (l := [_]) _ Tryz.func21 rfl Tryz.ntmps21 rfl ?_
  unfold nmM
  by_cases h1 : k < 1
  · rw [if_neg (by omega)]
    refine G_seq (G_region ?_)
    refine Ga ?_
    refine Ga ?_
    refine G_end (X_then (G_seq (G_seq (G_region ?_))))
    refine Gm ?_
    refine Gv (V_lss rfl rfl rfl) ?_
    refine Gm ?_
    refine G.bool_t 6 rfl (decide_eq_true (by omega)) ?_
    refine Gn ?_
    refine Gn ?_
    refine Gv (V_pick_t rfl rfl rfl) ?_
    refine G_end (X_then ?_)
    refine G_cond_t rfl rfl ?_
    refine G_seq (G_region ?_)
    refine Ga ?_
    refine Ga ?_
    refine G_end (X_then (G_ret (X_then_ret ?_)))
    refine G_leaveS (.nil _) (by exact (.cons (.tmp rfl) (.cons (.tmp rfl) (.nil)))) rfl ?_ ?_
    · exact (.refl _)
    exact ⟨(by kernel_rfl), rfl⟩
  · by_cases h7 : 7 < k
    · rw [if_neg (by omega)]
      refine G_seq (G_region ?_)
      refine Ga ?_
      refine Ga ?_
      refine G_end (X_then (G_seq (G_seq (G_region ?_))))
      refine Gm ?_
      refine Gv (V_lss rfl rfl rfl) ?_
      refine Gm ?_
      refine G.bool_f 6 rfl (decide_eq_false (by omega)) ?_
      refine Gy (V_move rfl rfl) ?_
      refine Gy (V_gtr rfl rfl rfl) ?_
      refine Gv (V_pick_f rfl rfl rfl) ?_
      refine G_end (X_then ?_)
      refine G_cond_t rfl (decide_eq_true (by omega)) ?_
      refine G_seq (G_region ?_)
      refine Ga ?_
      refine Ga ?_
      refine G_end (X_then (G_ret (X_then_ret ?_)))
      refine G_leaveS (.nil _) (by exact (.cons (.tmp rfl) (.cons (.tmp rfl) (.nil)))) rfl ?_ ?_
      · exact (.refl _)
      exact ⟨(by kernel_rfl), rfl⟩
    · rw [if_pos (by omega)]
      have hx := strs_get (evN_at (k := k) (by omega))
      refine G_seq (G_region ?_)
      refine Ga ?_
      refine Ga ?_
      refine G_end (X_then (G_seq (G_seq (G_region ?_))))
      refine Gm ?_
      refine Gv (V_lss rfl rfl rfl) ?_
      refine Gm ?_
      refine G.bool_f 6 rfl (decide_eq_false (by omega)) ?_
      refine Gy (V_move rfl rfl) ?_
      refine Gy (V_gtr rfl rfl rfl) ?_
      refine Gv (V_pick_f rfl rfl rfl) ?_
      refine G_end (X_then ?_)
      refine G_cond_f rfl (decide_eq_false (by omega)) ?_
      refine G_skip (X_then (G_seq (G_region ?_)))
      refine G_call (k := 61) (.mk rfl rfl rfl rfl) rfl rfl (.none rfl) (Rnames_call _ _) ?_
      rintro x1 E1 L1 hE1 ⟨⟨p, c, rfl, hs, hc⟩, rfl⟩
      refine Gm ?_
      refine Gv (V_sub_i64 rfl rfl rfl (by omega) (by omega)) ?_
      refine Gv (V_idxAddr rfl rfl rfl (SlE.rd (by assumption)) (by omega) (by omega)) ?_
      refine Gv (V_loadS rfl rfl (SlE.rd (by assumption)) (by assumption) (by simp)) ?_
      refine Ga ?_
      refine Ga ?_
      refine G_end (X_then (G_ret ?_))
      refine G_leaveS (.nil _) (by exact (.cons (.tmp rfl) (.cons (.tmp rfl) (.nil)))) rfl ?_ ?_
      · exact hE1
      exact ⟨rfl, rfl⟩
end
end Go.Proofs.YtjhehanknkonnaaGreatDoor
set_option linter.unusedSimpArgs false
set_option linter.unusedVariables false
set_option maxHeartbeats 2000000
set_option maxRecDepth 20000
namespace Go.Proofs.YtjhehanknkonnaaGreatDoor
open Go.RowKit
/-! event.List and the reference's. -/
def listT (l : List Ev) : List UInt8 := l.flatMap fun e => evT e ++ [10]
/-- The first error of events. -/
def errL : List Ev → Int
  | [] => 0
  | e :: l => if chkE e = 0 then errL l else chkE e
def listM (l : List Ev) : List UInt8 × Int := if errL l = 0 then (if 20000 < (listT l).length then ([], 4) else (listT l, 0)) else ([], errL l)
theorem listT_cons (e : Ev) (l : List Ev) : listT (e :: l) = (evT e ++ [10]) ++ listT l := rfl
theorem listT_append (a b : List Ev) : listT (a ++ b) = listT a ++ listT b := List.flatMap_append
theorem listT_snoc (l : List Ev) (e : Ev) : listT (l ++ [e]) = listT l ++ (evT e ++ [10]) := by rw [listT_append]; simp [listT]
theorem listT_len {l : List Ev} (h : errL l = 0) : (listT l).length ≤ 201 * l.length := by
  induction l with
  | nil => simp [listT]
  | cons e l ih =>
    simp only [errL] at h
    split at h
    · rename_i hc
      have := ih h
      have := evT_len (ev_ok hc)
      rw [listT_cons]
      simp only [List.length_append, List.length_cons, List.length_nil]
      omega
    · exact absurd h ‹_›
theorem errL_mem {l : List Ev} (h : errL l = 0) : ∀ e, e ∈ l → chkE e = 0 := by
  induction l with
  | nil => intro e he; cases he
  | cons x l ih =>
    simp only [errL] at h
    split at h
    · rename_i hc
      intro e he
      rcases List.mem_cons.1 he with rfl | he
      · exact hc
      · exact ih h e he
    · exact absurd h ‹_›
theorem errL_drop {l : List Ev} {i : Nat} {e : Ev} (h : l[i]? = some e) : errL (l.drop i) = if chkE e = 0 then errL (l.drop (i + 1)) else chkE e := by
  rw [List.drop_eq_getElem_cons (List.getElem?_eq_some_iff.1 h).1, (List.getElem?_eq_some_iff.1 h).2]
  rfl
theorem evC_at {l : List Ev} {k : Nat} {e : Ev} (h : l[k]? = some e) : ((evC l).drop (((k : Nat) : Int).toNat * 7)).take 7 = [.int .i64 e.k, .int .i64 e.sy, .int .i64 e.pr, .int .i64 e.rc, .int .i64 e.pl, .string (S e.tx), .int .i64 e.er] := by rw [Int.toNat_natCast]; exact evC_get h
section
variable (E : Env) (L : List Res)
theorem EvList_call (hT : LaidW E) (p : Option Addr) (n c : Nat) (l : List Ev) (hl : SlE E 7 p n (evC l)) (hn : n ≤ 1000) : CallS Tryz.prog 18 #[.slice p n c] E L (fun r E' L' => r = .tuple #[.string (S (listM l).1), .int .i64 (listM l).2] ∧ L' = L) := by
  have en := hl.nEv
  subst en
  unfold listM
  refine CallS.intro (l := [_]) _ Tryz.func18 rfl Tryz.ntmps18 rfl ?_
  refine G_seq (G_region ?_)
  refine Ga ?_
  refine Ga ?_
  refine G_end (X_then (G_seq (G_region ?_)))
  (refine G_alloc rfl rfl rfl (.none rfl) ?_; intro b4)
  refine G_end (X_then (G_seq (G_seq (G_region ?_))))
  refine Gm ?_
  refine Gv (V_lenS rfl rfl) ?_
  refine Gm ?_
  refine G_end (X_then (G_block ?_))
  refine G.bldNew ?_
  skip
  refine G_loop (α := Nat × Env × Bld) (fun x => [(4, .pointer (some ⟨b4, 0, none⟩)), (9, .slice p l.length c), (10, .int .i64 l.length), (11, .int .i64 (x.1 : Nat))]) (fun x => x.2.1) (fun x => .bld b4 x.2.2 :: L)
    (fun x => x.1 ≤ l.length ∧ E.Le x.2.1 ∧ errL l = errL (l.drop x.1) ∧ x.2.2.xs = listT (l.take x.1) ∧ x.2.2.xs.length ≤ 201 * x.1) (fun x => l.length - x.1) (0, E, Bld.new) ⟨Nat.zero_le _, .refl _, rfl, rfl, by simp [Bld.new]⟩ ⟨rfl, rfl, rfl, rfl, trivial⟩ rfl rfl ?_
  rintro ⟨i, E1, t⟩ ⟨hi, hE1, he, ht, htl⟩
  simp only at hi hE1 he ht htl ⊢
  replace hl := hl.mono hE1
  replace hT := hT.mono hE1
  by_cases hlt : i < l.length
  · have hx := evC_at (List.getElem?_eq_getElem hlt)
    have hd := errL_drop (List.getElem?_eq_getElem hlt)
    have htk := List.take_succ_eq_append_getElem hlt
    generalize l[i] = e at *
    obtain ⟨k, sy, pr, rc, pl, tx, er⟩ := e
    have hx2 : ((evC l).drop (((i : Nat) : Int).toNat * 7)).take 7 = [.int .i64 k, .int .i64 sy, .int .i64 pr, .int .i64 rc, .int .i64 pl, .string (S tx), .int .i64 er] := hx
    clear hx
    have htx := fun E0 L0 (h : LaidW E0) => EvText_call E0 L0 h k sy pr rc pl tx er
    unfold txM at htx
    have hln := listT_snoc (l.take i) (k, sy, pr, rc, pl, tx, er)
    rw [← htk] at hln
    by_cases hc : chkE (k, sy, pr, rc, pl, tx, er) = 0
    · rw [if_pos hc] at hd htx
      simp only at htx
      have hel := evT_len (ev_ok hc)
      generalize evT (k, sy, pr, rc, pl, tx, er) = w at *
      have h10 : ([10] : List UInt8).length = 1 := rfl
      have hw1 : (w ++ [10]).length = w.length + 1 := by simp
      refine G_seq (G_region ?_)
      refine Gv (V_lss rfl rfl rfl) ?_
      refine G_end (X_then (G_seq ?_))
      refine G_cond_t rfl (decide_eq_true (by omega)) ?_
      refine G_skip (X_then (G_seq (G_block (G_seq (G_region ?_)))))
      refine Gv (V_idxAddr rfl rfl rfl (SlE.rd (by assumption)) (by omega) (by omega)) ?_
      refine Gv (V_loadAS rfl rfl (SlE.rd (by assumption)) (by assumption) (by simp) (by rfl)) ?_
      (refine G_alloc rfl rfl rfl (.none rfl) ?_; intro b6)
      refine G_storeA rfl rfl rfl rfl (by simp [Value.oneCell']) rfl (.none rfl) (.head _ _ _) rfl ?_
      refine G_end (X_then (G_seq (G_region ?_)))
      refine Gv (V_loadA rfl rfl (Cells.own (.head _)) rfl) ?_
      refine G_call (k := 16) (.mk rfl rfl rfl rfl) rfl rfl (.none rfl) (htx _ _ hT) ?_
      rintro x2 E2 L2 hE2 ⟨rfl, rfl⟩
      refine Gm ?_
      refine Gv (V_extract rfl rfl rfl) ?_
      refine Gv (V_extract rfl rfl rfl) ?_
      refine Ga ?_
      refine Ga ?_
      refine G_end (X_then (G_seq (G_seq (G_region ?_))))
      refine Gm ?_
      refine Gv (V_neq rfl rfl rfl) ?_
      refine G_end (X_then ?_)
      refine G_cond_f rfl (by kernel_rfl) ?_
      refine G_skip (X_then (G_region ?_))
      refine Gm ?_
      refine Gv (V_cat rfl rfl rfl (by simp; omega)) ?_
      refine G.front (.tail _ (.head _ _)) ?_
      refine G_call (k := 57) (.mk rfl rfl rfl rfl) rfl rfl (.none rfl) (WriteString_call _ _ _ _ _ (by omega)) ?_
      rintro r1 E3 L4 hE5 ⟨z6, ⟨rfl, ⟨rfl, ⟨Z7, ⟨Z8, rfl⟩⟩⟩⟩⟩
      refine G_end (X_block (X_then (G_region ?_)))
      refine Gv (V_add_i64 rfl rfl rfl (by omega) (by omega)) ?_
      refine Gm ?_
      refine G_end (X_then ?_)
      refine G.perm _ (List.Perm.swap _ _ _) ?_
      refine G.drop ?_
      exact G_again (i + 1, E3, z6) ⟨hlt, (by repeat (first | assumption | refine Env.Le.trans (by assumption) ?_)), by simp only; rw [he, hd], by simp only; rw [Z7, ht, hln], by simp only; omega⟩ (by simp only; omega) ⟨rfl, rfl, rfl, rfl, trivial⟩ rfl rfl
    · rw [if_neg hc] at hd htx
      simp only at htx
      have hne : ¬ errL l = 0 := by rw [he, hd]; exact hc
      have hel : errL l = chkE (k, sy, pr, rc, pl, tx, er) := by rw [he, hd]
      rw [if_neg hne, hel]
      generalize chkE (k, sy, pr, rc, pl, tx, er) = z at *
      refine G_seq (G_region ?_)
      refine Gv (V_lss rfl rfl rfl) ?_
      refine G_end (X_then (G_seq ?_))
      refine G_cond_t rfl (decide_eq_true (by omega)) ?_
      refine G_skip (X_then (G_seq (G_block (G_seq (G_region ?_)))))
      refine Gv (V_idxAddr rfl rfl rfl (SlE.rd (by assumption)) (by omega) (by omega)) ?_
      refine Gv (V_loadAS rfl rfl (SlE.rd (by assumption)) (by assumption) (by simp) (by rfl)) ?_
      (refine G_alloc rfl rfl rfl (.none rfl) ?_; intro b6)
      refine G_storeA rfl rfl rfl rfl (by simp [Value.oneCell']) rfl (.none rfl) (.head _ _ _) rfl ?_
      refine G_end (X_then (G_seq (G_region ?_)))
      refine Gv (V_loadA rfl rfl (Cells.own (.head _)) rfl) ?_
      refine G_call (k := 16) (.mk rfl rfl rfl rfl) rfl rfl (.none rfl) (htx _ _ hT) ?_
      rintro x2 E2 L2 hE2 ⟨rfl, rfl⟩
      refine Gm ?_
      refine Gv (V_extract rfl rfl rfl) ?_
      refine Gv (V_extract rfl rfl rfl) ?_
      refine Ga ?_
      refine Ga ?_
      refine G_end (X_then (G_seq (G_seq (G_region ?_))))
      refine Gm ?_
      refine Gv (V_neq rfl rfl rfl) ?_
      refine G_end (X_then ?_)
      refine G_cond_t rfl (decide_eq_true (by omega)) ?_
      refine G_seq (G_region ?_)
      refine Gm ?_
      refine Ga ?_
      refine Ga ?_
      refine G_end (X_then (G_ret (X_then_ret (X_block_ret (X_then_ret (X_then_ret (X_block_ret (X_then_ret ?_))))))))
      refine G_leaveS (.drop _ (.drop _ (.nil _))) (by exact (.cons (.tmp rfl) (.cons (.tmp rfl) (.nil)))) rfl ?_ ?_
      · exact (hE1.trans hE2)
      exact ⟨rfl, rfl⟩
  · rw [List.drop_eq_nil_of_le (by omega)] at he
    rw [List.take_of_length_le (by omega)] at ht
    have he0 : errL l = 0 := he
    rw [if_pos he0, ← ht]
    by_cases h2 : 20000 < t.xs.length
    · rw [if_pos h2]
      refine G_seq (G_region ?_)
      refine Gv (V_lss rfl rfl rfl) ?_
      refine G_end (X_then (G_seq ?_))
      refine G_cond_f rfl (decide_eq_false (by omega)) ?_
      refine G_exit (X_then_exit (X_then_exit (X_block_hit (X_then (G_seq (G_seq (G_region ?_)))))))
      refine G_callv (k := 58) (.mk rfl rfl rfl rfl) rfl rfl (.none rfl) (BLen_call _ _ _ _ (by omega)) ?_
      refine Gv (V_gtr rfl rfl rfl) ?_
      refine G_end (X_then ?_)
      refine G_cond_t rfl (decide_eq_true (by omega)) ?_
      refine G_seq (G_region ?_)
      refine Ga ?_
      refine Ga ?_
      refine G_end (X_then (G_ret (X_then_ret ?_)))
      refine G_leaveS (.drop _ (.nil _)) (by exact (.cons (.tmp rfl) (.cons (.tmp rfl) (.nil)))) rfl ?_ ?_
      · exact hE1
      exact ⟨(by kernel_rfl), rfl⟩
    · rw [if_neg h2]
      refine G_seq (G_region ?_)
      refine Gv (V_lss rfl rfl rfl) ?_
      refine G_end (X_then (G_seq ?_))
      refine G_cond_f rfl (decide_eq_false (by omega)) ?_
      refine G_exit (X_then_exit (X_then_exit (X_block_hit (X_then (G_seq (G_seq (G_region ?_)))))))
      refine G_callv (k := 58) (.mk rfl rfl rfl rfl) rfl rfl (.none rfl) (BLen_call _ _ _ _ (by omega)) ?_
      refine Gv (V_gtr rfl rfl rfl) ?_
      refine G_end (X_then ?_)
      refine G_cond_f rfl (decide_eq_false (by omega)) ?_
      refine G_skip (X_then (G_seq (G_region ?_)))
      refine G_call (k := 59) (.mk rfl rfl rfl rfl) rfl rfl (.none rfl) (BString_call _ _ _ _ (by omega)) ?_
      rintro r1 E2 L3 hE4 ⟨rfl, ⟨rfl, rfl⟩⟩
      replace hl := hl.mono hE4
      replace hT := hT.mono hE4
      refine Ga ?_
      refine Ga ?_
      refine G_end (X_then (G_ret ?_))
      refine G_leaveS (.nil _) (by exact (.cons (.tmp rfl) (.cons (.tmp rfl) (.nil)))) rfl ?_ ?_
      · exact hE1
      exact ⟨rfl, rfl⟩
theorem RList_call (p : Option Addr) (n c : Nat) (l : List Ev) (hl : SlE E 7 p n (evC l)) (hn : n ≤ 1000) : CallS Tryz.prog 19 #[.slice p n c] E L (fun r E' L' => r = .tuple #[.string (S (listM l).1), .int .i64 (listM l).2] ∧ L' = L) := by
  have en := hl.nEv
  subst en
  unfold listM
  refine CallS.intro (l := [_]) _ Tryz.func19 rfl Tryz.ntmps19 rfl ?_
  refine G_seq (G_region ?_)
  refine Ga ?_
  refine Ga ?_
  refine G_end (X_then (G_seq (G_seq (G_region ?_))))
  refine Ga ?_
  refine G_end (X_then (G_block ?_))
  refine G_loop (α := Nat × Env) (fun x => [(0, .slice p l.length c), (4, .int .i64 (x.1 : Nat))]) (fun x => x.2) (fun _ => L)
    (fun x => x.1 ≤ l.length ∧ E.Le x.2 ∧ errL l = errL (l.drop x.1)) (fun x => l.length - x.1) (0, E) ⟨Nat.zero_le _, .refl _, rfl⟩ ⟨rfl, rfl, trivial⟩ rfl rfl ?_
  rintro ⟨i, E1⟩ ⟨hi, hE1, he⟩
  simp only at hi hE1 he ⊢
  replace hl := hl.mono hE1
  by_cases hlt : i < l.length
  · have hx := evC_at (List.getElem?_eq_getElem hlt)
    have hd := errL_drop (List.getElem?_eq_getElem hlt)
    generalize l[i] = e at *
    obtain ⟨k, sy, pr, rc, pl, tx, er⟩ := e
    have hx2 : ((evC l).drop (((i : Nat) : Int).toNat * 7)).take 7 = [.int .i64 k, .int .i64 sy, .int .i64 pr, .int .i64 rc, .int .i64 pl, .string (S tx), .int .i64 er] := hx
    clear hx
    have hck := fun E0 L0 => RCheck_call' E0 L0 k sy pr rc pl tx er
    by_cases hc : chkE (k, sy, pr, rc, pl, tx, er) = 0
    · rw [if_pos hc] at hd
      rw [hc] at hck
      refine G_seq (G_seq (G_region ?_))
      refine Gm ?_
      refine Gm ?_
      refine Gv (V_lenS rfl rfl) ?_
      refine Gv (V_lss rfl rfl rfl) ?_
      refine G_end (X_then ?_)
      refine G_cond_t rfl (decide_eq_true (by omega)) ?_
      refine G_skip (X_then (G_seq (G_block (G_seq (G_region ?_)))))
      refine Gm ?_
      refine Gm ?_
      refine Gv (V_idxAddr rfl rfl rfl (SlE.rd (by assumption)) (by omega) (by omega)) ?_
      refine Gv (V_loadAS rfl rfl (SlE.rd (by assumption)) (by assumption) (by simp) (by rfl)) ?_
      refine G_call (k := 13) (.mk rfl rfl rfl rfl) rfl rfl (.none rfl) (hck _ _) ?_
      rintro x2 E2 L2 hE2 ⟨rfl, rfl⟩
      refine Ga ?_
      refine G_end (X_then (G_seq (G_region ?_)))
      refine Gm ?_
      refine Gv (V_neq rfl rfl rfl) ?_
      refine G_end (X_then ?_)
      refine G_cond_f rfl (by kernel_rfl) ?_
      refine G_skip (X_block (X_then (G_region ?_)))
      refine Gm ?_
      refine Gv (V_add_i64 rfl rfl rfl (by omega) (by omega)) ?_
      refine Ga ?_
      refine G_end (X_then ?_)
      exact G_again (i + 1, E2) ⟨hlt, hE1.trans hE2, by simp only; rw [he, hd]⟩ (by simp only; omega) ⟨rfl, rfl, trivial⟩ rfl rfl
    · rw [if_neg hc] at hd
      have hne : ¬ errL l = 0 := by rw [he, hd]; exact hc
      have hel : errL l = chkE (k, sy, pr, rc, pl, tx, er) := by rw [he, hd]
      rw [if_neg hne, hel]
      generalize chkE (k, sy, pr, rc, pl, tx, er) = z at *
      refine G_seq (G_seq (G_region ?_))
      refine Gm ?_
      refine Gm ?_
      refine Gv (V_lenS rfl rfl) ?_
      refine Gv (V_lss rfl rfl rfl) ?_
      refine G_end (X_then ?_)
      refine G_cond_t rfl (decide_eq_true (by omega)) ?_
      refine G_skip (X_then (G_seq (G_block (G_seq (G_region ?_)))))
      refine Gm ?_
      refine Gm ?_
      refine Gv (V_idxAddr rfl rfl rfl (SlE.rd (by assumption)) (by omega) (by omega)) ?_
      refine Gv (V_loadAS rfl rfl (SlE.rd (by assumption)) (by assumption) (by simp) (by rfl)) ?_
      refine G_call (k := 13) (.mk rfl rfl rfl rfl) rfl rfl (.none rfl) (hck _ _) ?_
      rintro x2 E2 L2 hE2 ⟨rfl, rfl⟩
      refine Ga ?_
      refine G_end (X_then (G_seq (G_region ?_)))
      refine Gm ?_
      refine Gv (V_neq rfl rfl rfl) ?_
      refine G_end (X_then ?_)
      refine G_cond_t rfl (decide_eq_true (by omega)) ?_
      refine G_seq (G_region ?_)
      refine Gm ?_
      refine Ga ?_
      refine Ga ?_
      refine G_end (X_then (G_ret (X_block_ret (X_then_ret (X_then_ret (X_block_ret (X_then_ret ?_)))))))
      refine G_leaveS (.nil _) (by exact (.cons (.tmp rfl) (.cons (.tmp rfl) (.nil)))) rfl ?_ ?_
      · exact (hE1.trans hE2)
      exact ⟨rfl, rfl⟩
  · rw [List.drop_eq_nil_of_le (by omega)] at he
    have he0 : errL l = 0 := he
    rw [if_pos he0]
    clear he
    have hll := listT_len he0
    refine G_seq (G_seq (G_region ?_))
    refine Gm ?_
    refine Gm ?_
    refine Gv (V_lenS rfl rfl) ?_
    refine Gv (V_lss rfl rfl rfl) ?_
    refine G_end (X_then ?_)
    refine G_cond_f rfl (decide_eq_false (by omega)) ?_
    refine G_exit (X_then_exit (X_then_exit (X_block_hit (X_then (G_seq (G_region ?_))))))
    refine Ga ?_
    refine G_end (X_then (G_seq (G_seq (G_region ?_))))
    refine Ga ?_
    refine G_end (X_then (G_block ?_))
    refine G_loop (α := Nat × Env) (fun x => [(0, .slice p l.length c), (6, .string (S (listT (l.take x.1)))), (7, .int .i64 (x.1 : Nat))]) (fun x => x.2) (fun _ => L)
      (fun x => x.1 ≤ l.length ∧ E1.Le x.2) (fun x => l.length - x.1) (0, E1) ⟨Nat.zero_le _, .refl _⟩ ⟨rfl, rfl, rfl, trivial⟩ rfl rfl ?_
    rintro ⟨j, E2⟩ ⟨hj, hE2⟩
    simp only at hj hE2 ⊢
    replace hl := hl.mono hE2
    have htot : (listT (l.take j)).length ≤ (listT l).length := by
      conv => rhs; rw [← List.take_append_drop j l, listT_append, List.length_append]
      omega
    by_cases hlt2 : j < l.length
    · by_cases hbig : (listT (l.take j)).length ≤ 20000
      · have hx := evC_at (List.getElem?_eq_getElem hlt2)
        have htk := List.take_succ_eq_append_getElem hlt2
        have hm := List.getElem_mem hlt2
        generalize l[j] = e at *
        have hc := errL_mem he0 e hm
        obtain ⟨k, sy, pr, rc, pl, tx, er⟩ := e
        have hx2 : ((evC l).drop (((j : Nat) : Int).toNat * 7)).take 7 = [.int .i64 k, .int .i64 sy, .int .i64 pr, .int .i64 rc, .int .i64 pl, .string (S tx), .int .i64 er] := hx
        clear hx
        have hwr := fun E0 L0 => Rwritten_call E0 L0 k sy pr rc pl tx er (ev_ok hc)
        have hel := evT_len (ev_ok hc)
        have hln := listT_snoc (l.take j) (k, sy, pr, rc, pl, tx, er)
        rw [← htk, ← List.append_assoc] at hln
        generalize evT (k, sy, pr, rc, pl, tx, er) = w at *
        generalize listT (l.take j) = o at *
        have h10 : ([10] : List UInt8).length = 1 := rfl
        have hw1 : (o ++ w).length = o.length + w.length := by simp
        refine G_seq (G_seq (G_region ?_))
        refine Gm ?_
        refine Gm ?_
        refine Gv (V_lenS rfl rfl) ?_
        refine Gv (V_lss rfl rfl rfl) ?_
        refine Gm ?_
        refine G.bool_t 26 rfl (decide_eq_true (by omega)) ?_
        refine Gy (V_move rfl rfl) ?_
        refine Gy (V_len rfl rfl) ?_
        refine Gy (V_leq rfl rfl rfl) ?_
        refine Gv (V_pick_t rfl rfl rfl) ?_
        refine G_end (X_then ?_)
        refine G_cond_t rfl (decide_eq_true (by omega)) ?_
        refine G_skip (X_then (G_seq (G_block (G_region ?_))))
        refine Gm ?_
        refine Gm ?_
        refine Gm ?_
        refine Gv (V_idxAddr rfl rfl rfl (SlE.rd (by assumption)) (by omega) (by omega)) ?_
        refine Gv (V_loadAS rfl rfl (SlE.rd (by assumption)) (by assumption) (by simp) (by rfl)) ?_
        refine G_call (k := 56) (.mk rfl rfl rfl rfl) rfl rfl (.none rfl) (hwr _ _) ?_
        rintro x3 E3 L3 hE3 ⟨rfl, rfl⟩
        refine Gv (V_cat rfl rfl rfl (by omega)) ?_
        refine Gv (V_cat rfl rfl rfl (by simp; omega)) ?_
        refine Ga ?_
        refine G_end (X_block (X_then (G_region ?_)))
        refine Gm ?_
        refine Gv (V_add_i64 rfl rfl rfl (by omega) (by omega)) ?_
        refine Ga ?_
        refine G_end (X_then ?_)
        rw [← hln]
        exact G_again (j + 1, E3) ⟨hlt2, hE2.trans hE3⟩ (by simp only; omega) ⟨rfl, rfl, rfl, trivial⟩ rfl rfl
      · have h20 : 20000 < (listT l).length := by omega
        rw [if_pos h20]
        generalize listT (l.take j) = o at *
        refine G_seq (G_seq (G_region ?_))
        refine Gm ?_
        refine Gm ?_
        refine Gv (V_lenS rfl rfl) ?_
        refine Gv (V_lss rfl rfl rfl) ?_
        refine Gm ?_
        refine G.bool_t 26 rfl (decide_eq_true (by omega)) ?_
        refine Gy (V_move rfl rfl) ?_
        refine Gy (V_len rfl rfl) ?_
        refine Gy (V_leq rfl rfl rfl) ?_
        refine Gv (V_pick_t rfl rfl rfl) ?_
        refine G_end (X_then ?_)
        refine G_cond_f rfl (decide_eq_false (by omega)) ?_
        refine G_exit (X_then_exit (X_then_exit (X_block_hit (X_then (G_seq (G_seq (G_region ?_)))))))
        refine Gm ?_
        refine Gv (V_len rfl rfl) ?_
        refine Gv (V_gtr rfl rfl rfl) ?_
        refine G_end (X_then ?_)
        refine G_cond_t rfl (decide_eq_true (by omega)) ?_
        refine G_seq (G_region ?_)
        refine Ga ?_
        refine Ga ?_
        refine G_end (X_then (G_ret (X_then_ret ?_)))
        refine G_leaveS (.nil _) (by exact (.cons (.tmp rfl) (.cons (.tmp rfl) (.nil)))) rfl ?_ ?_
        · exact (hE1.trans hE2)
        exact ⟨(by kernel_rfl), rfl⟩
    · rw [List.take_of_length_le (by omega)]
      generalize listT l = o at *
      by_cases h2 : 20000 < o.length
      · rw [if_pos h2]
        refine G_seq (G_seq (G_region ?_))
        refine Gm ?_
        refine Gm ?_
        refine Gv (V_lenS rfl rfl) ?_
        refine Gv (V_lss rfl rfl rfl) ?_
        refine Gm ?_
        refine G.bool_f 26 rfl (decide_eq_false (by omega)) ?_
        refine Gn ?_
        refine Gn ?_
        refine Gn ?_
        refine Gv (V_pick_f rfl rfl rfl) ?_
        refine G_end (X_then ?_)
        refine G_cond_f rfl rfl ?_
        refine G_exit (X_then_exit (X_then_exit (X_block_hit (X_then (G_seq (G_seq (G_region ?_)))))))
        refine Gm ?_
        refine Gv (V_len rfl rfl) ?_
        refine Gv (V_gtr rfl rfl rfl) ?_
        refine G_end (X_then ?_)
        refine G_cond_t rfl (decide_eq_true (by omega)) ?_
        refine G_seq (G_region ?_)
        refine Ga ?_
        refine Ga ?_
        refine G_end (X_then (G_ret (X_then_ret ?_)))
        refine G_leaveS (.nil _) (by exact (.cons (.tmp rfl) (.cons (.tmp rfl) (.nil)))) rfl ?_ ?_
        · exact (hE1.trans hE2)
        exact ⟨(by kernel_rfl), rfl⟩
      · rw [if_neg h2]
        refine G_seq (G_seq (G_region ?_))
        refine Gm ?_
        refine Gm ?_
        refine Gv (V_lenS rfl rfl) ?_
        refine Gv (V_lss rfl rfl rfl) ?_
        refine Gm ?_
        refine G.bool_f 26 rfl (decide_eq_false (by omega)) ?_
        refine Gn ?_
        refine Gn ?_
        refine Gn ?_
        refine Gv (V_pick_f rfl rfl rfl) ?_
        refine G_end (X_then ?_)
        refine G_cond_f rfl rfl ?_
        refine G_exit (X_then_exit (X_then_exit (X_block_hit (X_then (G_seq (G_seq (G_region ?_)))))))
        refine Gm ?_
        refine Gv (V_len rfl rfl) ?_
        refine Gv (V_gtr rfl rfl rfl) ?_
        refine G_end (X_then ?_)
        refine G_cond_f rfl (decide_eq_false (by omega)) ?_
        refine G_skip (X_then (G_seq (G_region ?_)))
        refine Gm ?_
        refine Ga ?_
        refine Ga ?_
        refine G_end (X_then (G_ret ?_))
        refine G_leaveS (.nil _) (by exact (.cons (.tmp rfl) (.cons (.tmp rfl) (.nil)))) rfl ?_ ?_
        · exact (hE1.trans hE2)
        exact ⟨rfl, rfl⟩
end
end Go.Proofs.YtjhehanknkonnaaGreatDoor
set_option linter.unusedSimpArgs false
set_option linter.unusedVariables false
set_option maxHeartbeats 2000000
set_option maxRecDepth 20000
namespace Go.Proofs.YtjhehanknkonnaaGreatDoor
open Go.RowKit
/-! Lists of events compared; light and even ones. -/
theorem ev_eq {k sy pr rc pl : Int} {tx : List UInt8} {er k' sy' pr' rc' pl' : Int} {tx' : List UInt8} {er' : Int} : ((k, sy, pr, rc, pl, tx, er) : Ev) = (k', sy', pr', rc', pl', tx', er') ↔ k = k' ∧ sy = sy' ∧ pr = pr' ∧ rc = rc' ∧ pl = pl' ∧ tx = tx' ∧ er = er' := by
  simp only [Prod.mk.injEq]
theorem evC_tx {l : List Ev} {k : Nat} {e : Ev} (h : l[k]? = some e) : (evC l)[((k : Nat) : Int).toNat * 7 + 5]? = some (.string (S e.tx)) := by
  have h1 := evC_get h
  rw [Int.toNat_natCast]
  have h2 := congrArg (fun x => x[5]?) h1
  simp only [List.getElem?_take, List.getElem?_drop] at h2
  simpa using h2
section
variable (E : Env) (L : List Res)
theorem same_call (p q : Option Addr) (n m c d : Nat) (a b : List Ev) (ha : SlE E 7 p n (evC a)) (hb : SlE E 7 q m (evC b)) (hn : n ≤ 1000000) (hm : m ≤ 1000000) : CallV Tryz.prog 22 #[.slice p n c, .slice q m d] E L (.bool (decide (a = b))) := by
  have e1 := ha.nEv
  have e2 := hb.nEv
  subst e1 e2
  refine CallS.toV (CallS.intro (l := [_, _]) _ Tryz.func22 rfl Tryz.ntmps22 rfl ?_)
  by_cases hl : a.length = b.length
  · refine G_seq ?_
    refine G_region ?_
    refine Ga ?_
    refine G_end (X_then (G_seq (G_seq (G_region ?_))))
    refine Gm ?_
    refine Gv (V_lenS rfl rfl) ?_
    refine Gm ?_
    refine Gv (V_lenS rfl rfl) ?_
    refine Gv (V_neq rfl rfl rfl) ?_
    refine G_end (X_then ?_)
    refine G_cond_f rfl (decide_eq_false (by omega)) ?_
    refine G_skip (X_then (G_seq (G_seq (G_region ?_))))
    refine Ga ?_
    refine G_end (X_then (G_block ?_))
    refine G_loop (α := Nat) (fun i => [(0, .slice p a.length c), (1, .slice q b.length d), (5, .int .i64 (i : Nat))]) (fun _ => E) (fun _ => L) (fun i => i ≤ a.length ∧ a.take i = b.take i) (fun i => a.length - i) 0 ⟨Nat.zero_le _, rfl⟩ ⟨rfl, rfl, rfl, trivial⟩ rfl rfl ?_
    rintro i ⟨hi, ht⟩
    by_cases hlt : i < a.length
    · have hx := evC_at (List.getElem?_eq_getElem hlt)
      have hy := evC_at (List.getElem?_eq_getElem (l := b) (i := i) (by omega))
      have ht1 := List.take_succ_eq_append_getElem hlt
      have ht2 := List.take_succ_eq_append_getElem (l := b) (i := i) (by omega)
      have hm1 := List.getElem?_eq_getElem hlt
      have hm2 := List.getElem?_eq_getElem (l := b) (i := i) (by omega)
      generalize a[i] = x at *
      generalize b[i]'(by omega) = y at *
      obtain ⟨k, sy, pr, rc, pl, tx, er⟩ := x
      obtain ⟨k', sy', pr', rc', pl', tx', er'⟩ := y
      have hx2 : ((evC a).drop (((i : Nat) : Int).toNat * 7)).take 7 = [.int .i64 k, .int .i64 sy, .int .i64 pr, .int .i64 rc, .int .i64 pl, .string (S tx), .int .i64 er] := hx
      have hy2 : ((evC b).drop (((i : Nat) : Int).toNat * 7)).take 7 = [.int .i64 k', .int .i64 sy', .int .i64 pr', .int .i64 rc', .int .i64 pl', .string (S tx'), .int .i64 er'] := hy
      clear hx hy
      by_cases he : k = k' ∧ sy = sy' ∧ pr = pr' ∧ rc = rc' ∧ pl = pl' ∧ tx = tx' ∧ er = er'
      · have hn : a.take (i + 1) = b.take (i + 1) := by rw [ht1, ht2, ht, ev_eq.2 he]
        clear ht1 ht2 hm1 hm2
        refine G_seq (G_seq (G_region ?_))
        refine Gm ?_
        refine Gm ?_
        refine Gv (V_lenS rfl rfl) ?_
        refine Gv (V_lss rfl rfl rfl) ?_
        refine G_end (X_then ?_)
        refine G_cond_t rfl (decide_eq_true (by omega)) ?_
        refine G_skip (X_then (G_seq (G_block (G_seq ?_))))
        refine G_draw mixed (by kernel_rfl) ?_
        refine Q_val (V_move rfl rfl) rfl rfl (.none rfl) ?_
        refine Q_val (V_move rfl rfl) rfl rfl (.none rfl) ?_
        refine Q_val (V_idxAddr rfl rfl rfl (SlE.rd (by assumption)) (by omega) (by omega)) rfl rfl (.none rfl) ?_
        refine Q_val (V_loadAS rfl rfl (SlE.rd (by assumption)) (by assumption) (by simp) (by rfl)) rfl rfl (.none rfl) ?_
        refine Q_val (V_move rfl rfl) rfl rfl (.none rfl) ?_
        refine Q_val (V_move rfl rfl) rfl rfl (.none rfl) ?_
        refine Q_val (V_idxAddr rfl rfl rfl (SlE.rd (by assumption)) (by omega) (by omega)) rfl rfl (.none rfl) ?_
        refine Q_val (V_loadAS rfl rfl (SlE.rd (by assumption)) (by assumption) (by simp) (by rfl)) rfl rfl (.none rfl) ?_
        refine Q_val (V_aneq_28 rfl rfl rfl) rfl rfl (.none rfl) ?_
        refine Q_end ?_
        refine X_then ?_
        refine G_cond_f rfl (by simp [*]; done) ?_
        refine G_skip (X_block (X_then (G_region ?_)))
        refine Gm ?_
        refine Gv (V_add_i64 rfl rfl rfl (by omega) (by omega)) ?_
        refine Ga ?_
        refine G_end (X_then ?_)
        exact G_again (i + 1) ⟨hlt, hn⟩ (by omega) ⟨rfl, rfl, rfl, trivial⟩ rfl rfl
      · have hne : a ≠ b := fun h => by
          rw [h, hm2] at hm1
          exact he (ev_eq.1 (Option.some.inj hm1).symm)
        rw [decide_eq_false hne]
        clear ht1 ht2 hm1 hm2
        refine G_seq (G_seq (G_region ?_))
        refine Gm ?_
        refine Gm ?_
        refine Gv (V_lenS rfl rfl) ?_
        refine Gv (V_lss rfl rfl rfl) ?_
        refine G_end (X_then ?_)
        refine G_cond_t rfl (decide_eq_true (by omega)) ?_
        refine G_skip (X_then (G_seq (G_block (G_seq ?_))))
        refine G_draw mixed (by kernel_rfl) ?_
        refine Q_val (V_move rfl rfl) rfl rfl (.none rfl) ?_
        refine Q_val (V_move rfl rfl) rfl rfl (.none rfl) ?_
        refine Q_val (V_idxAddr rfl rfl rfl (SlE.rd (by assumption)) (by omega) (by omega)) rfl rfl (.none rfl) ?_
        refine Q_val (V_loadAS rfl rfl (SlE.rd (by assumption)) (by assumption) (by simp) (by rfl)) rfl rfl (.none rfl) ?_
        refine Q_val (V_move rfl rfl) rfl rfl (.none rfl) ?_
        refine Q_val (V_move rfl rfl) rfl rfl (.none rfl) ?_
        refine Q_val (V_idxAddr rfl rfl rfl (SlE.rd (by assumption)) (by omega) (by omega)) rfl rfl (.none rfl) ?_
        refine Q_val (V_loadAS rfl rfl (SlE.rd (by assumption)) (by assumption) (by simp) (by rfl)) rfl rfl (.none rfl) ?_
        refine Q_val (V_aneq_28 rfl rfl rfl) rfl rfl (.none rfl) ?_
        refine Q_end ?_
        refine X_then ?_
        refine G_cond_t rfl (decide_eq_true (by omega)) ?_
        refine G_seq (G_region ?_)
        refine Ga ?_
        refine G_end (X_then (G_ret (X_block_ret (X_then_ret (X_then_ret (X_block_ret (X_then_ret ?_)))))))
        refine G_leaveS (.nil _) (by exact (.cons (.tmp rfl) (.nil))) rfl ?_ ?_
        · exact (.refl _)
        exact ⟨(by kernel_rfl), rfl⟩
    · have hab : a = b := by
        rw [List.take_of_length_le (by omega), List.take_of_length_le (by omega)] at ht
        exact ht
      rw [decide_eq_true hab]
      refine G_seq (G_seq (G_region ?_))
      refine Gm ?_
      refine Gm ?_
      refine Gv (V_lenS rfl rfl) ?_
      refine Gv (V_lss rfl rfl rfl) ?_
      refine G_end (X_then ?_)
      refine G_cond_f rfl (decide_eq_false (by omega)) ?_
      refine G_exit (X_then_exit (X_then_exit (X_block_hit (X_then (G_seq (G_region ?_))))))
      refine Ga ?_
      refine G_end (X_then (G_ret ?_))
      refine G_leaveS (.nil _) (by exact (.cons (.tmp rfl) (.nil))) rfl ?_ ?_
      · exact (.refl _)
      exact ⟨(by kernel_rfl), rfl⟩
  · have hne : a ≠ b := fun h => hl (by rw [h])
    rw [decide_eq_false hne]
    refine G_seq (G_region ?_)
    refine Ga ?_
    refine G_end (X_then (G_seq (G_seq (G_region ?_))))
    refine Gm ?_
    refine Gv (V_lenS rfl rfl) ?_
    refine Gm ?_
    refine Gv (V_lenS rfl rfl) ?_
    refine Gv (V_neq rfl rfl rfl) ?_
    refine G_end (X_then ?_)
    refine G_cond_t rfl (decide_eq_true (by omega)) ?_
    refine G_seq (G_region ?_)
    refine Ga ?_
    refine G_end (X_then (G_ret (X_then_ret ?_)))
    refine G_leaveS (.nil _) (by exact (.cons (.tmp rfl) (.nil))) rfl ?_ ?_
    · exact (.refl _)
    exact ⟨(by kernel_rfl), rfl⟩
abbrev LightP (l : List Ev) : Prop := l.length ≤ 60 ∧ ∀ e, e ∈ l → e.tx.length ≤ 100
theorem light_call (p : Option Addr) (n c : Nat) (l : List Ev) (hl : SlE E 7 p n (evC l)) (hn : n ≤ 9223372036854775807) : CallV Tryz.prog 9 #[.slice p n c] E L (.bool (decide (LightP l))) := by
  have e1 := hl.nEv
  subst e1
  refine CallS.toV (CallS.intro (l := [_]) _ Tryz.func9 rfl Tryz.ntmps9 rfl ?_)
  by_cases h60 : 60 < l.length
  · rw [decide_eq_false (fun h => by have := h.1; omega)]
    refine G_seq (G_region ?_)
    refine Ga ?_
    refine G_end (X_then (G_seq (G_seq (G_region ?_))))
    refine Gm ?_
    refine Gv (V_lenS rfl rfl) ?_
    refine Gv (V_gtr rfl rfl rfl) ?_
    refine G_end (X_then ?_)
    refine G_cond_t rfl (decide_eq_true (by omega)) ?_
    refine G_seq (G_region ?_)
    refine Ga ?_
    refine G_end (X_then (G_ret (X_then_ret ?_)))
    refine G_leaveS (.nil _) (by exact (.cons (.tmp rfl) (.nil))) rfl ?_ ?_
    · exact (.refl _)
    exact ⟨(by kernel_rfl), rfl⟩
  · refine G_seq ?_
    refine G_region ?_
    refine Ga ?_
    refine G_end (X_then (G_seq (G_seq (G_region ?_))))
    refine Gm ?_
    refine Gv (V_lenS rfl rfl) ?_
    refine Gv (V_gtr rfl rfl rfl) ?_
    refine G_end (X_then ?_)
    refine G_cond_f rfl (decide_eq_false (by omega)) ?_
    refine G_skip (X_then (G_seq (G_seq (G_region ?_))))
    refine Ga ?_
    refine G_end (X_then (G_block ?_))
    refine G_loop (α := Nat) (fun i => [(0, .slice p l.length c), (3, .int .i64 (i : Nat))]) (fun _ => E) (fun _ => L) (fun i => i ≤ l.length ∧ ∀ e, e ∈ l.take i → e.tx.length ≤ 100) (fun i => l.length - i) 0 ⟨Nat.zero_le _, fun e h => by simp at h⟩ ⟨rfl, rfl, trivial⟩ rfl rfl ?_
    rintro i ⟨hi, ht⟩
    by_cases hlt : i < l.length
    · have hx := evC_tx (List.getElem?_eq_getElem hlt)
      have ht1 := List.take_succ_eq_append_getElem hlt
      have hm := List.getElem_mem hlt
      generalize l[i] = x at *
      obtain ⟨k, sy, pr, rc, pl, tx, er⟩ := x
      have hx2 : (evC l)[((i : Nat) : Int).toNat * 7 + 5]? = some (.string (S tx)) := hx
      clear hx
      by_cases h100 : 100 < tx.length
      · rw [decide_eq_false (fun h => by have h2 : tx.length ≤ 100 := h.2 _ hm; omega)]
        refine G_seq (G_seq (G_region ?_))
        refine Gm ?_
        refine Gm ?_
        refine Gv (V_lenS rfl rfl) ?_
        refine Gv (V_lss rfl rfl rfl) ?_
        refine G_end (X_then ?_)
        refine G_cond_t rfl (decide_eq_true (by omega)) ?_
        refine G_skip (X_then (G_seq (G_block (G_seq (G_region ?_)))))
        refine Gm ?_
        refine Gm ?_
        refine Gv (V_idxAddr rfl rfl rfl (SlE.rd (by assumption)) (by omega) (by omega)) ?_
        refine Gv (V_fieldAddrE rfl rfl (by assumption) (by omega) (by decide)) ?_
        refine Gv (V_loadS rfl rfl (SlE.rd (by assumption)) (by assumption) (by simp)) ?_
        refine Gv (V_len rfl rfl) ?_
        refine Gv (V_gtr rfl rfl rfl) ?_
        refine G_end (X_then ?_)
        refine G_cond_t rfl (decide_eq_true (by omega)) ?_
        refine G_seq (G_region ?_)
        refine Ga ?_
        refine G_end (X_then (G_ret (X_block_ret (X_then_ret (X_then_ret (X_block_ret (X_then_ret ?_)))))))
        refine G_leaveS (.nil _) (by exact (.cons (.tmp rfl) (.nil))) rfl ?_ ?_
        · exact (.refl _)
        exact ⟨(by kernel_rfl), rfl⟩
      · have hnx : ∀ e, e ∈ l.take (i + 1) → e.tx.length ≤ 100 := fun e he => by
          rw [ht1, List.mem_append, List.mem_singleton] at he
          rcases he with he | rfl
          · exact ht e he
          · show tx.length ≤ 100; omega
        clear ht1
        refine G_seq (G_seq (G_region ?_))
        refine Gm ?_
        refine Gm ?_
        refine Gv (V_lenS rfl rfl) ?_
        refine Gv (V_lss rfl rfl rfl) ?_
        refine G_end (X_then ?_)
        refine G_cond_t rfl (decide_eq_true (by omega)) ?_
        refine G_skip (X_then (G_seq (G_block (G_seq (G_region ?_)))))
        refine Gm ?_
        refine Gm ?_
        refine Gv (V_idxAddr rfl rfl rfl (SlE.rd (by assumption)) (by omega) (by omega)) ?_
        refine Gv (V_fieldAddrE rfl rfl (by assumption) (by omega) (by decide)) ?_
        refine Gv (V_loadS rfl rfl (SlE.rd (by assumption)) (by assumption) (by simp)) ?_
        refine Gv (V_len rfl rfl) ?_
        refine Gv (V_gtr rfl rfl rfl) ?_
        refine G_end (X_then ?_)
        refine G_cond_f rfl (decide_eq_false (by omega)) ?_
        refine G_skip (X_block (X_then (G_region ?_)))
        refine Gm ?_
        refine Gv (V_add_i64 rfl rfl rfl (by omega) (by omega)) ?_
        refine Ga ?_
        refine G_end (X_then ?_)
        exact G_again (i + 1) ⟨hlt, hnx⟩ (by omega) ⟨rfl, rfl, trivial⟩ rfl rfl
    · rw [List.take_of_length_le (by omega)] at ht
      rw [decide_eq_true ⟨by omega, ht⟩]
      refine G_seq (G_seq (G_region ?_))
      refine Gm ?_
      refine Gm ?_
      refine Gv (V_lenS rfl rfl) ?_
      refine Gv (V_lss rfl rfl rfl) ?_
      refine G_end (X_then ?_)
      refine G_cond_f rfl (decide_eq_false (by omega)) ?_
      refine G_exit (X_then_exit (X_then_exit (X_block_hit (X_then (G_seq (G_region ?_))))))
      refine Ga ?_
      refine G_end (X_then (G_ret ?_))
      refine G_leaveS (.nil _) (by exact (.cons (.tmp rfl) (.nil))) rfl ?_ ?_
      · exact (.refl _)
      exact ⟨(by kernel_rfl), rfl⟩
abbrev EvenP (l : List Ev) : Prop := ∀ e, e ∈ l → some e = l.head?
theorem even_call (p : Option Addr) (n c : Nat) (l : List Ev) (hl : SlE E 7 p n (evC l)) (hn : n ≤ 9223372036854775807) : CallV Tryz.prog 10 #[.slice p n c] E L (.bool (decide (EvenP l))) := by
  have e1 := hl.nEv
  subst e1
  refine CallS.toV (CallS.intro (l := [_]) _ Tryz.func10 rfl Tryz.ntmps10 rfl ?_)
  refine G_seq (G_region ?_)
  refine Ga ?_
  refine G_end (X_then (G_seq (G_seq (G_region ?_))))
  refine Ga ?_
  refine G_end (X_then (G_block ?_))
  refine G_loop (α := Nat) (fun i => [(0, .slice p l.length c), (3, .int .i64 (i : Nat))]) (fun _ => E) (fun _ => L) (fun i => 1 ≤ i ∧ ∀ j x, j < i → l[j]? = some x → some x = l.head?) (fun i => l.length - i) 1 ⟨Nat.le_refl _, fun j x h hx => by
    obtain rfl : j = 0 := by omega
    rw [← hx, List.head?_eq_getElem?]⟩ ⟨rfl, rfl, trivial⟩ rfl rfl ?_
  rintro i ⟨hi, ht⟩
  by_cases hlt : i < l.length
  · have hx := evC_at (List.getElem?_eq_getElem hlt)
    have hy := evC_at (List.getElem?_eq_getElem (l := l) (i := 0) (by omega))
    have hm := List.getElem_mem hlt
    have hh : l.head? = some l[0] := by rw [List.head?_eq_getElem?, List.getElem?_eq_getElem]
    have hm1 := List.getElem?_eq_getElem hlt
    generalize l[i] = x at *
    generalize l[0]'(by omega) = y at *
    obtain ⟨k, sy, pr, rc, pl, tx, er⟩ := x
    obtain ⟨k', sy', pr', rc', pl', tx', er'⟩ := y
    have hx2 : ((evC l).drop (((i : Nat) : Int).toNat * 7)).take 7 = [.int .i64 k, .int .i64 sy, .int .i64 pr, .int .i64 rc, .int .i64 pl, .string (S tx), .int .i64 er] := hx
    have hy2 : ((evC l).drop ((0 : Int).toNat * 7)).take 7 = [.int .i64 k', .int .i64 sy', .int .i64 pr', .int .i64 rc', .int .i64 pl', .string (S tx'), .int .i64 er'] := hy
    clear hx hy
    by_cases he : k = k' ∧ sy = sy' ∧ pr = pr' ∧ rc = rc' ∧ pl = pl' ∧ tx = tx' ∧ er = er'
    · have hnx : ∀ j x, j < i + 1 → l[j]? = some x → some x = l.head? := fun j x hj hx => by
        by_cases hji : j = i
        · subst hji
          rw [hm1] at hx
          rw [← hx, hh, ev_eq.2 he]
        · exact ht j x (by omega) hx
      clear hm1 hh
      refine G_seq (G_seq (G_region ?_))
      refine Gm ?_
      refine Gm ?_
      refine Gv (V_lenS rfl rfl) ?_
      refine Gv (V_lss rfl rfl rfl) ?_
      refine G_end (X_then ?_)
      refine G_cond_t rfl (decide_eq_true (by omega)) ?_
      refine G_skip (X_then (G_seq (G_block (G_seq ?_))))
      refine G_draw mixed (by kernel_rfl) ?_
      refine Q_val (V_move rfl rfl) rfl rfl (.none rfl) ?_
      refine Q_val (V_move rfl rfl) rfl rfl (.none rfl) ?_
      refine Q_val (V_idxAddr rfl rfl rfl (SlE.rd (by assumption)) (by omega) (by omega)) rfl rfl (.none rfl) ?_
      refine Q_val (V_loadAS rfl rfl (SlE.rd (by assumption)) hx2 (by simp) (by rfl)) rfl rfl (.none rfl) ?_
      refine Q_val (V_move rfl rfl) rfl rfl (.none rfl) ?_
      refine Q_val (V_idxAddr rfl rfl rfl (SlE.rd (by assumption)) (by omega) (by omega)) rfl rfl (.none rfl) ?_
      refine Q_val (V_loadAS rfl rfl (SlE.rd (by assumption)) (by assumption) (by simp) (by rfl)) rfl rfl (.none rfl) ?_
      refine Q_val (V_aneq_28 rfl rfl rfl) rfl rfl (.none rfl) ?_
      refine Q_end ?_
      refine X_then ?_
      refine G_cond_f rfl (by simp [*]; done) ?_
      refine G_skip (X_block (X_then (G_region ?_)))
      refine Gm ?_
      refine Gv (V_add_i64 rfl rfl rfl (by omega) (by omega)) ?_
      refine Ga ?_
      refine G_end (X_then ?_)
      exact G_again (i + 1) ⟨by omega, hnx⟩ (by omega) ⟨rfl, rfl, trivial⟩ rfl rfl
    · have hne : ¬ EvenP l := fun h => by
        have := h _ hm
        rw [hh] at this
        exact he (ev_eq.1 (Option.some.inj this))
      rw [decide_eq_false hne]
      clear hm1 hh
      refine G_seq (G_seq (G_region ?_))
      refine Gm ?_
      refine Gm ?_
      refine Gv (V_lenS rfl rfl) ?_
      refine Gv (V_lss rfl rfl rfl) ?_
      refine G_end (X_then ?_)
      refine G_cond_t rfl (decide_eq_true (by omega)) ?_
      refine G_skip (X_then (G_seq (G_block (G_seq ?_))))
      refine G_draw mixed (by kernel_rfl) ?_
      refine Q_val (V_move rfl rfl) rfl rfl (.none rfl) ?_
      refine Q_val (V_move rfl rfl) rfl rfl (.none rfl) ?_
      refine Q_val (V_idxAddr rfl rfl rfl (SlE.rd (by assumption)) (by omega) (by omega)) rfl rfl (.none rfl) ?_
      refine Q_val (V_loadAS rfl rfl (SlE.rd (by assumption)) hx2 (by simp) (by rfl)) rfl rfl (.none rfl) ?_
      refine Q_val (V_move rfl rfl) rfl rfl (.none rfl) ?_
      refine Q_val (V_idxAddr rfl rfl rfl (SlE.rd (by assumption)) (by omega) (by omega)) rfl rfl (.none rfl) ?_
      refine Q_val (V_loadAS rfl rfl (SlE.rd (by assumption)) (by assumption) (by simp) (by rfl)) rfl rfl (.none rfl) ?_
      refine Q_val (V_aneq_28 rfl rfl rfl) rfl rfl (.none rfl) ?_
      refine Q_end ?_
      refine X_then ?_
      refine G_cond_t rfl (decide_eq_true (by omega)) ?_
      refine G_seq (G_region ?_)
      refine Ga ?_
      refine G_end (X_then (G_ret (X_block_ret (X_then_ret (X_then_ret (X_block_ret (X_then_ret ?_)))))))
      refine G_leaveS (.nil _) (by exact (.cons (.tmp rfl) (.nil))) rfl ?_ ?_
      · exact (.refl _)
      exact ⟨(by kernel_rfl), rfl⟩
  · have hall : EvenP l := fun e he => by
      obtain ⟨j, hj⟩ := List.mem_iff_getElem?.1 he
      have := (List.getElem?_eq_some_iff.1 hj).1
      exact ht j e (by omega) hj
    rw [decide_eq_true hall]
    refine G_seq (G_seq (G_region ?_))
    refine Gm ?_
    refine Gm ?_
    refine Gv (V_lenS rfl rfl) ?_
    refine Gv (V_lss rfl rfl rfl) ?_
    refine G_end (X_then ?_)
    refine G_cond_f rfl (decide_eq_false (by omega)) ?_
    refine G_exit (X_then_exit (X_then_exit (X_block_hit (X_then (G_seq (G_region ?_))))))
    refine Ga ?_
    refine G_end (X_then (G_ret ?_))
    refine G_leaveS (.nil _) (by exact (.cons (.tmp rfl) (.nil))) rfl ?_ ?_
    · exact (.refl _)
    exact ⟨(by kernel_rfl), rfl⟩
end
end Go.Proofs.YtjhehanknkonnaaGreatDoor
set_option linter.unusedSimpArgs false
set_option linter.unusedVariables false
set_option maxHeartbeats 2000000
set_option maxRecDepth 20000
namespace Go.Proofs.YtjhehanknkonnaaGreatDoor
open Go.RowKit
/-! The chapter's events; awake. -/
def shownL : List Ev := [(1, 0, 0, 3, 17, [], 0), (2, 16, 2, 0, 0, [], 0), (3, 1, 0, 0, 5, [97, 98], 0), (3, 0, 0, 0, 0, [], 0), (4, 16, 2, 0, 0, [], 0), (5, -1, 0, 0, 9, [], 23), (6, 0, 0, 3, 20, [], 0), (7, 0, 0, 0, 4, [], 5)]
def bytesL : List (List UInt8) := [[1, 3, 17], [2, 17, 2, 0], [3, 2, 2, 97, 98, 5], [3, 1, 0, 0], [4, 17, 2], [5, 0, 23, 9], [6, 3, 0, 20], [7, 5, 4]]
def textsL : List (List UInt8) := [[114, 101, 99, 111, 114, 100, 32, 51, 32, 49, 55], [101, 110, 116, 101, 114, 32, 49, 54, 32, 50, 32, 48], [116, 111, 107, 101, 110, 32, 49, 32, 54, 49, 54, 50, 32, 53], [116, 111, 107, 101, 110, 32, 48, 32, 45, 32, 48], [101, 120, 105, 116, 32, 49, 54, 32, 50], [101, 114, 114, 111, 114, 32, 45, 49, 32, 101, 120, 116, 114, 97, 32, 57], [101, 110, 100, 32, 51, 32, 111, 107, 32, 50, 48], [98, 97, 100, 32, 115, 104, 111, 114, 116, 32, 52]]
/-- What the chapter says of its i-th event. -/
structure ShowR (i : Nat) (e : Ev) (b t : List UInt8) : Prop where
  he : shownL[i]? = some e
  hbb : bytesL[i]? = some b
  htt : textsL[i]? = some t
  hb : byM e = (b, 0)
  ht : txM e = (t, 0)
  hp : parseM b = (e, 0, 0)
theorem show_fact : ∀ i : Fin 8, byM (shownL.getD i.val ev0) = (bytesL.getD i.val [], 0) ∧ txM (shownL.getD i.val ev0) = (textsL.getD i.val [], 0) ∧ parseM (bytesL.getD i.val []) = (shownL.getD i.val ev0, 0, 0) := by decide +kernel
theorem showR {i : Nat} (h : i < 8) : ∃ e b t, ShowR i e b t := by
  obtain ⟨h1, h2, h3⟩ := show_fact ⟨i, h⟩
  refine ⟨shownL.getD i ev0, bytesL.getD i [], textsL.getD i [], ?_, ?_, ?_, h1, h2, h3⟩
  · obtain rfl | rfl | rfl | rfl | rfl | rfl | rfl | rfl : i = 0 ∨ i = 1 ∨ i = 2 ∨ i = 3 ∨ i = 4 ∨ i = 5 ∨ i = 6 ∨ i = 7 := by omega
    all_goals rfl
  · obtain rfl | rfl | rfl | rfl | rfl | rfl | rfl | rfl : i = 0 ∨ i = 1 ∨ i = 2 ∨ i = 3 ∨ i = 4 ∨ i = 5 ∨ i = 6 ∨ i = 7 := by omega
    all_goals rfl
  · obtain rfl | rfl | rfl | rfl | rfl | rfl | rfl | rfl : i = 0 ∨ i = 1 ∨ i = 2 ∨ i = 3 ∨ i = 4 ∨ i = 5 ∨ i = 6 ∨ i = 7 := by omega
    all_goals rfl
section
variable (E : Env) (L : List Res)
theorem shown_call : CallS Tryz.prog 30 #[] E L (fun r E' L' => (∃ p c, r = .slice p 8 c ∧ SlE E' 7 p 8 (evC shownL) ∧ 8 ≤ c) ∧ L = L') := by
  refine CallS.intro (l := []) _ Tryz.func30 rfl Tryz.ntmps30 rfl ?_
  refine G_seq (G_region ?_)
  refine Ga ?_
  refine G_end (X_then (G_seq (G_region ?_)))
  refine Gv (V_build rfl rfl (by simp [fillV, setLs, setL, Value.cells]; rfl)) ?_
  refine Gv (V_build rfl rfl (by simp [fillV, setLs, setL, Value.cells]; rfl)) ?_
  refine Gv (V_build rfl rfl (by simp [fillV, setLs, setL, Value.cells]; rfl)) ?_
  refine Gv (V_build rfl rfl (by simp [fillV, setLs, setL, Value.cells]; rfl)) ?_
  refine Gv (V_build rfl rfl (by simp [fillV, setLs, setL, Value.cells]; rfl)) ?_
  refine Gv (V_build rfl rfl (by simp [fillV, setLs, setL, Value.cells]; rfl)) ?_
  refine Gv (V_build rfl rfl (by simp [fillV, setLs, setL, Value.cells]; rfl)) ?_
  refine Gv (V_build rfl rfl (by simp [fillV, setLs, setL, Value.cells]; rfl)) ?_
  (refine G_lit rfl rfl (by decide) (by simp [fillS, zeros, setLs, setL, Value.cells, List.range, List.range.loop]; rfl) rfl rfl (.none rfl) ?_; intro b9)
  refine Ga ?_
  refine G_end (X_then (G_ret ?_))
  refine G.freezeB (k := 8) (sz := 7) (.head _ _) rfl ?_
  intro E2 hE2 hz
  have hf : SlE E2 7 (some ⟨b9, 0, none⟩) 8 (evC shownL) := hz
  refine G_leaveS (.nil _) (by exact (.cons (.tmp rfl) (.nil))) rfl ?_ ?_
  · exact hE2
  exact ⟨⟨_, ⟨_, ⟨rfl, ⟨(by assumption), (by omega)⟩⟩⟩⟩, rfl⟩
theorem lbytes_call : CallS Tryz.prog 72 #[] E L (fun r E' L' => (∃ p c, r = .slice p 8 c ∧ SlE E' 1 p 8 (strs bytesL) ∧ 8 ≤ c) ∧ L = L') := by
  refine CallS.intro (l := []) _ Tryz.func72 rfl Tryz.ntmps72 rfl ?_
  refine G_seq (G_region ?_)
  refine Ga ?_
  refine G_end (X_then (G_seq (G_region ?_)))
  (refine G_lit rfl rfl (by decide) (by simp [fillS, zeros, setLs, setL, Value.cells, List.range, List.range.loop]; rfl) rfl rfl (.none rfl) ?_; intro b1)
  refine Ga ?_
  refine G_end (X_then (G_ret ?_))
  refine G.freezeB (k := 8) (sz := 1) (.head _ _) rfl ?_
  intro E2 hE2 hz
  have hf : SlE E2 1 (some ⟨b1, 0, none⟩) 8 (strs bytesL) := hz
  refine G_leaveS (.nil _) (by exact (.cons (.tmp rfl) (.nil))) rfl ?_ ?_
  · exact hE2
  exact ⟨⟨_, ⟨_, ⟨rfl, ⟨(by assumption), (by omega)⟩⟩⟩⟩, rfl⟩
theorem ltexts_call : CallS Tryz.prog 32 #[] E L (fun r E' L' => (∃ p c, r = .slice p 8 c ∧ SlE E' 1 p 8 (strs textsL) ∧ 8 ≤ c) ∧ L = L') := by
  refine CallS.intro (l := []) _ Tryz.func32 rfl Tryz.ntmps32 rfl ?_
  refine G_seq (G_region ?_)
  refine Ga ?_
  refine G_end (X_then (G_seq (G_region ?_)))
  (refine G_lit rfl rfl (by decide) (by simp [fillS, zeros, setLs, setL, Value.cells, List.range, List.range.loop]; rfl) rfl rfl (.none rfl) ?_; intro b1)
  refine Ga ?_
  refine G_end (X_then (G_ret ?_))
  refine G.freezeB (k := 8) (sz := 1) (.head _ _) rfl ?_
  intro E2 hE2 hz
  have hf : SlE E2 1 (some ⟨b1, 0, none⟩) 8 (strs textsL) := hz
  refine G_leaveS (.nil _) (by exact (.cons (.tmp rfl) (.nil))) rfl ?_ ?_
  · exact hE2
  exact ⟨⟨_, ⟨_, ⟨rfl, ⟨(by assumption), (by omega)⟩⟩⟩⟩, rfl⟩
theorem writes_call (hT : LaidW E) (i : Nat) (hi : i < 8) : CallS Tryz.prog 31 #[.int .i64 (i : Nat)] E L (fun r E' L' => r = .bool true ∧ L' = L) := by
  obtain ⟨e, b, t, hs⟩ := showR hi
  have hx := evC_at hs.he
  have hb1 := strs_get hs.hbb
  have ht1 := strs_get hs.htt
  have hbl : b.length ≤ 10 := by
    have : ∀ w, w ∈ bytesL → w.length ≤ 10 := by decide +kernel
    exact this b (List.mem_of_getElem? hs.hbb)
  have q1 := hs.hb
  have q2 := hs.ht
  have q3 := hs.hp
  clear hs
  obtain ⟨k, sy, pr, rc, pl, tx, er⟩ := e
  have hx2 : ((evC shownL).drop (((i : Nat) : Int).toNat * 7)).take 7 = [.int .i64 k, .int .i64 sy, .int .i64 pr, .int .i64 rc, .int .i64 pl, .string (S tx), .int .i64 er] := hx
  clear hx
  refine CallS.intro (l := [_]) _ Tryz.func31 rfl Tryz.ntmps31 rfl ?_
  refine G_seq (G_region ?_)
  refine Ga ?_
  refine G_end (X_then (G_seq (G_region ?_)))
  refine G_call (k := 30) (.mk rfl rfl rfl rfl) rfl rfl (.none rfl) (shown_call _ _) ?_
  rintro r1 E2 L3 hE4 ⟨⟨z5, ⟨z6, ⟨rfl, ⟨Z7, Z8⟩⟩⟩⟩, rfl⟩
  replace hT := hT.mono hE4
  refine Gm ?_
  refine Gv (V_idxAddr rfl rfl rfl (SlE.rd (by assumption)) (by omega) (by omega)) ?_
  refine Gv (V_loadAS rfl rfl (SlE.rd (by assumption)) (by assumption) (by simp) (by rfl)) ?_
  refine G_call (k := 14) (.mk rfl rfl rfl rfl) rfl rfl (.none rfl) (EvBytes_call _ _ _ _ _ _ _ _ _) ?_
  rintro r9 E10 L11 hE12 ⟨rfl, rfl⟩
  replace Z7 := Z7.mono hE12
  replace hT := hT.mono hE12
  refine Gm ?_
  refine Gv (V_extract rfl rfl rfl) ?_
  refine Gv (V_extract rfl rfl rfl) ?_
  refine Ga ?_
  refine Ga ?_
  refine G_end (X_then (G_seq (G_region ?_)))
  refine G_call (k := 30) (.mk rfl rfl rfl rfl) rfl rfl (.none rfl) (shown_call _ _) ?_
  rintro r13 E14 L15 hE16 ⟨⟨z17, ⟨z18, ⟨rfl, ⟨Z19, Z20⟩⟩⟩⟩, rfl⟩
  replace Z7 := Z7.mono hE16
  replace hT := hT.mono hE16
  refine Gm ?_
  refine Gv (V_idxAddr rfl rfl rfl (SlE.rd (by assumption)) (by omega) (by omega)) ?_
  refine Gv (V_loadAS rfl rfl (SlE.rd (by assumption)) (by assumption) (by simp) (by rfl)) ?_
  refine G_call (k := 16) (.mk rfl rfl rfl rfl) rfl rfl (.none rfl) (EvText_call _ _ (by assumption) _ _ _ _ _ _ _) ?_
  rintro r21 E22 L23 hE24 ⟨rfl, rfl⟩
  replace Z19 := Z19.mono hE24
  replace Z7 := Z7.mono hE24
  replace hT := hT.mono hE24
  refine Gm ?_
  refine Gv (V_extract rfl rfl rfl) ?_
  refine Gv (V_extract rfl rfl rfl) ?_
  refine Ga ?_
  refine Ga ?_
  refine G_end (X_then (G_seq (G_region ?_)))
  refine G_call (k := 72) (.mk rfl rfl rfl rfl) rfl rfl (.none rfl) (lbytes_call _ _) ?_
  rintro r25 E26 L27 hE28 ⟨⟨z29, ⟨z30, ⟨rfl, ⟨Z31, Z32⟩⟩⟩⟩, rfl⟩
  replace Z19 := Z19.mono hE28
  replace Z7 := Z7.mono hE28
  replace hT := hT.mono hE28
  refine Gm ?_
  refine Gv (V_idxAddr rfl rfl rfl (SlE.rd (by assumption)) (by omega) (by omega)) ?_
  refine Gv (V_loadS rfl rfl (SlE.rd (by assumption)) (by assumption) (by simp)) ?_
  refine G_call (k := 25) (.mk rfl rfl rfl rfl) rfl rfl (.none rfl) (EvParse_call _ _ _ (by omega)) ?_
  rintro r33 E34 L35 hE36 ⟨rfl, rfl⟩
  replace Z31 := Z31.mono hE36
  replace Z19 := Z19.mono hE36
  replace Z7 := Z7.mono hE36
  replace hT := hT.mono hE36
  refine Gm ?_
  refine Gv (V_extract rfl rfl rfl) ?_
  refine Gv (V_extract rfl rfl rfl) ?_
  (refine G_alloc rfl rfl rfl (.none rfl) ?_; intro b7)
  (refine G_alloc rfl rfl rfl (.none rfl) ?_; intro b8)
  refine G_storeA rfl rfl rfl rfl (by simp [Value.oneCell']) rfl (.none rfl) (.tail _ (.head _ _ _)) rfl ?_
  refine G_storeA rfl rfl rfl rfl (by simp [Value.oneCell']) rfl (.none rfl) (.head _ _ _) rfl ?_
  refine G_end (X_then (G_seq ?_))
  refine G_drawX 36 [(0, 0), (1, 0), (2, 0), (3, 0), (4, 3), (5, 0), (6, 1), (7, 1), (8, 0), (9, 0), (10, 0), (11, 0), (12, 0), (13, 0), (14, 0), (15, 0), (16, 3), (17, 0), (18, 1), (19, 1), (20, 0), (21, 0), (22, 0), (23, 1), (24, 0), (25, 0), (26, 0), (27, 0), (28, 1), (29, 3), (30, 0), (31, 1), (32, 1), (33, 0), (34, 0), (35, 0)] mixed (by kernel_rfl) ?_
  refine F_pure rfl (fun _ _ => V_move rfl rfl) rfl rfl (.none rfl) ?_
  refine F_pure rfl (fun _ _ => V_eql rfl rfl rfl) rfl rfl (.none rfl) ?_
  refine F_pure rfl (fun _ _ => V_move rfl rfl) rfl rfl (.none rfl) ?_
  refine GF.bool_t 35 rfl (by simp [*]; done) ?_
  refine F_pure rfl (fun _ _ => V_move rfl rfl) rfl rfl (.yes rfl rfl rfl rfl) ?_
  apply F_call (k := 72) rfl (.mk rfl rfl rfl rfl) rfl rfl (.yes rfl rfl rfl rfl)
  · (intro L0; refine CallS.mono (lbytes_call _ _) ?_; exact fun _ _ _ _ h => h)
  · (rintro L0 r E' L' ⟨⟨z37, ⟨z38, ⟨rfl, ⟨Z39, Z40⟩⟩⟩⟩, rfl⟩; exact ⟨rfl, ⟨⟨_, ⟨_, ⟨rfl, ⟨(by assumption), (by assumption)⟩⟩⟩⟩, rfl⟩⟩)
  rintro r41 E42 hE43 ⟨⟨z44, ⟨z45, ⟨rfl, ⟨Z46, Z47⟩⟩⟩⟩, _⟩
  replace Z31 := Z31.mono hE43
  replace Z19 := Z19.mono hE43
  replace Z7 := Z7.mono hE43
  replace hT := hT.mono hE43
  refine F_pure rfl (fun _ _ => V_move rfl rfl) rfl rfl (.yes rfl rfl rfl rfl) ?_
  refine F_loadE rfl (V_idxAddr rfl rfl rfl (SlE.rd (by assumption)) (by omega) (by omega)) rfl rfl (.yes rfl rfl rfl rfl) ?_
  refine F_loadE rfl (V_loadS rfl rfl (SlE.rd (by assumption)) (by assumption) (by simp)) rfl rfl (.yes rfl rfl rfl rfl) ?_
  refine F_pure rfl (fun _ _ => V_seql rfl rfl rfl) rfl rfl (.yes rfl rfl rfl rfl) ?_
  refine F_pure rfl (fun _ _ => V_pick_t rfl rfl rfl) rfl rfl (.none rfl) ?_
  refine F_pure rfl (fun _ _ => V_move rfl rfl) rfl rfl (.none rfl) ?_
  refine GF.bool_t 43 rfl (by simp [*]; done) ?_
  refine F_pure rfl (fun _ _ => V_move rfl rfl) rfl rfl (.yes rfl rfl rfl rfl) ?_
  refine F_pure rfl (fun _ _ => V_eql rfl rfl rfl) rfl rfl (.yes rfl rfl rfl rfl) ?_
  refine F_pure rfl (fun _ _ => V_pick_t rfl rfl rfl) rfl rfl (.none rfl) ?_
  refine F_pure rfl (fun _ _ => V_move rfl rfl) rfl rfl (.none rfl) ?_
  refine GF.bool_t 47 rfl (by simp [*]; done) ?_
  refine F_pure rfl (fun _ _ => V_move rfl rfl) rfl rfl (.yes rfl rfl rfl rfl) ?_
  apply F_call (k := 32) rfl (.mk rfl rfl rfl rfl) rfl rfl (.yes rfl rfl rfl rfl)
  · (intro L0; refine CallS.mono (ltexts_call _ _) ?_; exact fun _ _ _ _ h => h)
  · (rintro L0 r E' L' ⟨⟨z48, ⟨z49, ⟨rfl, ⟨Z50, Z51⟩⟩⟩⟩, rfl⟩; exact ⟨rfl, ⟨⟨_, ⟨_, ⟨rfl, ⟨(by assumption), (by assumption)⟩⟩⟩⟩, rfl⟩⟩)
  rintro r52 E53 hE54 ⟨⟨z55, ⟨z56, ⟨rfl, ⟨Z57, Z58⟩⟩⟩⟩, _⟩
  replace Z46 := Z46.mono hE54
  replace Z31 := Z31.mono hE54
  replace Z19 := Z19.mono hE54
  replace Z7 := Z7.mono hE54
  replace hT := hT.mono hE54
  refine F_pure rfl (fun _ _ => V_move rfl rfl) rfl rfl (.yes rfl rfl rfl rfl) ?_
  refine F_loadE rfl (V_idxAddr rfl rfl rfl (SlE.rd (by assumption)) (by omega) (by omega)) rfl rfl (.yes rfl rfl rfl rfl) ?_
  refine F_loadE rfl (V_loadS rfl rfl (SlE.rd (by assumption)) (by assumption) (by simp)) rfl rfl (.yes rfl rfl rfl rfl) ?_
  refine F_pure rfl (fun _ _ => V_seql rfl rfl rfl) rfl rfl (.yes rfl rfl rfl rfl) ?_
  refine F_pure rfl (fun _ _ => V_pick_t rfl rfl rfl) rfl rfl (.none rfl) ?_
  refine F_pure rfl (fun _ _ => V_move rfl rfl) rfl rfl (.none rfl) ?_
  refine GF.bool_t 55 rfl (by simp [*]; done) ?_
  refine F_load rfl (.head _) (V_loadA rfl rfl (Cells.own (.head _)) rfl) rfl rfl (.yes rfl rfl rfl rfl) ?_
  refine F_pure rfl (fun _ _ => V_build rfl rfl (by simp [fillV, setLs, setL, Value.cells]; rfl)) rfl rfl (.yes rfl rfl rfl rfl) ?_
  refine F_pure rfl (fun _ _ => V_aeql_36 rfl rfl rfl) rfl rfl (.yes rfl rfl rfl rfl) ?_
  refine F_pure rfl (fun _ _ => V_pick_t rfl rfl rfl) rfl rfl (.none rfl) ?_
  refine F_pure rfl (fun _ _ => V_move rfl rfl) rfl rfl (.none rfl) ?_
  refine GF.bool_t 60 rfl (by simp [*]; done) ?_
  refine F_load rfl (.tail _ (.head _)) (V_loadA rfl rfl (Cells.own (.head _)) rfl) rfl rfl (.yes rfl rfl rfl rfl) ?_
  apply F_call (k := 30) rfl (.mk rfl rfl rfl rfl) rfl rfl (.yes rfl rfl rfl rfl)
  · (intro L0; refine CallS.mono (shown_call _ _) ?_; exact fun _ _ _ _ h => h)
  · (rintro L0 r E' L' ⟨⟨z59, ⟨z60, ⟨rfl, ⟨Z61, Z62⟩⟩⟩⟩, rfl⟩; exact ⟨rfl, ⟨⟨_, ⟨_, ⟨rfl, ⟨(by assumption), (by assumption)⟩⟩⟩⟩, rfl⟩⟩)
  rintro r63 E64 hE65 ⟨⟨z66, ⟨z67, ⟨rfl, ⟨Z68, Z69⟩⟩⟩⟩, _⟩
  replace Z57 := Z57.mono hE65
  replace Z46 := Z46.mono hE65
  replace Z31 := Z31.mono hE65
  replace Z19 := Z19.mono hE65
  replace Z7 := Z7.mono hE65
  replace hT := hT.mono hE65
  refine F_pure rfl (fun _ _ => V_move rfl rfl) rfl rfl (.yes rfl rfl rfl rfl) ?_
  refine F_loadE rfl (V_idxAddr rfl rfl rfl (SlE.rd (by assumption)) (by omega) (by omega)) rfl rfl (.yes rfl rfl rfl rfl) ?_
  refine F_loadE rfl (V_loadAS rfl rfl (SlE.rd (by assumption)) (by assumption) (by simp) (by rfl)) rfl rfl (.yes rfl rfl rfl rfl) ?_
  refine F_pure rfl (fun _ _ => V_aeql_28 rfl rfl rfl) rfl rfl (.yes rfl rfl rfl rfl) ?_
  refine F_pure rfl (fun _ _ => V_pick_t rfl rfl rfl) rfl rfl (.none rfl) ?_
  refine F_pure rfl (fun _ _ => V_assign rfl rfl) rfl rfl (.none rfl) ?_
  (refine F_end (.nil _) ?_; dsimp only [List.drop])
  refine G_end (X_then (G_ret ?_))
  refine G_leaveS (.drop _ (.drop _ (.nil _))) (by exact (.cons (.tmp rfl) (.nil))) rfl ?_ ?_
  · exact ((((((((hE4.trans hE12).trans hE16).trans hE24).trans hE28).trans hE36).trans hE43).trans hE54).trans hE65)
  exact ⟨(by (simp [resVal, *]; done)), (by rfl)⟩
theorem EvCheck0_call : CallS Tryz.prog 12 #[.agg #[.int .i64 0, .int .i64 0, .int .i64 0, .int .i64 0, .int .i64 0, .string (S []), .int .i64 0]] E L (fun r E' L' => r = .int .i64 11 ∧ L' = L) := EvCheck_call E L 0 0 0 0 0 [] 0
theorem awake22_call (hT : LaidW E) : CallS Tryz.prog 11 #[] E L (fun r E' L' => r = .bool true ∧ L' = L) := by
  have h0 := fun E0 L0 (h : LaidW E0) => writes_call E0 L0 h 0 (by omega)
  have h2 := fun E0 L0 (h : LaidW E0) => writes_call E0 L0 h 2 (by omega)
  refine CallS.intro (l := []) _ Tryz.func11 rfl Tryz.ntmps11 rfl ?_
  refine G_seq (G_region ?_)
  refine Ga ?_
  refine G_end (X_then (G_seq (G_region ?_)))
  refine G_call (k := 31) (.mk rfl rfl rfl rfl) rfl rfl (.none rfl) (h0 _ _ hT) ?_
  rintro x1 E1 L1 hE1 ⟨rfl, rfl⟩
  replace hT := hT.mono hE1
  refine Gm ?_
  refine G_call (k := 31) (.mk rfl rfl rfl rfl) rfl rfl (.yes rfl rfl rfl rfl) (h2 _ _ hT) ?_
  rintro x2 E2 L2 hE2 ⟨rfl, rfl⟩
  refine Gv (V_pick_t rfl rfl rfl) ?_
  refine Gm ?_
  refine Gy (V_build rfl rfl (by simp [fillV, setLs, setL, Value.cells]; rfl)) ?_
  refine G_call (k := 12) (.mk rfl rfl rfl rfl) rfl rfl (.yes rfl rfl rfl rfl) (EvCheck0_call _ _) ?_
  rintro x3 E3 L3 hE3 ⟨rfl, rfl⟩
  refine Gy (V_eql rfl rfl rfl) ?_
  refine Gv (V_pick_t rfl rfl rfl) ?_
  refine Ga ?_
  refine G_end (X_then (G_ret ?_))
  refine G_leaveS (.nil _) (by exact (.cons (.tmp rfl) (.nil))) rfl ?_ ?_
  · exact ((hE1.trans hE2).trans hE3)
  exact ⟨(by kernel_rfl), rfl⟩
end
end Go.Proofs.YtjhehanknkonnaaGreatDoor
