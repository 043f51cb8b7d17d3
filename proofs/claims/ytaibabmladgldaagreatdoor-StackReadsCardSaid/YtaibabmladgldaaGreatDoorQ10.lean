/-
  Rules and contracts, packed: S32, S18, S27, S28, S29, T15, S33.
-/
import Derived.Test.YtaibabmladgldaaGreatDoorQ9
set_option maxHeartbeats 1000000
set_option linter.unusedSimpArgs false
set_option linter.unusedVariables false
set_option maxHeartbeats 2000000
set_option maxRecDepth 20000
namespace Go.Proofs.YtaibabmladgldaaGreatDoor
open Go.RowKit
/-! The law StackReads. -/
section
variable (E : Env) (L : List Res)
theorem StackReads_call (s : List UInt8) (hs : s.length ≤ 9223372036854775807) (hT : LaidS E) : CallS Tryz.prog 3 #[.string (S s)] E L (fun r E' L' => r = .bool true ∧ L' = L) := by
  refine CallS.intro (l := [_]) _ Tryz.func3 rfl Tryz.ntmps3 rfl ?_
  by_cases h : 600 < s.length
  · refine G_seq ?_
    refine G_region ?_
    refine Ga ?_
    refine G_end (X_then (G_seq (G_seq (G_region ?_))))
    refine Gm ?_
    refine Gv (V_len rfl rfl) ?_
    refine Gv (V_gtr rfl rfl rfl) ?_
    refine G_end (X_then ?_)
    refine G_cond_t rfl (decide_eq_true (by omega)) ?_
    refine G_seq (G_region ?_)
    refine G_call (k := 7) (.mk rfl rfl rfl rfl) rfl rfl (.none rfl) (awake25_call _ _) ?_
    rintro r1 E2 L3 hE4 ⟨rfl, rfl⟩
    replace hT := hT.mono hE4
    refine Ga ?_
    refine G_end (X_then (G_ret (X_then_ret ?_)))
    refine G_leaveS (.nil _) (by exact (.cons (.tmp rfl) (.nil))) rfl ?_ ?_
    · exact hE4
    exact ⟨(by kernel_rfl), rfl⟩
  · refine G_seq ?_
    refine G_region ?_
    refine Ga ?_
    refine G_end (X_then (G_seq (G_seq (G_region ?_))))
    refine Gm ?_
    refine Gv (V_len rfl rfl) ?_
    refine Gv (V_gtr rfl rfl rfl) ?_
    refine G_end (X_then ?_)
    refine G_cond_f rfl (decide_eq_false (by omega)) ?_
    refine G_skip (X_then (G_seq (G_region ?_)))
    refine Gm ?_
    refine G_call (k := 8) (.mk rfl rfl rfl rfl) rfl rfl (.none rfl) (SParse_call _ _ _ (by omega) (by assumption)) ?_
    rintro r1 E2 L3 hE4 ⟨⟨z5, ⟨z6, ⟨z7, ⟨rfl, ⟨Z8, ⟨Z9, Z10⟩⟩⟩⟩⟩⟩, rfl⟩
    replace hT := hT.mono hE4
    refine Gm ?_
    refine Gv (V_extract rfl rfl rfl) ?_
    refine Gv (V_extract rfl rfl rfl) ?_
    refine Ga ?_
    refine Ga ?_
    refine G_end (X_then (G_seq (G_region ?_)))
    refine Gm ?_
    refine G_call (k := 9) (.mk rfl rfl rfl rfl) rfl rfl (.none rfl) (RParse_call _ _ _ (by omega)) ?_
    rintro r11 E12 L13 hE14 ⟨⟨z15, ⟨z16, ⟨z17, ⟨rfl, ⟨Z18, ⟨Z19, Z20⟩⟩⟩⟩⟩⟩, rfl⟩
    replace Z8 := Z8.mono hE14
    replace hT := hT.mono hE14
    refine Gm ?_
    refine Gv (V_extract rfl rfl rfl) ?_
    refine Gv (V_extract rfl rfl rfl) ?_
    refine Ga ?_
    refine Ga ?_
    refine G_end (X_then (G_seq (G_region ?_)))
    refine Gm ?_
    refine Gm ?_
    refine G_callv (k := 10) (.mk rfl rfl rfl rfl) rfl rfl (.none rfl) (Same25_call _ _ _ _ _ _ _ _ _ _ (by assumption) (by assumption) (by omega) (by omega)) ?_
    refine Gm ?_
    refine G.bool_t 24 rfl (by simp [*]; done) ?_
    refine Gy (V_move rfl rfl) ?_
    refine Gy (V_move rfl rfl) ?_
    refine Gy (V_eql rfl rfl rfl) ?_
    refine Gv (V_pick_t rfl rfl rfl) ?_
    refine Gm ?_
    refine G.bool_t 29 rfl (decide_eq_true (by omega)) ?_
    refine G_call (k := 7) (.mk rfl rfl rfl rfl) rfl rfl (.yes rfl rfl rfl rfl) (awake25_call _ _) ?_
    rintro r21 E22 L23 hE24 ⟨rfl, rfl⟩
    replace Z18 := Z18.mono hE24
    replace Z8 := Z8.mono hE24
    replace hT := hT.mono hE24
    refine Gv (V_pick_t rfl rfl rfl) ?_
    refine Ga ?_
    refine G_end (X_then (G_ret ?_))
    refine G_leaveS (.nil _) (by exact (.cons (.tmp rfl) (.nil))) rfl ?_ ?_
    · exact ((hE4.trans hE14).trans hE24)
    exact ⟨(by kernel_rfl), rfl⟩
end
end Go.Proofs.YtaibabmladgldaaGreatDoor
set_option linter.unusedSimpArgs false
set_option linter.unusedVariables false
set_option maxHeartbeats 2000000
set_option maxRecDepth 20000
namespace Go.Proofs.YtaibabmladgldaaGreatDoor
open Go.RowKit
/-! stack.Path. -/
def pathM (g : Gr) (l : List Spt) : List Int × Int := if chkS g l ≠ 0 then ([], chkS g l) else (l.map fun s => leftP g.prods s.1, 0)
theorem in_row {g : Gr} {rows : List Row} (hrows : rows.map (·.2.2) = g.prods) {q d : Int} (h : ¬ outS g.prods (q, d)) : ∃ row : Row, rows[q.toNat]? = some row ∧ leftP g.prods q = row.2.2.1 ∧ rightP g.prods q = row.2.2.2 ∧ row.2.2 ∈ g.prods ∧ 0 ≤ q ∧ q.toNat < rows.length ∧ 0 ≤ d ∧ d ≤ row.2.2.2.length := by
  simp only [outS, not_or, Int.not_lt, Int.not_le] at h
  obtain ⟨h1, h2, h3, h4⟩ := h
  have hlen : g.prods.length = rows.length := by rw [← hrows]; simp
  obtain ⟨k, rfl⟩ : ∃ k : Nat, q = k := ⟨q.toNat, by omega⟩
  have hk : k < rows.length := by omega
  have hrow := List.getElem?_eq_getElem hk
  have hpk : g.prods[k]? = some rows[k].2.2 := by rw [← hrows, List.getElem?_map, hrow]; rfl
  have hr := rightP_eq hpk
  rw [hr] at h4
  exact ⟨rows[k], hrow, leftP_eq hpk, hr, List.mem_of_getElem? hpk, h1, hk, h3, h4⟩
section
variable (E : Env) (L : List Res) (gv : Value) (g : Gr) (hg : GrE E gv g) (hl : Light g) (p : Option Addr) (n c : Nat) (l : List Spt) (hs : SlE E 2 p n (spC l)) (hn : n ≤ 9223372036854775807)
include hg hl hs hn
theorem SPath_call : CallS Tryz.prog 17 #[gv, .slice p n c] E L (fun r E' L' => (∃ a n' c', r = .tuple #[.slice a n' c', .int .i64 (pathM g l).2] ∧ SlE E' 1 a n' (i64s (pathM g l).1) ∧ n' ≤ c' ∧ n' ≤ 1000) ∧ L' = L) := by
  have hch := fun L0 => SCheck_call E L0 gv g hg hl p n c l hs hn
  have hnil : SlE E 1 none 0 (i64s []) := SlE.nil
  have en := hs.nSp
  unfold pathM
  by_cases h : chkS g l ≠ 0
  · rw [if_pos h]
    generalize chkS g l = r at *
    obtain ⟨tp, tc, np, nc, pp, pc, rfl, ht, hn', _, k1, k2, k3⟩ := hg
    refine CallS.intro (l := [_, _]) _ Tryz.func17 rfl Tryz.ntmps17 rfl ?_
    refine G_seq (G_region ?_)
    (refine G_boxA rfl rfl rfl rfl (.none rfl) ?_; intro b2)
    refine Ga ?_
    refine Ga ?_
    refine G_end (X_then (G_seq (G_seq (G_region ?_))))
    refine Gv (V_loadA rfl rfl (Cells.own (.head _)) rfl) ?_
    refine Gm ?_
    refine G_callv (k := 23) (.mk rfl rfl rfl rfl) rfl rfl (.none rfl) (hch _) ?_
    refine Ga ?_
    refine G_end (X_then (G_seq (G_region ?_)))
    refine Gm ?_
    refine Gv (V_neq rfl rfl rfl) ?_
    refine G_end (X_then ?_)
    refine G_cond_t rfl (decide_eq_true (by omega)) ?_
    refine G_seq (G_region ?_)
    refine Gm ?_
    refine Ga ?_
    refine Ga ?_
    refine G_end (X_then (G_ret (X_then_ret ?_)))
    refine G_leaveS (.drop _ (.nil _)) (by exact (.cons (.tmp rfl) (.cons (.tmp rfl) (.nil)))) rfl ?_ ?_
    · exact (.refl _)
    exact ⟨⟨_, ⟨_, ⟨_, ⟨rfl, ⟨(by assumption), ⟨(by omega), (by omega)⟩⟩⟩⟩⟩⟩, rfl⟩
  have h0 : chkS g l = 0 := by omega
  have h64 := chkS_64 h0
  rw [if_neg h]
  have hin := chkS_in h0
  rw [h0] at hch
  obtain ⟨tp, tc, np, nc, pp, pc, rfl, ht, hn', ⟨rows, hrows, hps, hre⟩, k1, k2, k3⟩ := hg
  have hlen : g.prods.length = rows.length := by rw [← hrows]; simp
  have q3 := hl.p
  subst en
  refine CallS.intro (l := [_, _]) _ Tryz.func17 rfl Tryz.ntmps17 rfl ?_
  refine G_seq (G_region ?_)
  (refine G_boxA rfl rfl rfl rfl (.none rfl) ?_; intro b2)
  refine Ga ?_
  refine Ga ?_
  refine G_end (X_then (G_seq (G_seq (G_region ?_))))
  refine Gv (V_loadA rfl rfl (Cells.own (.head _)) rfl) ?_
  refine Gm ?_
  refine G_callv (k := 23) (.mk rfl rfl rfl rfl) rfl rfl (.none rfl) (hch _) ?_
  refine Ga ?_
  refine G_end (X_then (G_seq (G_region ?_)))
  refine Gm ?_
  refine Gv (V_neq rfl rfl rfl) ?_
  refine G_end (X_then ?_)
  refine G_cond_f rfl (by kernel_rfl) ?_
  refine G_skip (X_then (G_seq (G_region ?_)))
  (refine G_alloc rfl rfl rfl (.none rfl) ?_; intro b7)
  refine G_end (X_then (G_seq (G_seq (G_region ?_))))
  refine Gm ?_
  refine G_call (k := 35) (.mk rfl rfl rfl rfl) rfl rfl (.none rfl) (spots_call _ _ _ _ _) ?_
  rintro r1 E2 L3 hE4 ⟨z5, ⟨rfl, ⟨rfl, rfl⟩⟩⟩
  replace hnil := hnil.mono hE4
  replace ht := ht.mono hE4
  replace hn' := hn'.mono hE4
  replace hps := hps.mono hE4
  replace hre := hre.mono hE4
  replace hs := hs.mono hE4
  refine G_end (X_then (G_block ?_))
  refine G.nilSl 3 1 ?_
  refine G.front (.tail _ (.head _ _)) ?_
  refine G_rangeI (σ := Env × Option Addr × Nat × List Int) (enc := spEnc) rfl (iter_spots E z5 p _ c l hs (by omega)) (fun v => v.1)
    (fun v => .sl 3 1 v.2.1 v.2.2.2.length v.2.2.1 (i64s v.2.2.2) :: .blk b7 (.cells #[.slice v.2.1 v.2.2.2.length v.2.2.1] 37 (0, 0)) :: GB b2 g tp tc np nc pp pc :: L)
    (fun pre v => v.2.2.2 = pre.map (fun x => leftP g.prods x.1.1)) (fun _ _ _ => False) (E, none, 0, []) rfl rfl (.refl _) rfl (fun _ => rfl) ?_ ?_ ?_
  · rintro y D tm fn M pre ⟨⟨sp, sd⟩, j⟩ ⟨E1, a, ca, ts⟩ hpre hts hE
    obtain ⟨hx, hj, hlt⟩ := zip_pre hpre
    simp only at hx hj hts hE
    simp only [List.cons_append]
    dsimp only [spEnc]
    have hno := hin (sp, sd) (List.mem_of_getElem? hx)
    obtain ⟨row, r1, r2, r3, r4, r5, r6, r7, r8⟩ := in_row hrows hno
    replace hps := hps.mono hE
    have x1 := prows_left r1
    have htl : ts.length = pre.length := by rw [hts, List.length_map]
    obtain ⟨LM, hLM⟩ : ∃ X, L ++ M = X := ⟨_, rfl⟩
    rw [hLM]
    refine G_region ?_
    (refine G_alloc rfl rfl rfl (.none rfl) ?_; intro b9)
    refine G_storeA rfl rfl rfl rfl (by simp [Value.oneCell']) rfl (.none rfl) (.head _ _ _) rfl ?_
    refine G_end (X_then ?_)
    refine G_begin (.tail _ (.head _ _ _)) ?_
    refine G_block ?_
    refine G_drawX 11 [(0, 1), (1, 0), (2, 1), (3, 0), (4, 1), (5, 1), (6, 0), (7, 1), (8, 2), (9, 4), (10, 4)] mixed (by kernel_rfl) ?_
    refine F_load rfl (.tail _ (.tail _ (.tail _ (.tail _ (.head _))))) (V_load rfl rfl (Cell.own1 (.head _))) rfl rfl (.none rfl) ?_
    refine F_pure rfl (fun _ _ => V_fieldAddr rfl rfl (by decide)) rfl rfl (.none rfl) ?_
    refine F_load rfl (.tail _ (.tail _ (.tail _ (.tail _ (.tail _ (.head _)))))) (V_load rfl rfl (Cell.own (.head _) rfl)) rfl rfl (.none rfl) ?_
    refine F_pure rfl (fun _ _ => V_fieldAddr rfl rfl (by decide)) rfl rfl (.none rfl) ?_
    refine F_load rfl (.head _) (V_load rfl rfl (Cell.own (.head _) rfl)) rfl rfl (.none rfl) ?_
    refine F_loadE rfl (V_idxAddr rfl rfl rfl (SlE.rd (by assumption)) (by omega) (by omega)) rfl rfl (.none rfl) ?_
    refine F_pure rfl (fun _ _ => V_fieldAddrX rfl rfl (by assumption) (by omega) (by decide)) rfl rfl (.none rfl) ?_
    refine F_loadE rfl (V_loadS rfl rfl (SlE.rd (by assumption)) (by assumption) (by simp)) rfl rfl (.none rfl) ?_
    (refine F_litZ rfl rfl rfl (by decide) (by simp [fillS, zeros, setLs, setL, Value.cells, List.range, List.range.loop]; rfl) (by rfl) rfl rfl (.none rfl) ?_; intro b28 E28 hE28 hs28)
    replace hps := hps.mono hE28
    (refine F_appendT rfl rfl rfl rfl (by assumption) (by simp [Value.oneCell', strs, i64s]) (by omega) (by omega) rfl rfl (.none rfl) (fun _ _ => (.tail _ (.tail _ (.tail _ (.head _ _ _))))) ?_; intro a29 c29; refine ⟨_, (.drop (by kernel_rfl) (.drop (by kernel_rfl) (.drop (by kernel_rfl) (.drop (by kernel_rfl) (.drop (by kernel_rfl) (.nil)))))), ?_⟩)
    refine F_store1 rfl rfl rfl rfl rfl rfl rfl (.none rfl) (.tail _ (.tail _ (.tail _ (.tail _ (.head _ _ _))))) (.nil) ?_
    (refine F_end (.nil _) ?_; dsimp only [List.drop])
    refine G_end (X_block ?_)
    refine G.drop ?_
    rw [← hLM, ← r2]
    have zl : (ts ++ [leftP g.prods sp]).length = ts.length + 1 := by simp
    have zs : i64s ts ++ [Value.int .i64 (leftP g.prods sp)] = i64s (ts ++ [leftP g.prods sp]) := by simp [i64s]
    rw [zs, ← zl]
    exact G_rEnd (E28, a29, c29, ts ++ [leftP g.prods sp]) (by simp only [hts, List.map_append, List.map_cons, List.map_nil]) rfl hE28 rfl
  · rintro D ⟨E1, a, ca, ts⟩ hts hE
    simp only at hts hE ⊢
    have hts2 : ts = l.map (fun s => leftP g.prods s.1) := by rw [hts]; apply List.ext_getElem <;> simp
    have htl : ts.length = l.length := by rw [hts2, List.length_map]
    rw [← hts2]
    refine G.freezeSl (.tail _ (.head _ _)) ?_
    intro E2 hE2 hts3 hca
    refine X_block (X_then (G_seq (G_region ?_)))
    refine Gv (V_load rfl rfl (Cell.own1 (.tail _ (.head _)))) ?_
    refine Ga ?_
    refine Ga ?_
    refine G_end (X_then (G_ret ?_))
    refine G_leave_ms [D] ?_
    refine G_leaveS (.drop _ (.drop _ (.nil _))) (by exact (.cons (.tmp rfl) (.cons (.tmp rfl) (.nil)))) rfl ?_ ?_
    · exact (hE.trans hE2)
    exact ⟨⟨_, ⟨_, ⟨_, ⟨rfl, ⟨(by assumption), ⟨(by assumption), (by omega)⟩⟩⟩⟩⟩⟩, rfl⟩
  · rintro D q pre v hpre hv
    exact hv.elim
end
end Go.Proofs.YtaibabmladgldaaGreatDoor
set_option linter.unusedSimpArgs false
set_option linter.unusedVariables false
set_option maxHeartbeats 2000000
set_option maxRecDepth 20000
namespace Go.Proofs.YtaibabmladgldaaGreatDoor
open Go.RowKit
/-! stack.Rest. -/
/-- What a Spot has yet to come. -/
def restS (ps : List Pr) (s : Spt) : List Int := (rightP ps s.1).drop s.2.toNat
def restM (g : Gr) (l : List Spt) : List Int × Int := if chkS g l ≠ 0 then ([], chkS g l) else (l.reverse.flatMap (restS g.prods), 0)
theorem i64s_dropN (l : List Int) (d : Nat) : (i64s l).drop (d * 1) = i64s (l.drop d) := by simp [i64s, List.map_drop]
theorem rest_len {g : Gr} (hl : Light g) {l : List Spt} (hin : ∀ s, s ∈ l → ¬ outS g.prods s) : (l.flatMap (restS g.prods)).length ≤ 8 * l.length := by
  induction l with
  | nil => simp
  | cons s l ih =>
    have h1 := ih (fun x hx => hin x (.tail _ hx))
    have h2 : (restS g.prods s).length ≤ 8 := by
      have := hin s (.head _)
      obtain ⟨q, d⟩ := s
      simp only [outS, not_or, Int.not_lt, Int.not_le] at this
      obtain ⟨qn, rfl⟩ : ∃ k : Nat, q = k := ⟨q.toNat, by omega⟩
      have hqn : g.prods[qn]? = some g.prods[qn] := List.getElem?_eq_getElem (by omega)
      have h8 := hl.ps _ (List.mem_of_getElem? hqn)
      simp only [restS, rightP_eq hqn, List.length_drop]
      omega
    simp only [List.flatMap_cons, List.length_append, List.length_cons]
    omega
section
variable (E : Env) (L : List Res) (gv : Value) (g : Gr) (hg : GrE E gv g) (hl : Light g) (p : Option Addr) (n c : Nat) (l : List Spt) (hs : SlE E 2 p n (spC l)) (hn : n ≤ 9223372036854775807)
include hg hl hs hn
theorem SRest_call : CallS Tryz.prog 16 #[gv, .slice p n c] E L (fun r E' L' => (∃ a n' c', r = .tuple #[.slice a n' c', .int .i64 (restM g l).2] ∧ SlE E' 1 a n' (i64s (restM g l).1) ∧ n' ≤ c' ∧ n' ≤ 1000) ∧ L' = L) := by
  have hch := fun L0 => SCheck_call E L0 gv g hg hl p n c l hs hn
  have hnil : SlE E 1 none 0 (i64s []) := SlE.nil
  have en := hs.nSp
  unfold restM
  by_cases h : chkS g l ≠ 0
  · rw [if_pos h]
    generalize chkS g l = r at *
    obtain ⟨tp, tc, np, nc, pp, pc, rfl, ht, hn', _, k1, k2, k3⟩ := hg
    refine CallS.intro (l := [_, _]) _ Tryz.func16 rfl Tryz.ntmps16 rfl ?_
    refine G_seq (G_region ?_)
    (refine G_boxA rfl rfl rfl rfl (.none rfl) ?_; intro b2)
    (refine G_box1 rfl rfl rfl rfl rfl (.none rfl) ?_; intro b3)
    refine Ga ?_
    refine Ga ?_
    refine G_end (X_then (G_seq (G_seq (G_region ?_))))
    refine Gv (V_loadA rfl rfl (Cells.own (.tail _ (.head _))) rfl) ?_
    refine Gv (V_load rfl rfl (Cell.own1 (.head _))) ?_
    refine G_callv (k := 23) (.mk rfl rfl rfl rfl) rfl rfl (.none rfl) (hch _) ?_
    refine Ga ?_
    refine G_end (X_then (G_seq (G_region ?_)))
    refine Gm ?_
    refine Gv (V_neq rfl rfl rfl) ?_
    refine G_end (X_then ?_)
    refine G_cond_t rfl (decide_eq_true (by omega)) ?_
    refine G_seq (G_region ?_)
    refine Gm ?_
    refine Ga ?_
    refine Ga ?_
    refine G_end (X_then (G_ret (X_then_ret ?_)))
    refine G_leaveS (.drop _ (.drop _ (.nil _))) (by exact (.cons (.tmp rfl) (.cons (.tmp rfl) (.nil)))) rfl ?_ ?_
    · exact (.refl _)
    exact ⟨⟨_, ⟨_, ⟨_, ⟨rfl, ⟨(by assumption), ⟨(by omega), (by omega)⟩⟩⟩⟩⟩⟩, rfl⟩
  have h0 : chkS g l = 0 := by omega
  have h64 := chkS_64 h0
  rw [if_neg h]
  have hin := chkS_in h0
  rw [h0] at hch
  obtain ⟨tp, tc, np, nc, pp, pc, rfl, ht, hn', ⟨rows, hrows, hps, hre⟩, k1, k2, k3⟩ := hg
  have hlen : g.prods.length = rows.length := by rw [← hrows]; simp
  have q3 := hl.p
  subst en
  refine CallS.intro (l := [_, _]) _ Tryz.func16 rfl Tryz.ntmps16 rfl ?_
  refine G_seq (G_region ?_)
  (refine G_boxA rfl rfl rfl rfl (.none rfl) ?_; intro b2)
  (refine G_box1 rfl rfl rfl rfl rfl (.none rfl) ?_; intro b3)
  refine Ga ?_
  refine Ga ?_
  refine G_end (X_then (G_seq (G_seq (G_region ?_))))
  refine Gv (V_loadA rfl rfl (Cells.own (.tail _ (.head _))) rfl) ?_
  refine Gv (V_load rfl rfl (Cell.own1 (.head _))) ?_
  refine G_callv (k := 23) (.mk rfl rfl rfl rfl) rfl rfl (.none rfl) (hch _) ?_
  refine Ga ?_
  refine G_end (X_then (G_seq (G_region ?_)))
  refine Gm ?_
  refine Gv (V_neq rfl rfl rfl) ?_
  refine G_end (X_then ?_)
  refine G_cond_f rfl (by kernel_rfl) ?_
  refine G_skip (X_then (G_seq (G_region ?_)))
  (refine G_alloc rfl rfl rfl (.none rfl) ?_; intro b7)
  refine G_end (X_then (G_seq (G_seq (G_region ?_))))
  refine Gv (V_load rfl rfl (Cell.own1 (.tail _ (.head _)))) ?_
  refine G_call (k := 35) (.mk rfl rfl rfl rfl) rfl rfl (.none rfl) (spots_call _ _ _ _ _) ?_
  rintro r1 E2 L3 hE4 ⟨z5, ⟨rfl, ⟨rfl, rfl⟩⟩⟩
  replace hnil := hnil.mono hE4
  replace ht := ht.mono hE4
  replace hn' := hn'.mono hE4
  replace hps := hps.mono hE4
  replace hre := hre.mono hE4
  replace hs := hs.mono hE4
  refine G_end (X_then (G_block ?_))
  refine G.nilSl 3 1 ?_
  refine G.front (.tail _ (.head _ _)) ?_
  refine G_rangeI (σ := Env × Option Addr × Nat × List Int) (enc := spEnc) rfl (iter_spots E z5 p _ c l hs (by omega)) (fun v => v.1)
    (fun v => .sl 3 1 v.2.1 v.2.2.2.length v.2.2.1 (i64s v.2.2.2) :: .blk b7 (.cells #[.slice v.2.1 v.2.2.2.length v.2.2.1] 37 (0, 0)) :: .blk b3 (.cells #[.slice p l.length c] 23 (0, 0)) :: GB b2 g tp tc np nc pp pc :: L)
    (fun pre v => v.2.2.2 = (l.reverse.take pre.length).flatMap (restS g.prods)) (fun _ _ _ => False) (E, none, 0, []) (by simp) rfl (.refl _) rfl (fun _ => rfl) ?_ ?_ ?_
  · rintro y D tm fn M pre ⟨x0, j⟩ ⟨E1, a, ca, ts⟩ hpre hts hE
    obtain ⟨hx, hj, hlt⟩ := zip_pre hpre
    simp only at hx hj hts hE
    simp only [List.cons_append]
    dsimp only [spEnc]
    have hidx : l.length - 1 - pre.length < l.length := by omega
    have hxl := List.getElem?_eq_getElem hidx
    have htk : (l.reverse.take (pre.length + 1)).flatMap (restS g.prods) = (l.reverse.take pre.length).flatMap (restS g.prods) ++ restS g.prods l[l.length - 1 - pre.length] := by
      rw [List.take_succ_eq_append_getElem (by simpa using hlt), List.flatMap_append]
      simp [List.getElem_reverse]
    have htl8 : ts.length ≤ 512 := by
      rw [hts]
      have h1 := rest_len hl (l := l.reverse.take pre.length) (fun s hs => hin s (by have := List.mem_of_mem_take hs; simpa using this))
      have h2 : (l.reverse.take pre.length).length ≤ 64 := by rw [List.length_take, List.length_reverse]; omega
      omega
    have hno := hin _ (List.mem_of_getElem? hxl)
    generalize l[l.length - 1 - pre.length] = sx at *
    obtain ⟨sp, sd⟩ := sx
    have y1 : ((spC l).drop (((l.length : Int) - 1 - (j : Int)).toNat * 2)).take 2 = [.int .i64 sp, .int .i64 sd] := by
      rw [show ((l.length : Int) - 1 - (j : Int)).toNat = l.length - 1 - pre.length by omega]
      exact spC_get hxl
    obtain ⟨row, r1, r2, r3, r4, r5, r6, r7, r8⟩ := in_row hrows hno
    have h8 := hl.ps _ r4
    replace hps := hps.mono hE
    replace hre := hre.mono hE
    replace hs := hs.mono hE
    have x1 := prows_right r1
    have x2 := (hre.get r1).tail (l := sd.toNat) (c := row.2.1) (by omega) (hre.cap r1)
    rw [i64s_dropN] at x2
    have hrs : restS g.prods (sp, sd) = row.2.2.2.drop sd.toNat := by simp only [restS, r3]
    have x9 := i64s_one (row.2.2.2.drop sd.toNat)
    rw [hrs] at htk
    have hdl : (row.2.2.2.drop sd.toNat).length = row.2.2.2.length - sd.toNat := List.length_drop
    obtain ⟨LM, hLM⟩ : ∃ X, L ++ M = X := ⟨_, rfl⟩
    rw [hLM]
    refine G_region ?_
    refine Ga ?_
    refine G_end (X_then ?_)
    refine G_begin (.head _ _ _) ?_
    refine G_block (G_seq (G_region ?_))
    refine Gv (V_load rfl rfl (Cell.own1 (.tail _ (.tail _ (.tail _ (.tail _ (.head _))))))) ?_
    refine Gv (V_load rfl rfl (Cell.own1 (.tail _ (.tail _ (.tail _ (.tail _ (.head _))))))) ?_
    refine Gv (V_lenS rfl rfl) ?_
    refine Gv (V_sub_i64 rfl rfl rfl (by omega) (by omega)) ?_
    refine Gm ?_
    refine Gv (V_sub_i64 rfl rfl rfl (by omega) (by omega)) ?_
    refine Gv (V_idxAddr rfl rfl rfl (SlE.rd (by assumption)) (by omega) (by omega)) ?_
    refine Gv (V_loadAS rfl rfl (SlE.rd (by assumption)) (by assumption) (by simp) (by rfl)) ?_
    (refine G_alloc rfl rfl rfl (.none rfl) ?_; intro b9)
    refine G_storeA rfl rfl rfl rfl (by simp [Value.oneCell']) rfl (.none rfl) (.head _ _ _) rfl ?_
    refine G_end (X_then ?_)
    (refine G_drawT 11 mixed (by kernel_rfl) ?_; dsimp only [List.take, List.drop])
    refine Q_val (V_load rfl rfl (Cell.own1 (.tail _ (.tail _ (.tail _ (.tail _ (.head _))))))) rfl rfl (.none rfl) ?_
    refine Q_val (V_fieldAddr rfl rfl (by decide)) rfl rfl (.none rfl) ?_
    refine Q_val (V_load rfl rfl (Cell.own (.tail _ (.tail _ (.tail _ (.tail _ (.tail _ (.tail _ (.head _))))))) rfl)) rfl rfl (.none rfl) ?_
    refine Q_val (V_fieldAddr rfl rfl (by decide)) rfl rfl (.none rfl) ?_
    refine Q_val (V_load rfl rfl (Cell.own (.head _) rfl)) rfl rfl (.none rfl) ?_
    refine Q_val (V_idxAddr rfl rfl rfl (SlE.rd (by assumption)) (by omega) (by omega)) rfl rfl (.none rfl) ?_
    refine Q_val (V_fieldAddrE rfl rfl (by assumption) (by omega) (by decide)) rfl rfl (.none rfl) ?_
    refine Q_val (V_loadS rfl rfl (SlE.rd (by assumption)) (by assumption) (by simp)) rfl rfl (.none rfl) ?_
    refine Q_val (V_fieldAddr rfl rfl (by decide)) rfl rfl (.none rfl) ?_
    refine Q_val (V_load rfl rfl (Cell.own (.head _) rfl)) rfl rfl (.none rfl) ?_
    refine Q_val (V_slTail rfl rfl rfl (by omega) (by omega)) rfl rfl (.none rfl) ?_
    refine Q_endT ?_
    (refine G_append rfl rfl rfl (SlE.rd (by assumption)) (by assumption) (by omega) (by omega) rfl rfl (.none rfl) (fun _ _ => (.tail _ (.tail _ (.tail _ (.head _ _ _))))) ?_; intro a39 c39)
    refine G_store1 rfl rfl rfl rfl rfl rfl (.none rfl) (.tail _ (.tail _ (.tail _ (.tail _ (.head _ _ _))))) ?_
    refine G_end (X_block ?_)
    refine G.drop ?_
    rw [← hLM]
    have zl : (ts ++ row.2.2.2.drop sd.toNat).length = ts.length + (row.2.2.2.length - sd.toNat) := by rw [List.length_append, hdl]
    have zs : i64s ts ++ i64s (row.2.2.2.drop sd.toNat) = i64s (ts ++ row.2.2.2.drop sd.toNat) := by simp [i64s]
    rw [zs, ← zl]
    exact G_rEnd (E1, a39, c39, ts ++ row.2.2.2.drop sd.toNat) (by simp only [List.length_append, List.length_singleton]; rw [htk, hts]) rfl (.refl _) rfl
  · rintro D ⟨E1, a, ca, ts⟩ hts hE
    simp only at hts hE ⊢
    rw [List.length_zipIdx, List.take_of_length_le (by simp)] at hts
    have htl8 : ts.length ≤ 512 := by
      rw [hts]
      have h1 := rest_len hl (l := l.reverse) (fun s hs => hin s (by simpa using hs))
      rw [List.length_reverse] at h1
      omega
    rw [← hts]
    refine G.freezeSl (.tail _ (.head _ _)) ?_
    intro E2 hE2 hts3 hca
    refine X_block (X_then (G_seq (G_region ?_)))
    refine Gv (V_load rfl rfl (Cell.own1 (.tail _ (.head _)))) ?_
    refine Ga ?_
    refine Ga ?_
    refine G_end (X_then (G_ret ?_))
    refine G_leave_ms [D] ?_
    refine G_leaveS (.drop _ (.drop _ (.drop _ (.nil _)))) (by exact (.cons (.tmp rfl) (.cons (.tmp rfl) (.nil)))) rfl ?_ ?_
    · exact (hE.trans hE2)
    exact ⟨⟨_, ⟨_, ⟨_, ⟨rfl, ⟨(by assumption), ⟨(by assumption), (by omega)⟩⟩⟩⟩⟩⟩, rfl⟩
  · rintro D q pre v hpre hv
    exact hv.elim
end
end Go.Proofs.YtaibabmladgldaaGreatDoor
set_option linter.unusedSimpArgs false
set_option linter.unusedVariables false
set_option maxHeartbeats 2000000
set_option maxRecDepth 20000
namespace Go.Proofs.YtaibabmladgldaaGreatDoor
open Go.RowKit
/-! The law's calls on the chapter's examples. -/
section
variable (E : Env) (L : List Res)
theorem kpush1 (gv : Value) (hg : GrE E gv shG) : CallS Tryz.prog 11 #[gv, .slice none 0 0, .int .i64 0] E L (fun r E' L' => ∃ a n' c', r = .tuple #[.slice a n' c', .int .i64 0] ∧ SlE E' 2 a n' (spC [(0, 0)]) ∧ n' ≤ 1000 ∧ L' = L) := by
  have hs : SlE E 2 none 0 (spC []) := SlE.nil
  have hc : 0 ≤ 0 := Nat.le_refl _
  have hp : pushM shG ([]) 0 = ([(0, 0)], 0) := by decide +kernel
  refine CallS.mono (SPush_call E L gv shG hg shG_light none 0 0 ([]) hs (by omega) hc 0) ?_
  rintro r E' L' _ ⟨⟨a, n', c', h1, h2, _, h4⟩, h5⟩
  rw [hp] at h1 h2
  exact ⟨a, n', c', h1, h2, h4, h5⟩
theorem kpush2 (gv : Value) (hg : GrE E gv shG) : CallS Tryz.prog 11 #[gv, .slice none 0 0, .int .i64 2] E L (fun r E' L' => ∃ a n' c', r = .tuple #[.slice a n' c', .int .i64 11] ∧ SlE E' 2 a n' (spC []) ∧ n' ≤ 1000 ∧ L' = L) := by
  have hs : SlE E 2 none 0 (spC []) := SlE.nil
  have hc : 0 ≤ 0 := Nat.le_refl _
  have hp : pushM shG ([]) 2 = ([], 11) := by decide +kernel
  refine CallS.mono (SPush_call E L gv shG hg shG_light none 0 0 ([]) hs (by omega) hc 2) ?_
  rintro r E' L' _ ⟨⟨a, n', c', h1, h2, _, h4⟩, h5⟩
  rw [hp] at h1 h2
  exact ⟨a, n', c', h1, h2, h4, h5⟩
theorem kpush3 (gv : Value) (hg : GrE E gv shG) (p : Option Addr) (n c : Nat) (hs : SlE E 2 p n (spC (prs [0, 0]))) (hc : n ≤ c) : CallS Tryz.prog 11 #[gv, .slice p n c, .int .i64 2] E L (fun r E' L' => ∃ a n' c', r = .tuple #[.slice a n' c', .int .i64 11] ∧ SlE E' 2 a n' (spC []) ∧ n' ≤ 1000 ∧ L' = L) := by
  have hn := hs.nSp
  have hl : (prs [0, 0]).length = 1 := rfl
  have hp : pushM shG (prs [0, 0]) 2 = ([], 11) := by decide +kernel
  refine CallS.mono (SPush_call E L gv shG hg shG_light p n c (prs [0, 0]) hs (by omega) hc 2) ?_
  rintro r E' L' _ ⟨⟨a, n', c', h1, h2, _, h4⟩, h5⟩
  rw [hp] at h1 h2
  exact ⟨a, n', c', h1, h2, h4, h5⟩
theorem kmove1 (gv : Value) (hg : GrE E gv shG) (p : Option Addr) (n c : Nat) (hs : SlE E 2 p n (spC (prs [0, 0]))) (hc : n ≤ c) : CallS Tryz.prog 14 #[gv, .slice p n c] E L (fun r E' L' => ∃ a n' c', r = .tuple #[.slice a n' c', .int .i64 0] ∧ SlE E' 2 a n' (spC [(0, 1)]) ∧ n' ≤ 1000 ∧ L' = L) := by
  have hn := hs.nSp
  have hl : (prs [0, 0]).length = 1 := rfl
  have hp : moveM shG (prs [0, 0]) = ([(0, 1)], 0) := by decide +kernel
  refine CallS.mono (SMove_call E L gv shG hg shG_light p n c (prs [0, 0]) hs (by omega) hc) ?_
  rintro r E' L' _ ⟨⟨a, n', c', h1, h2, _, h4⟩, h5⟩
  rw [hp] at h1 h2
  exact ⟨a, n', c', h1, h2, h4, h5⟩
theorem kmove2 (gv : Value) (hg : GrE E gv shG) (p : Option Addr) (n c : Nat) (hs : SlE E 2 p n (spC (prs [0, 1]))) (hc : n ≤ c) : CallS Tryz.prog 14 #[gv, .slice p n c] E L (fun r E' L' => ∃ a n' c', r = .tuple #[.slice a n' c', .int .i64 10] ∧ SlE E' 2 a n' (spC []) ∧ n' ≤ 1000 ∧ L' = L) := by
  have hn := hs.nSp
  have hl : (prs [0, 1]).length = 1 := rfl
  have hp : moveM shG (prs [0, 1]) = ([], 10) := by decide +kernel
  refine CallS.mono (SMove_call E L gv shG hg shG_light p n c (prs [0, 1]) hs (by omega) hc) ?_
  rintro r E' L' _ ⟨⟨a, n', c', h1, h2, _, h4⟩, h5⟩
  rw [hp] at h1 h2
  exact ⟨a, n', c', h1, h2, h4, h5⟩
theorem kpop1 (gv : Value) (hg : GrE E gv shG) (p : Option Addr) (n c : Nat) (hs : SlE E 2 p n (spC (prs [0, 2, 2, 2]))) (hc : n ≤ c) : CallS Tryz.prog 15 #[gv, .slice p n c] E L (fun r E' L' => ∃ a n' c', r = .tuple #[.slice a n' c', .int .i64 0] ∧ SlE E' 2 a n' (spC [(0, 2)]) ∧ n' ≤ 1000 ∧ L' = L) := by
  have hn := hs.nSp
  have hl : (prs [0, 2, 2, 2]).length = 2 := rfl
  have hp : popM shG (prs [0, 2, 2, 2]) = ([(0, 2)], 0) := by decide +kernel
  refine CallS.mono (SPop_call E L gv shG hg shG_light p n c (prs [0, 2, 2, 2]) hs (by omega) hc) ?_
  rintro r E' L' _ ⟨⟨a, n', c', h1, h2, _, h4⟩, h5⟩
  rw [hp] at h1 h2
  exact ⟨a, n', c', h1, h2, h4, h5⟩
theorem kpop2 (gv : Value) (hg : GrE E gv shG) (p : Option Addr) (n c : Nat) (hs : SlE E 2 p n (spC (prs [0, 2]))) (hc : n ≤ c) : CallS Tryz.prog 15 #[gv, .slice p n c] E L (fun r E' L' => ∃ a c', r = .tuple #[.slice a 0 c', .int .i64 0] ∧ SlE E' 2 a 0 (spC []) ∧ L' = L) := by
  have hn := hs.nSp
  have hl : (prs [0, 2]).length = 1 := rfl
  have hp : popM shG (prs [0, 2]) = ([], 0) := by decide +kernel
  refine CallS.mono (SPop_call E L gv shG hg shG_light p n c (prs [0, 2]) hs (by omega) hc) ?_
  rintro r E' L' _ ⟨⟨a, n', c', h1, h2, _, h4⟩, h5⟩
  rw [hp] at h1 h2
  have h0 : n' = 0 := h2.nSp
  subst h0
  exact ⟨a, c', h1, h2, h5⟩
theorem kpop3 (gv : Value) (hg : GrE E gv shG) (p : Option Addr) (n c : Nat) (hs : SlE E 2 p n (spC (prs [0, 1]))) (hc : n ≤ c) : CallS Tryz.prog 15 #[gv, .slice p n c] E L (fun r E' L' => ∃ a n' c', r = .tuple #[.slice a n' c', .int .i64 10] ∧ SlE E' 2 a n' (spC []) ∧ n' ≤ 1000 ∧ L' = L) := by
  have hn := hs.nSp
  have hl : (prs [0, 1]).length = 1 := rfl
  have hp : popM shG (prs [0, 1]) = ([], 10) := by decide +kernel
  refine CallS.mono (SPop_call E L gv shG hg shG_light p n c (prs [0, 1]) hs (by omega) hc) ?_
  rintro r E' L' _ ⟨⟨a, n', c', h1, h2, _, h4⟩, h5⟩
  rw [hp] at h1 h2
  exact ⟨a, n', c', h1, h2, h4, h5⟩
theorem krest (gv : Value) (hg : GrE E gv shG) (p : Option Addr) (n c : Nat) (hs : SlE E 2 p n (spC (prs [0, 2, 2, 1]))) (hc : n ≤ c) : CallS Tryz.prog 16 #[gv, .slice p n c] E L (fun r E' L' => ∃ a n' c', r = .tuple #[.slice a n' c', .int .i64 0] ∧ SlE E' 1 a n' (i64s [16]) ∧ n' ≤ 1000 ∧ L' = L) := by
  have hn := hs.nSp
  have hl : (prs [0, 2, 2, 1]).length = 2 := rfl
  have hp : restM shG (prs [0, 2, 2, 1]) = ([16], 0) := by decide +kernel
  refine CallS.mono (SRest_call E L gv shG hg shG_light p n c (prs [0, 2, 2, 1]) hs (by omega)) ?_
  rintro r E' L' _ ⟨⟨a, n', c', h1, h2, _, h4⟩, h5⟩
  rw [hp] at h1 h2
  exact ⟨a, n', c', h1, h2, h4, h5⟩
theorem kpath (gv : Value) (hg : GrE E gv shG) (p : Option Addr) (n c : Nat) (hs : SlE E 2 p n (spC (prs [0, 2, 2, 1]))) (hc : n ≤ c) : CallS Tryz.prog 17 #[gv, .slice p n c] E L (fun r E' L' => ∃ a n' c', r = .tuple #[.slice a n' c', .int .i64 0] ∧ SlE E' 1 a n' (i64s [16, 17]) ∧ n' ≤ 1000 ∧ L' = L) := by
  have hn := hs.nSp
  have hl : (prs [0, 2, 2, 1]).length = 2 := rfl
  have hp : pathM shG (prs [0, 2, 2, 1]) = ([16, 17], 0) := by decide +kernel
  refine CallS.mono (SPath_call E L gv shG hg shG_light p n c (prs [0, 2, 2, 1]) hs (by omega)) ?_
  rintro r E' L' _ ⟨⟨a, n', c', h1, h2, _, h4⟩, h5⟩
  rw [hp] at h1 h2
  exact ⟨a, n', c', h1, h2, h4, h5⟩
theorem kparse1 (hT : LaidS E) : CallS Tryz.prog 8 #[.string (S [48, 58, 48, 50])] E L (fun r E' L' => ∃ a n' c', r = .tuple #[.slice a n' c', .int .i64 3] ∧ n' ≤ 1000 ∧ L' = L) := by
  have hp : parseM [48, 58, 48, 50] = ([], 3) := by decide +kernel
  refine CallS.mono (SParse_call E L [48, 58, 48, 50] (by decide) hT) ?_
  rintro r E' L' _ ⟨⟨a, n', c', h1, h2, _, h4⟩, h5⟩
  rw [hp] at h1
  exact ⟨a, n', c', h1, h4, h5⟩
theorem kparse2 (hT : LaidS E) : CallS Tryz.prog 8 #[.string (S [])] E L (fun r E' L' => ∃ a n' c', r = .tuple #[.slice a n' c', .int .i64 3] ∧ n' ≤ 1000 ∧ L' = L) := by
  have hp : parseM [] = ([], 3) := by decide +kernel
  refine CallS.mono (SParse_call E L [] (by decide) hT) ?_
  rintro r E' L' _ ⟨⟨a, n', c', h1, h2, _, h4⟩, h5⟩
  rw [hp] at h1
  exact ⟨a, n', c', h1, h4, h5⟩
theorem of_call' (p : Option Addr) (n c : Nat) (xs : List Int) (hx : SlE E 1 p n (i64s xs)) (hn : n ≤ 1000) :
    CallS Tryz.prog 13 #[.slice p n c] E L (fun r E' L' => ∃ a k c', r = .slice a k c' ∧ SlE E' 2 a k (spC (prs xs)) ∧ k ≤ c' ∧ k ≤ 1000 ∧ L' = L) := by
  refine CallS.mono (of_call E L p n c xs hx hn) ?_
  rintro r E' L' _ ⟨a, k, c', h1, h2, h3, h4⟩
  refine ⟨a, k, c', h1, h2, h3, ?_, h4⟩
  have := h2.nSp
  have := prs_len xs
  have := hx.nI
  omega
theorem kawaits : CallS Tryz.prog 18 #[.int .i64 0, .int .i64 0, .slice none 0 0] E L (fun r E' L' => r = .bool true ∧ L' = L) :=
  awaits25_call E L 0 0 none 0 0 [] SlE.nil (by omega) (by decide +kernel)
end
end Go.Proofs.YtaibabmladgldaaGreatDoor
set_option linter.unusedSimpArgs false
set_option linter.unusedVariables false
set_option maxHeartbeats 2000000
set_option maxRecDepth 20000
namespace Go.Proofs.YtaibabmladgldaaGreatDoor
open Go.RowKit
/-! The law StackKnown. -/
section
variable (E : Env) (L : List Res)
theorem StackKnown_call (hT : LaidS E) : CallS Tryz.prog 4 #[] E L (fun r E' L' => r = .bool true ∧ L' = L) := by
  refine CallS.intro (l := []) _ Tryz.func4 rfl Tryz.ntmps4 rfl ?_
  refine G_seq (G_region ?_)
  refine Ga ?_
  refine G_end (X_then (G_seq (G_region ?_)))
  refine G_call (k := 12) (.mk rfl rfl rfl rfl) rfl rfl (.none rfl) (shown25_call' _ _) ?_
  rintro r1 E2 L3 hE4 ⟨Z5, rfl⟩
  replace hT := hT.mono hE4
  refine G_call (k := 11) (.mk rfl rfl rfl rfl) rfl rfl (.none rfl) (kpush1 _ _ _ (by assumption)) ?_
  rintro r6 E7 L8 hE9 ⟨z10, ⟨z11, ⟨z12, ⟨rfl, ⟨Z13, ⟨Z14, rfl⟩⟩⟩⟩⟩⟩
  replace Z5 := Z5.mono hE9
  replace hT := hT.mono hE9
  refine Gm ?_
  refine Gv (V_extract rfl rfl rfl) ?_
  refine Gv (V_extract rfl rfl rfl) ?_
  refine Ga ?_
  refine Ga ?_
  refine G_end (X_then (G_seq (G_region ?_)))
  refine G_call (k := 12) (.mk rfl rfl rfl rfl) rfl rfl (.none rfl) (shown25_call' _ _) ?_
  rintro r15 E16 L17 hE18 ⟨Z19, rfl⟩
  replace Z13 := Z13.mono hE18
  replace Z5 := Z5.mono hE18
  replace hT := hT.mono hE18
  refine G_call (k := 11) (.mk rfl rfl rfl rfl) rfl rfl (.none rfl) (kpush2 _ _ _ (by assumption)) ?_
  rintro r20 E21 L22 hE23 ⟨z24, ⟨z25, ⟨z26, ⟨rfl, ⟨Z27, ⟨Z28, rfl⟩⟩⟩⟩⟩⟩
  replace Z19 := Z19.mono hE23
  replace Z13 := Z13.mono hE23
  replace Z5 := Z5.mono hE23
  replace hT := hT.mono hE23
  refine Gm ?_
  refine Gv (V_extract rfl rfl rfl) ?_
  refine Gv (V_extract rfl rfl rfl) ?_
  refine Ga ?_
  refine Ga ?_
  refine G_end (X_then (G_seq (G_region ?_)))
  refine G_call (k := 12) (.mk rfl rfl rfl rfl) rfl rfl (.none rfl) (shown25_call' _ _) ?_
  rintro r29 E30 L31 hE32 ⟨Z33, rfl⟩
  replace Z27 := Z27.mono hE32
  replace Z19 := Z19.mono hE32
  replace Z13 := Z13.mono hE32
  replace Z5 := Z5.mono hE32
  replace hT := hT.mono hE32
  (refine G_litZ rfl rfl (by decide) (by simp [fillS, zeros, setLs, setL, Value.cells, List.range, List.range.loop]; rfl) (by rfl) rfl rfl (.none rfl) ?_; intro b38 E38 hE38 hs38)
  replace Z33 := Z33.mono hE38
  replace Z27 := Z27.mono hE38
  replace Z19 := Z19.mono hE38
  replace Z13 := Z13.mono hE38
  replace Z5 := Z5.mono hE38
  replace hT := hT.mono hE38
  refine G_call (k := 13) (.mk rfl rfl rfl rfl) rfl rfl (.none rfl) (of_call' _ _ _ _ _ _ (by exact SlE.toI (by assumption) rfl) (by omega)) ?_
  rintro r34 E35 L36 hE37 ⟨z38, ⟨z39, ⟨z40, ⟨rfl, ⟨Z41, ⟨Z42, ⟨Z43, rfl⟩⟩⟩⟩⟩⟩⟩
  replace hs38 := hs38.mono hE37
  replace Z33 := Z33.mono hE37
  replace Z27 := Z27.mono hE37
  replace Z19 := Z19.mono hE37
  replace Z13 := Z13.mono hE37
  replace Z5 := Z5.mono hE37
  replace hT := hT.mono hE37
  refine G_call (k := 11) (.mk rfl rfl rfl rfl) rfl rfl (.none rfl) (kpush3 _ _ _ (by assumption) _ _ _ (by assumption) (by assumption)) ?_
  rintro r44 E45 L46 hE47 ⟨z48, ⟨z49, ⟨z50, ⟨rfl, ⟨Z51, ⟨Z52, rfl⟩⟩⟩⟩⟩⟩
  replace Z41 := Z41.mono hE47
  replace hs38 := hs38.mono hE47
  replace Z33 := Z33.mono hE47
  replace Z27 := Z27.mono hE47
  replace Z19 := Z19.mono hE47
  replace Z13 := Z13.mono hE47
  replace Z5 := Z5.mono hE47
  replace hT := hT.mono hE47
  refine Gm ?_
  refine Gv (V_extract rfl rfl rfl) ?_
  refine Gv (V_extract rfl rfl rfl) ?_
  refine Ga ?_
  refine Ga ?_
  refine G_end (X_then (G_seq (G_region ?_)))
  refine G_call (k := 12) (.mk rfl rfl rfl rfl) rfl rfl (.none rfl) (shown25_call' _ _) ?_
  rintro r53 E54 L55 hE56 ⟨Z57, rfl⟩
  replace Z51 := Z51.mono hE56
  replace Z41 := Z41.mono hE56
  replace hs38 := hs38.mono hE56
  replace Z33 := Z33.mono hE56
  replace Z27 := Z27.mono hE56
  replace Z19 := Z19.mono hE56
  replace Z13 := Z13.mono hE56
  replace Z5 := Z5.mono hE56
  replace hT := hT.mono hE56
  (refine G_litZ rfl rfl (by decide) (by simp [fillS, zeros, setLs, setL, Value.cells, List.range, List.range.loop]; rfl) (by rfl) rfl rfl (.none rfl) ?_; intro b45 E45 hE45 hs45)
  replace Z57 := Z57.mono hE45
  replace Z51 := Z51.mono hE45
  replace Z41 := Z41.mono hE45
  replace hs38 := hs38.mono hE45
  replace Z33 := Z33.mono hE45
  replace Z27 := Z27.mono hE45
  replace Z19 := Z19.mono hE45
  replace Z13 := Z13.mono hE45
  replace Z5 := Z5.mono hE45
  replace hT := hT.mono hE45
  refine G_call (k := 13) (.mk rfl rfl rfl rfl) rfl rfl (.none rfl) (of_call' _ _ _ _ _ _ (by exact SlE.toI (by assumption) rfl) (by omega)) ?_
  rintro r58 E59 L60 hE61 ⟨z62, ⟨z63, ⟨z64, ⟨rfl, ⟨Z65, ⟨Z66, ⟨Z67, rfl⟩⟩⟩⟩⟩⟩⟩
  replace hs45 := hs45.mono hE61
  replace Z57 := Z57.mono hE61
  replace Z51 := Z51.mono hE61
  replace Z41 := Z41.mono hE61
  replace hs38 := hs38.mono hE61
  replace Z33 := Z33.mono hE61
  replace Z27 := Z27.mono hE61
  replace Z19 := Z19.mono hE61
  replace Z13 := Z13.mono hE61
  replace Z5 := Z5.mono hE61
  replace hT := hT.mono hE61
  refine G_call (k := 14) (.mk rfl rfl rfl rfl) rfl rfl (.none rfl) (kmove1 _ _ _ (by assumption) _ _ _ (by assumption) (by assumption)) ?_
  rintro r68 E69 L70 hE71 ⟨z72, ⟨z73, ⟨z74, ⟨rfl, ⟨Z75, ⟨Z76, rfl⟩⟩⟩⟩⟩⟩
  replace Z65 := Z65.mono hE71
  replace hs45 := hs45.mono hE71
  replace Z57 := Z57.mono hE71
  replace Z51 := Z51.mono hE71
  replace Z41 := Z41.mono hE71
  replace hs38 := hs38.mono hE71
  replace Z33 := Z33.mono hE71
  replace Z27 := Z27.mono hE71
  replace Z19 := Z19.mono hE71
  replace Z13 := Z13.mono hE71
  replace Z5 := Z5.mono hE71
  replace hT := hT.mono hE71
  refine Gm ?_
  refine Gv (V_extract rfl rfl rfl) ?_
  refine Gv (V_extract rfl rfl rfl) ?_
  refine Ga ?_
  refine Ga ?_
  refine G_end (X_then (G_seq (G_region ?_)))
  refine G_call (k := 12) (.mk rfl rfl rfl rfl) rfl rfl (.none rfl) (shown25_call' _ _) ?_
  rintro r77 E78 L79 hE80 ⟨Z81, rfl⟩
  replace Z75 := Z75.mono hE80
  replace Z65 := Z65.mono hE80
  replace hs45 := hs45.mono hE80
  replace Z57 := Z57.mono hE80
  replace Z51 := Z51.mono hE80
  replace Z41 := Z41.mono hE80
  replace hs38 := hs38.mono hE80
  replace Z33 := Z33.mono hE80
  replace Z27 := Z27.mono hE80
  replace Z19 := Z19.mono hE80
  replace Z13 := Z13.mono hE80
  replace Z5 := Z5.mono hE80
  replace hT := hT.mono hE80
  (refine G_litZ rfl rfl (by decide) (by simp [fillS, zeros, setLs, setL, Value.cells, List.range, List.range.loop]; rfl) (by rfl) rfl rfl (.none rfl) ?_; intro b52 E52 hE52 hs52)
  replace Z81 := Z81.mono hE52
  replace Z75 := Z75.mono hE52
  replace Z65 := Z65.mono hE52
  replace hs45 := hs45.mono hE52
  replace Z57 := Z57.mono hE52
  replace Z51 := Z51.mono hE52
  replace Z41 := Z41.mono hE52
  replace hs38 := hs38.mono hE52
  replace Z33 := Z33.mono hE52
  replace Z27 := Z27.mono hE52
  replace Z19 := Z19.mono hE52
  replace Z13 := Z13.mono hE52
  replace Z5 := Z5.mono hE52
  replace hT := hT.mono hE52
  refine G_call (k := 13) (.mk rfl rfl rfl rfl) rfl rfl (.none rfl) (of_call' _ _ _ _ _ _ (by exact SlE.toI (by assumption) rfl) (by omega)) ?_
  rintro r82 E83 L84 hE85 ⟨z86, ⟨z87, ⟨z88, ⟨rfl, ⟨Z89, ⟨Z90, ⟨Z91, rfl⟩⟩⟩⟩⟩⟩⟩
  replace hs52 := hs52.mono hE85
  replace Z81 := Z81.mono hE85
  replace Z75 := Z75.mono hE85
  replace Z65 := Z65.mono hE85
  replace hs45 := hs45.mono hE85
  replace Z57 := Z57.mono hE85
  replace Z51 := Z51.mono hE85
  replace Z41 := Z41.mono hE85
  replace hs38 := hs38.mono hE85
  replace Z33 := Z33.mono hE85
  replace Z27 := Z27.mono hE85
  replace Z19 := Z19.mono hE85
  replace Z13 := Z13.mono hE85
  replace Z5 := Z5.mono hE85
  replace hT := hT.mono hE85
  refine G_call (k := 14) (.mk rfl rfl rfl rfl) rfl rfl (.none rfl) (kmove2 _ _ _ (by assumption) _ _ _ (by assumption) (by assumption)) ?_
  rintro r92 E93 L94 hE95 ⟨z96, ⟨z97, ⟨z98, ⟨rfl, ⟨Z99, ⟨Z100, rfl⟩⟩⟩⟩⟩⟩
  replace Z89 := Z89.mono hE95
  replace hs52 := hs52.mono hE95
  replace Z81 := Z81.mono hE95
  replace Z75 := Z75.mono hE95
  replace Z65 := Z65.mono hE95
  replace hs45 := hs45.mono hE95
  replace Z57 := Z57.mono hE95
  replace Z51 := Z51.mono hE95
  replace Z41 := Z41.mono hE95
  replace hs38 := hs38.mono hE95
  replace Z33 := Z33.mono hE95
  replace Z27 := Z27.mono hE95
  replace Z19 := Z19.mono hE95
  replace Z13 := Z13.mono hE95
  replace Z5 := Z5.mono hE95
  replace hT := hT.mono hE95
  refine Gm ?_
  refine Gv (V_extract rfl rfl rfl) ?_
  refine Gv (V_extract rfl rfl rfl) ?_
  refine Ga ?_
  refine Ga ?_
  refine G_end (X_then (G_seq (G_region ?_)))
  refine G_call (k := 12) (.mk rfl rfl rfl rfl) rfl rfl (.none rfl) (shown25_call' _ _) ?_
  rintro r101 E102 L103 hE104 ⟨Z105, rfl⟩
  replace Z99 := Z99.mono hE104
  replace Z89 := Z89.mono hE104
  replace hs52 := hs52.mono hE104
  replace Z81 := Z81.mono hE104
  replace Z75 := Z75.mono hE104
  replace Z65 := Z65.mono hE104
  replace hs45 := hs45.mono hE104
  replace Z57 := Z57.mono hE104
  replace Z51 := Z51.mono hE104
  replace Z41 := Z41.mono hE104
  replace hs38 := hs38.mono hE104
  replace Z33 := Z33.mono hE104
  replace Z27 := Z27.mono hE104
  replace Z19 := Z19.mono hE104
  replace Z13 := Z13.mono hE104
  replace Z5 := Z5.mono hE104
  replace hT := hT.mono hE104
  (refine G_litZ rfl rfl (by decide) (by simp [fillS, zeros, setLs, setL, Value.cells, List.range, List.range.loop]; rfl) (by rfl) rfl rfl (.none rfl) ?_; intro b59 E59 hE59 hs59)
  replace Z105 := Z105.mono hE59
  replace Z99 := Z99.mono hE59
  replace Z89 := Z89.mono hE59
  replace hs52 := hs52.mono hE59
  replace Z81 := Z81.mono hE59
  replace Z75 := Z75.mono hE59
  replace Z65 := Z65.mono hE59
  replace hs45 := hs45.mono hE59
  replace Z57 := Z57.mono hE59
  replace Z51 := Z51.mono hE59
  replace Z41 := Z41.mono hE59
  replace hs38 := hs38.mono hE59
  replace Z33 := Z33.mono hE59
  replace Z27 := Z27.mono hE59
  replace Z19 := Z19.mono hE59
  replace Z13 := Z13.mono hE59
  replace Z5 := Z5.mono hE59
  replace hT := hT.mono hE59
  refine G_call (k := 13) (.mk rfl rfl rfl rfl) rfl rfl (.none rfl) (of_call' _ _ _ _ _ _ (by exact SlE.toI (by assumption) rfl) (by omega)) ?_
  rintro r106 E107 L108 hE109 ⟨z110, ⟨z111, ⟨z112, ⟨rfl, ⟨Z113, ⟨Z114, ⟨Z115, rfl⟩⟩⟩⟩⟩⟩⟩
  replace hs59 := hs59.mono hE109
  replace Z105 := Z105.mono hE109
  replace Z99 := Z99.mono hE109
  replace Z89 := Z89.mono hE109
  replace hs52 := hs52.mono hE109
  replace Z81 := Z81.mono hE109
  replace Z75 := Z75.mono hE109
  replace Z65 := Z65.mono hE109
  replace hs45 := hs45.mono hE109
  replace Z57 := Z57.mono hE109
  replace Z51 := Z51.mono hE109
  replace Z41 := Z41.mono hE109
  replace hs38 := hs38.mono hE109
  replace Z33 := Z33.mono hE109
  replace Z27 := Z27.mono hE109
  replace Z19 := Z19.mono hE109
  replace Z13 := Z13.mono hE109
  replace Z5 := Z5.mono hE109
  replace hT := hT.mono hE109
  refine G_call (k := 15) (.mk rfl rfl rfl rfl) rfl rfl (.none rfl) (kpop1 _ _ _ (by assumption) _ _ _ (by assumption) (by assumption)) ?_
  rintro r116 E117 L118 hE119 ⟨z120, ⟨z121, ⟨z122, ⟨rfl, ⟨Z123, ⟨Z124, rfl⟩⟩⟩⟩⟩⟩
  replace Z113 := Z113.mono hE119
  replace hs59 := hs59.mono hE119
  replace Z105 := Z105.mono hE119
  replace Z99 := Z99.mono hE119
  replace Z89 := Z89.mono hE119
  replace hs52 := hs52.mono hE119
  replace Z81 := Z81.mono hE119
  replace Z75 := Z75.mono hE119
  replace Z65 := Z65.mono hE119
  replace hs45 := hs45.mono hE119
  replace Z57 := Z57.mono hE119
  replace Z51 := Z51.mono hE119
  replace Z41 := Z41.mono hE119
  replace hs38 := hs38.mono hE119
  replace Z33 := Z33.mono hE119
  replace Z27 := Z27.mono hE119
  replace Z19 := Z19.mono hE119
  replace Z13 := Z13.mono hE119
  replace Z5 := Z5.mono hE119
  replace hT := hT.mono hE119
  refine Gm ?_
  refine Gv (V_extract rfl rfl rfl) ?_
  refine Gv (V_extract rfl rfl rfl) ?_
  refine Ga ?_
  refine Ga ?_
  refine G_end (X_then (G_seq (G_region ?_)))
  refine G_call (k := 12) (.mk rfl rfl rfl rfl) rfl rfl (.none rfl) (shown25_call' _ _) ?_
  rintro r125 E126 L127 hE128 ⟨Z129, rfl⟩
  replace Z123 := Z123.mono hE128
  replace Z113 := Z113.mono hE128
  replace hs59 := hs59.mono hE128
  replace Z105 := Z105.mono hE128
  replace Z99 := Z99.mono hE128
  replace Z89 := Z89.mono hE128
  replace hs52 := hs52.mono hE128
  replace Z81 := Z81.mono hE128
  replace Z75 := Z75.mono hE128
  replace Z65 := Z65.mono hE128
  replace hs45 := hs45.mono hE128
  replace Z57 := Z57.mono hE128
  replace Z51 := Z51.mono hE128
  replace Z41 := Z41.mono hE128
  replace hs38 := hs38.mono hE128
  replace Z33 := Z33.mono hE128
  replace Z27 := Z27.mono hE128
  replace Z19 := Z19.mono hE128
  replace Z13 := Z13.mono hE128
  replace Z5 := Z5.mono hE128
  replace hT := hT.mono hE128
  (refine G_litZ rfl rfl (by decide) (by simp [fillS, zeros, setLs, setL, Value.cells, List.range, List.range.loop]; rfl) (by rfl) rfl rfl (.none rfl) ?_; intro b66 E66 hE66 hs66)
  replace Z129 := Z129.mono hE66
  replace Z123 := Z123.mono hE66
  replace Z113 := Z113.mono hE66
  replace hs59 := hs59.mono hE66
  replace Z105 := Z105.mono hE66
  replace Z99 := Z99.mono hE66
  replace Z89 := Z89.mono hE66
  replace hs52 := hs52.mono hE66
  replace Z81 := Z81.mono hE66
  replace Z75 := Z75.mono hE66
  replace Z65 := Z65.mono hE66
  replace hs45 := hs45.mono hE66
  replace Z57 := Z57.mono hE66
  replace Z51 := Z51.mono hE66
  replace Z41 := Z41.mono hE66
  replace hs38 := hs38.mono hE66
  replace Z33 := Z33.mono hE66
  replace Z27 := Z27.mono hE66
  replace Z19 := Z19.mono hE66
  replace Z13 := Z13.mono hE66
  replace Z5 := Z5.mono hE66
  replace hT := hT.mono hE66
  refine G_call (k := 13) (.mk rfl rfl rfl rfl) rfl rfl (.none rfl) (of_call' _ _ _ _ _ _ (by exact SlE.toI (by assumption) rfl) (by omega)) ?_
  rintro r130 E131 L132 hE133 ⟨z134, ⟨z135, ⟨z136, ⟨rfl, ⟨Z137, ⟨Z138, ⟨Z139, rfl⟩⟩⟩⟩⟩⟩⟩
  replace hs66 := hs66.mono hE133
  replace Z129 := Z129.mono hE133
  replace Z123 := Z123.mono hE133
  replace Z113 := Z113.mono hE133
  replace hs59 := hs59.mono hE133
  replace Z105 := Z105.mono hE133
  replace Z99 := Z99.mono hE133
  replace Z89 := Z89.mono hE133
  replace hs52 := hs52.mono hE133
  replace Z81 := Z81.mono hE133
  replace Z75 := Z75.mono hE133
  replace Z65 := Z65.mono hE133
  replace hs45 := hs45.mono hE133
  replace Z57 := Z57.mono hE133
  replace Z51 := Z51.mono hE133
  replace Z41 := Z41.mono hE133
  replace hs38 := hs38.mono hE133
  replace Z33 := Z33.mono hE133
  replace Z27 := Z27.mono hE133
  replace Z19 := Z19.mono hE133
  replace Z13 := Z13.mono hE133
  replace Z5 := Z5.mono hE133
  replace hT := hT.mono hE133
  refine G_call (k := 15) (.mk rfl rfl rfl rfl) rfl rfl (.none rfl) (kpop2 _ _ _ (by assumption) _ _ _ (by assumption) (by assumption)) ?_
  rintro r140 E141 L142 hE143 ⟨z144, ⟨z145, ⟨rfl, ⟨Z146, rfl⟩⟩⟩⟩
  replace Z137 := Z137.mono hE143
  replace hs66 := hs66.mono hE143
  replace Z129 := Z129.mono hE143
  replace Z123 := Z123.mono hE143
  replace Z113 := Z113.mono hE143
  replace hs59 := hs59.mono hE143
  replace Z105 := Z105.mono hE143
  replace Z99 := Z99.mono hE143
  replace Z89 := Z89.mono hE143
  replace hs52 := hs52.mono hE143
  replace Z81 := Z81.mono hE143
  replace Z75 := Z75.mono hE143
  replace Z65 := Z65.mono hE143
  replace hs45 := hs45.mono hE143
  replace Z57 := Z57.mono hE143
  replace Z51 := Z51.mono hE143
  replace Z41 := Z41.mono hE143
  replace hs38 := hs38.mono hE143
  replace Z33 := Z33.mono hE143
  replace Z27 := Z27.mono hE143
  replace Z19 := Z19.mono hE143
  replace Z13 := Z13.mono hE143
  replace Z5 := Z5.mono hE143
  replace hT := hT.mono hE143
  refine Gm ?_
  refine Gv (V_extract rfl rfl rfl) ?_
  refine Gv (V_extract rfl rfl rfl) ?_
  refine Ga ?_
  refine Ga ?_
  refine G_end (X_then (G_seq (G_region ?_)))
  refine G_call (k := 12) (.mk rfl rfl rfl rfl) rfl rfl (.none rfl) (shown25_call' _ _) ?_
  rintro r147 E148 L149 hE150 ⟨Z151, rfl⟩
  replace Z146 := Z146.mono hE150
  replace Z137 := Z137.mono hE150
  replace hs66 := hs66.mono hE150
  replace Z129 := Z129.mono hE150
  replace Z123 := Z123.mono hE150
  replace Z113 := Z113.mono hE150
  replace hs59 := hs59.mono hE150
  replace Z105 := Z105.mono hE150
  replace Z99 := Z99.mono hE150
  replace Z89 := Z89.mono hE150
  replace hs52 := hs52.mono hE150
  replace Z81 := Z81.mono hE150
  replace Z75 := Z75.mono hE150
  replace Z65 := Z65.mono hE150
  replace hs45 := hs45.mono hE150
  replace Z57 := Z57.mono hE150
  replace Z51 := Z51.mono hE150
  replace Z41 := Z41.mono hE150
  replace hs38 := hs38.mono hE150
  replace Z33 := Z33.mono hE150
  replace Z27 := Z27.mono hE150
  replace Z19 := Z19.mono hE150
  replace Z13 := Z13.mono hE150
  replace Z5 := Z5.mono hE150
  replace hT := hT.mono hE150
  (refine G_litZ rfl rfl (by decide) (by simp [fillS, zeros, setLs, setL, Value.cells, List.range, List.range.loop]; rfl) (by rfl) rfl rfl (.none rfl) ?_; intro b73 E73 hE73 hs73)
  replace Z151 := Z151.mono hE73
  replace Z146 := Z146.mono hE73
  replace Z137 := Z137.mono hE73
  replace hs66 := hs66.mono hE73
  replace Z129 := Z129.mono hE73
  replace Z123 := Z123.mono hE73
  replace Z113 := Z113.mono hE73
  replace hs59 := hs59.mono hE73
  replace Z105 := Z105.mono hE73
  replace Z99 := Z99.mono hE73
  replace Z89 := Z89.mono hE73
  replace hs52 := hs52.mono hE73
  replace Z81 := Z81.mono hE73
  replace Z75 := Z75.mono hE73
  replace Z65 := Z65.mono hE73
  replace hs45 := hs45.mono hE73
  replace Z57 := Z57.mono hE73
  replace Z51 := Z51.mono hE73
  replace Z41 := Z41.mono hE73
  replace hs38 := hs38.mono hE73
  replace Z33 := Z33.mono hE73
  replace Z27 := Z27.mono hE73
  replace Z19 := Z19.mono hE73
  replace Z13 := Z13.mono hE73
  replace Z5 := Z5.mono hE73
  replace hT := hT.mono hE73
  refine G_call (k := 13) (.mk rfl rfl rfl rfl) rfl rfl (.none rfl) (of_call' _ _ _ _ _ _ (by exact SlE.toI (by assumption) rfl) (by omega)) ?_
  rintro r152 E153 L154 hE155 ⟨z156, ⟨z157, ⟨z158, ⟨rfl, ⟨Z159, ⟨Z160, ⟨Z161, rfl⟩⟩⟩⟩⟩⟩⟩
  replace hs73 := hs73.mono hE155
  replace Z151 := Z151.mono hE155
  replace Z146 := Z146.mono hE155
  replace Z137 := Z137.mono hE155
  replace hs66 := hs66.mono hE155
  replace Z129 := Z129.mono hE155
  replace Z123 := Z123.mono hE155
  replace Z113 := Z113.mono hE155
  replace hs59 := hs59.mono hE155
  replace Z105 := Z105.mono hE155
  replace Z99 := Z99.mono hE155
  replace Z89 := Z89.mono hE155
  replace hs52 := hs52.mono hE155
  replace Z81 := Z81.mono hE155
  replace Z75 := Z75.mono hE155
  replace Z65 := Z65.mono hE155
  replace hs45 := hs45.mono hE155
  replace Z57 := Z57.mono hE155
  replace Z51 := Z51.mono hE155
  replace Z41 := Z41.mono hE155
  replace hs38 := hs38.mono hE155
  replace Z33 := Z33.mono hE155
  replace Z27 := Z27.mono hE155
  replace Z19 := Z19.mono hE155
  replace Z13 := Z13.mono hE155
  replace Z5 := Z5.mono hE155
  replace hT := hT.mono hE155
  refine G_call (k := 15) (.mk rfl rfl rfl rfl) rfl rfl (.none rfl) (kpop3 _ _ _ (by assumption) _ _ _ (by assumption) (by assumption)) ?_
  rintro r162 E163 L164 hE165 ⟨z166, ⟨z167, ⟨z168, ⟨rfl, ⟨Z169, ⟨Z170, rfl⟩⟩⟩⟩⟩⟩
  replace Z159 := Z159.mono hE165
  replace hs73 := hs73.mono hE165
  replace Z151 := Z151.mono hE165
  replace Z146 := Z146.mono hE165
  replace Z137 := Z137.mono hE165
  replace hs66 := hs66.mono hE165
  replace Z129 := Z129.mono hE165
  replace Z123 := Z123.mono hE165
  replace Z113 := Z113.mono hE165
  replace hs59 := hs59.mono hE165
  replace Z105 := Z105.mono hE165
  replace Z99 := Z99.mono hE165
  replace Z89 := Z89.mono hE165
  replace hs52 := hs52.mono hE165
  replace Z81 := Z81.mono hE165
  replace Z75 := Z75.mono hE165
  replace Z65 := Z65.mono hE165
  replace hs45 := hs45.mono hE165
  replace Z57 := Z57.mono hE165
  replace Z51 := Z51.mono hE165
  replace Z41 := Z41.mono hE165
  replace hs38 := hs38.mono hE165
  replace Z33 := Z33.mono hE165
  replace Z27 := Z27.mono hE165
  replace Z19 := Z19.mono hE165
  replace Z13 := Z13.mono hE165
  replace Z5 := Z5.mono hE165
  replace hT := hT.mono hE165
  refine Gm ?_
  refine Gv (V_extract rfl rfl rfl) ?_
  refine Gv (V_extract rfl rfl rfl) ?_
  refine Ga ?_
  refine Ga ?_
  refine G_end (X_then (G_seq (G_region ?_)))
  refine G_call (k := 12) (.mk rfl rfl rfl rfl) rfl rfl (.none rfl) (shown25_call' _ _) ?_
  rintro r171 E172 L173 hE174 ⟨Z175, rfl⟩
  replace Z169 := Z169.mono hE174
  replace Z159 := Z159.mono hE174
  replace hs73 := hs73.mono hE174
  replace Z151 := Z151.mono hE174
  replace Z146 := Z146.mono hE174
  replace Z137 := Z137.mono hE174
  replace hs66 := hs66.mono hE174
  replace Z129 := Z129.mono hE174
  replace Z123 := Z123.mono hE174
  replace Z113 := Z113.mono hE174
  replace hs59 := hs59.mono hE174
  replace Z105 := Z105.mono hE174
  replace Z99 := Z99.mono hE174
  replace Z89 := Z89.mono hE174
  replace hs52 := hs52.mono hE174
  replace Z81 := Z81.mono hE174
  replace Z75 := Z75.mono hE174
  replace Z65 := Z65.mono hE174
  replace hs45 := hs45.mono hE174
  replace Z57 := Z57.mono hE174
  replace Z51 := Z51.mono hE174
  replace Z41 := Z41.mono hE174
  replace hs38 := hs38.mono hE174
  replace Z33 := Z33.mono hE174
  replace Z27 := Z27.mono hE174
  replace Z19 := Z19.mono hE174
  replace Z13 := Z13.mono hE174
  replace Z5 := Z5.mono hE174
  replace hT := hT.mono hE174
  (refine G_litZ rfl rfl (by decide) (by simp [fillS, zeros, setLs, setL, Value.cells, List.range, List.range.loop]; rfl) (by rfl) rfl rfl (.none rfl) ?_; intro b80 E80 hE80 hs80)
  replace Z175 := Z175.mono hE80
  replace Z169 := Z169.mono hE80
  replace Z159 := Z159.mono hE80
  replace hs73 := hs73.mono hE80
  replace Z151 := Z151.mono hE80
  replace Z146 := Z146.mono hE80
  replace Z137 := Z137.mono hE80
  replace hs66 := hs66.mono hE80
  replace Z129 := Z129.mono hE80
  replace Z123 := Z123.mono hE80
  replace Z113 := Z113.mono hE80
  replace hs59 := hs59.mono hE80
  replace Z105 := Z105.mono hE80
  replace Z99 := Z99.mono hE80
  replace Z89 := Z89.mono hE80
  replace hs52 := hs52.mono hE80
  replace Z81 := Z81.mono hE80
  replace Z75 := Z75.mono hE80
  replace Z65 := Z65.mono hE80
  replace hs45 := hs45.mono hE80
  replace Z57 := Z57.mono hE80
  replace Z51 := Z51.mono hE80
  replace Z41 := Z41.mono hE80
  replace hs38 := hs38.mono hE80
  replace Z33 := Z33.mono hE80
  replace Z27 := Z27.mono hE80
  replace Z19 := Z19.mono hE80
  replace Z13 := Z13.mono hE80
  replace Z5 := Z5.mono hE80
  replace hT := hT.mono hE80
  refine G_call (k := 13) (.mk rfl rfl rfl rfl) rfl rfl (.none rfl) (of_call' _ _ _ _ _ _ (by exact SlE.toI (by assumption) rfl) (by omega)) ?_
  rintro r176 E177 L178 hE179 ⟨z180, ⟨z181, ⟨z182, ⟨rfl, ⟨Z183, ⟨Z184, ⟨Z185, rfl⟩⟩⟩⟩⟩⟩⟩
  replace hs80 := hs80.mono hE179
  replace Z175 := Z175.mono hE179
  replace Z169 := Z169.mono hE179
  replace Z159 := Z159.mono hE179
  replace hs73 := hs73.mono hE179
  replace Z151 := Z151.mono hE179
  replace Z146 := Z146.mono hE179
  replace Z137 := Z137.mono hE179
  replace hs66 := hs66.mono hE179
  replace Z129 := Z129.mono hE179
  replace Z123 := Z123.mono hE179
  replace Z113 := Z113.mono hE179
  replace hs59 := hs59.mono hE179
  replace Z105 := Z105.mono hE179
  replace Z99 := Z99.mono hE179
  replace Z89 := Z89.mono hE179
  replace hs52 := hs52.mono hE179
  replace Z81 := Z81.mono hE179
  replace Z75 := Z75.mono hE179
  replace Z65 := Z65.mono hE179
  replace hs45 := hs45.mono hE179
  replace Z57 := Z57.mono hE179
  replace Z51 := Z51.mono hE179
  replace Z41 := Z41.mono hE179
  replace hs38 := hs38.mono hE179
  replace Z33 := Z33.mono hE179
  replace Z27 := Z27.mono hE179
  replace Z19 := Z19.mono hE179
  replace Z13 := Z13.mono hE179
  replace Z5 := Z5.mono hE179
  replace hT := hT.mono hE179
  refine G_call (k := 16) (.mk rfl rfl rfl rfl) rfl rfl (.none rfl) (krest _ _ _ (by assumption) _ _ _ (by assumption) (by assumption)) ?_
  rintro r186 E187 L188 hE189 ⟨z190, ⟨z191, ⟨z192, ⟨rfl, ⟨Z193, ⟨Z194, rfl⟩⟩⟩⟩⟩⟩
  replace Z183 := Z183.mono hE189
  replace hs80 := hs80.mono hE189
  replace Z175 := Z175.mono hE189
  replace Z169 := Z169.mono hE189
  replace Z159 := Z159.mono hE189
  replace hs73 := hs73.mono hE189
  replace Z151 := Z151.mono hE189
  replace Z146 := Z146.mono hE189
  replace Z137 := Z137.mono hE189
  replace hs66 := hs66.mono hE189
  replace Z129 := Z129.mono hE189
  replace Z123 := Z123.mono hE189
  replace Z113 := Z113.mono hE189
  replace hs59 := hs59.mono hE189
  replace Z105 := Z105.mono hE189
  replace Z99 := Z99.mono hE189
  replace Z89 := Z89.mono hE189
  replace hs52 := hs52.mono hE189
  replace Z81 := Z81.mono hE189
  replace Z75 := Z75.mono hE189
  replace Z65 := Z65.mono hE189
  replace hs45 := hs45.mono hE189
  replace Z57 := Z57.mono hE189
  replace Z51 := Z51.mono hE189
  replace Z41 := Z41.mono hE189
  replace hs38 := hs38.mono hE189
  replace Z33 := Z33.mono hE189
  replace Z27 := Z27.mono hE189
  replace Z19 := Z19.mono hE189
  replace Z13 := Z13.mono hE189
  replace Z5 := Z5.mono hE189
  replace hT := hT.mono hE189
  refine Gm ?_
  refine Gv (V_extract rfl rfl rfl) ?_
  refine Gv (V_extract rfl rfl rfl) ?_
  refine Ga ?_
  refine Ga ?_
  refine G_end (X_then (G_seq (G_region ?_)))
  refine G_call (k := 12) (.mk rfl rfl rfl rfl) rfl rfl (.none rfl) (shown25_call' _ _) ?_
  rintro r195 E196 L197 hE198 ⟨Z199, rfl⟩
  replace Z193 := Z193.mono hE198
  replace Z183 := Z183.mono hE198
  replace hs80 := hs80.mono hE198
  replace Z175 := Z175.mono hE198
  replace Z169 := Z169.mono hE198
  replace Z159 := Z159.mono hE198
  replace hs73 := hs73.mono hE198
  replace Z151 := Z151.mono hE198
  replace Z146 := Z146.mono hE198
  replace Z137 := Z137.mono hE198
  replace hs66 := hs66.mono hE198
  replace Z129 := Z129.mono hE198
  replace Z123 := Z123.mono hE198
  replace Z113 := Z113.mono hE198
  replace hs59 := hs59.mono hE198
  replace Z105 := Z105.mono hE198
  replace Z99 := Z99.mono hE198
  replace Z89 := Z89.mono hE198
  replace hs52 := hs52.mono hE198
  replace Z81 := Z81.mono hE198
  replace Z75 := Z75.mono hE198
  replace Z65 := Z65.mono hE198
  replace hs45 := hs45.mono hE198
  replace Z57 := Z57.mono hE198
  replace Z51 := Z51.mono hE198
  replace Z41 := Z41.mono hE198
  replace hs38 := hs38.mono hE198
  replace Z33 := Z33.mono hE198
  replace Z27 := Z27.mono hE198
  replace Z19 := Z19.mono hE198
  replace Z13 := Z13.mono hE198
  replace Z5 := Z5.mono hE198
  replace hT := hT.mono hE198
  (refine G_litZ rfl rfl (by decide) (by simp [fillS, zeros, setLs, setL, Value.cells, List.range, List.range.loop]; rfl) (by rfl) rfl rfl (.none rfl) ?_; intro b87 E87 hE87 hs87)
  replace Z199 := Z199.mono hE87
  replace Z193 := Z193.mono hE87
  replace Z183 := Z183.mono hE87
  replace hs80 := hs80.mono hE87
  replace Z175 := Z175.mono hE87
  replace Z169 := Z169.mono hE87
  replace Z159 := Z159.mono hE87
  replace hs73 := hs73.mono hE87
  replace Z151 := Z151.mono hE87
  replace Z146 := Z146.mono hE87
  replace Z137 := Z137.mono hE87
  replace hs66 := hs66.mono hE87
  replace Z129 := Z129.mono hE87
  replace Z123 := Z123.mono hE87
  replace Z113 := Z113.mono hE87
  replace hs59 := hs59.mono hE87
  replace Z105 := Z105.mono hE87
  replace Z99 := Z99.mono hE87
  replace Z89 := Z89.mono hE87
  replace hs52 := hs52.mono hE87
  replace Z81 := Z81.mono hE87
  replace Z75 := Z75.mono hE87
  replace Z65 := Z65.mono hE87
  replace hs45 := hs45.mono hE87
  replace Z57 := Z57.mono hE87
  replace Z51 := Z51.mono hE87
  replace Z41 := Z41.mono hE87
  replace hs38 := hs38.mono hE87
  replace Z33 := Z33.mono hE87
  replace Z27 := Z27.mono hE87
  replace Z19 := Z19.mono hE87
  replace Z13 := Z13.mono hE87
  replace Z5 := Z5.mono hE87
  replace hT := hT.mono hE87
  refine G_call (k := 13) (.mk rfl rfl rfl rfl) rfl rfl (.none rfl) (of_call' _ _ _ _ _ _ (by exact SlE.toI (by assumption) rfl) (by omega)) ?_
  rintro r200 E201 L202 hE203 ⟨z204, ⟨z205, ⟨z206, ⟨rfl, ⟨Z207, ⟨Z208, ⟨Z209, rfl⟩⟩⟩⟩⟩⟩⟩
  replace hs87 := hs87.mono hE203
  replace Z199 := Z199.mono hE203
  replace Z193 := Z193.mono hE203
  replace Z183 := Z183.mono hE203
  replace hs80 := hs80.mono hE203
  replace Z175 := Z175.mono hE203
  replace Z169 := Z169.mono hE203
  replace Z159 := Z159.mono hE203
  replace hs73 := hs73.mono hE203
  replace Z151 := Z151.mono hE203
  replace Z146 := Z146.mono hE203
  replace Z137 := Z137.mono hE203
  replace hs66 := hs66.mono hE203
  replace Z129 := Z129.mono hE203
  replace Z123 := Z123.mono hE203
  replace Z113 := Z113.mono hE203
  replace hs59 := hs59.mono hE203
  replace Z105 := Z105.mono hE203
  replace Z99 := Z99.mono hE203
  replace Z89 := Z89.mono hE203
  replace hs52 := hs52.mono hE203
  replace Z81 := Z81.mono hE203
  replace Z75 := Z75.mono hE203
  replace Z65 := Z65.mono hE203
  replace hs45 := hs45.mono hE203
  replace Z57 := Z57.mono hE203
  replace Z51 := Z51.mono hE203
  replace Z41 := Z41.mono hE203
  replace hs38 := hs38.mono hE203
  replace Z33 := Z33.mono hE203
  replace Z27 := Z27.mono hE203
  replace Z19 := Z19.mono hE203
  replace Z13 := Z13.mono hE203
  replace Z5 := Z5.mono hE203
  replace hT := hT.mono hE203
  refine G_call (k := 17) (.mk rfl rfl rfl rfl) rfl rfl (.none rfl) (kpath _ _ _ (by assumption) _ _ _ (by assumption) (by assumption)) ?_
  rintro r210 E211 L212 hE213 ⟨z214, ⟨z215, ⟨z216, ⟨rfl, ⟨Z217, ⟨Z218, rfl⟩⟩⟩⟩⟩⟩
  replace Z207 := Z207.mono hE213
  replace hs87 := hs87.mono hE213
  replace Z199 := Z199.mono hE213
  replace Z193 := Z193.mono hE213
  replace Z183 := Z183.mono hE213
  replace hs80 := hs80.mono hE213
  replace Z175 := Z175.mono hE213
  replace Z169 := Z169.mono hE213
  replace Z159 := Z159.mono hE213
  replace hs73 := hs73.mono hE213
  replace Z151 := Z151.mono hE213
  replace Z146 := Z146.mono hE213
  replace Z137 := Z137.mono hE213
  replace hs66 := hs66.mono hE213
  replace Z129 := Z129.mono hE213
  replace Z123 := Z123.mono hE213
  replace Z113 := Z113.mono hE213
  replace hs59 := hs59.mono hE213
  replace Z105 := Z105.mono hE213
  replace Z99 := Z99.mono hE213
  replace Z89 := Z89.mono hE213
  replace hs52 := hs52.mono hE213
  replace Z81 := Z81.mono hE213
  replace Z75 := Z75.mono hE213
  replace Z65 := Z65.mono hE213
  replace hs45 := hs45.mono hE213
  replace Z57 := Z57.mono hE213
  replace Z51 := Z51.mono hE213
  replace Z41 := Z41.mono hE213
  replace hs38 := hs38.mono hE213
  replace Z33 := Z33.mono hE213
  replace Z27 := Z27.mono hE213
  replace Z19 := Z19.mono hE213
  replace Z13 := Z13.mono hE213
  replace Z5 := Z5.mono hE213
  replace hT := hT.mono hE213
  refine Gm ?_
  refine Gv (V_extract rfl rfl rfl) ?_
  refine Gv (V_extract rfl rfl rfl) ?_
  refine Ga ?_
  refine Ga ?_
  refine G_end (X_then (G_seq (G_region ?_)))
  refine G_call (k := 8) (.mk rfl rfl rfl rfl) rfl rfl (.none rfl) (kparse1 _ _ (by assumption)) ?_
  rintro r219 E220 L221 hE222 ⟨z223, ⟨z224, ⟨z225, ⟨rfl, ⟨Z226, rfl⟩⟩⟩⟩⟩
  replace Z217 := Z217.mono hE222
  replace Z207 := Z207.mono hE222
  replace hs87 := hs87.mono hE222
  replace Z199 := Z199.mono hE222
  replace Z193 := Z193.mono hE222
  replace Z183 := Z183.mono hE222
  replace hs80 := hs80.mono hE222
  replace Z175 := Z175.mono hE222
  replace Z169 := Z169.mono hE222
  replace Z159 := Z159.mono hE222
  replace hs73 := hs73.mono hE222
  replace Z151 := Z151.mono hE222
  replace Z146 := Z146.mono hE222
  replace Z137 := Z137.mono hE222
  replace hs66 := hs66.mono hE222
  replace Z129 := Z129.mono hE222
  replace Z123 := Z123.mono hE222
  replace Z113 := Z113.mono hE222
  replace hs59 := hs59.mono hE222
  replace Z105 := Z105.mono hE222
  replace Z99 := Z99.mono hE222
  replace Z89 := Z89.mono hE222
  replace hs52 := hs52.mono hE222
  replace Z81 := Z81.mono hE222
  replace Z75 := Z75.mono hE222
  replace Z65 := Z65.mono hE222
  replace hs45 := hs45.mono hE222
  replace Z57 := Z57.mono hE222
  replace Z51 := Z51.mono hE222
  replace Z41 := Z41.mono hE222
  replace hs38 := hs38.mono hE222
  replace Z33 := Z33.mono hE222
  replace Z27 := Z27.mono hE222
  replace Z19 := Z19.mono hE222
  replace Z13 := Z13.mono hE222
  replace Z5 := Z5.mono hE222
  replace hT := hT.mono hE222
  refine Gm ?_
  refine Gv (V_extract rfl rfl rfl) ?_
  refine Gv (V_extract rfl rfl rfl) ?_
  refine Ga ?_
  refine Ga ?_
  refine G_end (X_then (G_seq (G_region ?_)))
  refine G_call (k := 8) (.mk rfl rfl rfl rfl) rfl rfl (.none rfl) (kparse2 _ _ (by assumption)) ?_
  rintro r227 E228 L229 hE230 ⟨z231, ⟨z232, ⟨z233, ⟨rfl, ⟨Z234, rfl⟩⟩⟩⟩⟩
  replace Z217 := Z217.mono hE230
  replace Z207 := Z207.mono hE230
  replace hs87 := hs87.mono hE230
  replace Z199 := Z199.mono hE230
  replace Z193 := Z193.mono hE230
  replace Z183 := Z183.mono hE230
  replace hs80 := hs80.mono hE230
  replace Z175 := Z175.mono hE230
  replace Z169 := Z169.mono hE230
  replace Z159 := Z159.mono hE230
  replace hs73 := hs73.mono hE230
  replace Z151 := Z151.mono hE230
  replace Z146 := Z146.mono hE230
  replace Z137 := Z137.mono hE230
  replace hs66 := hs66.mono hE230
  replace Z129 := Z129.mono hE230
  replace Z123 := Z123.mono hE230
  replace Z113 := Z113.mono hE230
  replace hs59 := hs59.mono hE230
  replace Z105 := Z105.mono hE230
  replace Z99 := Z99.mono hE230
  replace Z89 := Z89.mono hE230
  replace hs52 := hs52.mono hE230
  replace Z81 := Z81.mono hE230
  replace Z75 := Z75.mono hE230
  replace Z65 := Z65.mono hE230
  replace hs45 := hs45.mono hE230
  replace Z57 := Z57.mono hE230
  replace Z51 := Z51.mono hE230
  replace Z41 := Z41.mono hE230
  replace hs38 := hs38.mono hE230
  replace Z33 := Z33.mono hE230
  replace Z27 := Z27.mono hE230
  replace Z19 := Z19.mono hE230
  replace Z13 := Z13.mono hE230
  replace Z5 := Z5.mono hE230
  replace hT := hT.mono hE230
  refine Gm ?_
  refine Gv (V_extract rfl rfl rfl) ?_
  refine Gv (V_extract rfl rfl rfl) ?_
  refine Ga ?_
  refine Ga ?_
  refine G_end (X_then (G_seq (G_region ?_)))
  refine Gm ?_
  refine Gv (V_eql rfl rfl rfl) ?_
  refine Gm ?_
  refine G.bool_t 102 rfl (by kernel_rfl) ?_
  refine Gy (V_move rfl rfl) ?_
  (refine G_litZ rfl rfl (by decide) (by simp [fillS, zeros, setLs, setL, Value.cells, List.range, List.range.loop]; rfl) (by rfl) rfl rfl (.yes rfl rfl rfl rfl) ?_; intro b104 E104 hE104 hs104)
  replace Z217 := Z217.mono hE104
  replace Z207 := Z207.mono hE104
  replace hs87 := hs87.mono hE104
  replace Z199 := Z199.mono hE104
  replace Z193 := Z193.mono hE104
  replace Z183 := Z183.mono hE104
  replace hs80 := hs80.mono hE104
  replace Z175 := Z175.mono hE104
  replace Z169 := Z169.mono hE104
  replace Z159 := Z159.mono hE104
  replace hs73 := hs73.mono hE104
  replace Z151 := Z151.mono hE104
  replace Z146 := Z146.mono hE104
  replace Z137 := Z137.mono hE104
  replace hs66 := hs66.mono hE104
  replace Z129 := Z129.mono hE104
  replace Z123 := Z123.mono hE104
  replace Z113 := Z113.mono hE104
  replace hs59 := hs59.mono hE104
  replace Z105 := Z105.mono hE104
  replace Z99 := Z99.mono hE104
  replace Z89 := Z89.mono hE104
  replace hs52 := hs52.mono hE104
  replace Z81 := Z81.mono hE104
  replace Z75 := Z75.mono hE104
  replace Z65 := Z65.mono hE104
  replace hs45 := hs45.mono hE104
  replace Z57 := Z57.mono hE104
  replace Z51 := Z51.mono hE104
  replace Z41 := Z41.mono hE104
  replace hs38 := hs38.mono hE104
  replace Z33 := Z33.mono hE104
  replace Z27 := Z27.mono hE104
  replace Z19 := Z19.mono hE104
  replace Z13 := Z13.mono hE104
  replace Z5 := Z5.mono hE104
  replace hT := hT.mono hE104
  refine G_call (k := 13) (.mk rfl rfl rfl rfl) rfl rfl (.yes rfl rfl rfl rfl) (of_call' _ _ _ _ _ _ (by exact SlE.toI (by assumption) rfl) (by omega)) ?_
  rintro r235 E236 L237 hE238 ⟨z239, ⟨z240, ⟨z241, ⟨rfl, ⟨Z242, ⟨Z243, ⟨Z244, rfl⟩⟩⟩⟩⟩⟩⟩
  replace hs104 := hs104.mono hE238
  replace Z217 := Z217.mono hE238
  replace Z207 := Z207.mono hE238
  replace hs87 := hs87.mono hE238
  replace Z199 := Z199.mono hE238
  replace Z193 := Z193.mono hE238
  replace Z183 := Z183.mono hE238
  replace hs80 := hs80.mono hE238
  replace Z175 := Z175.mono hE238
  replace Z169 := Z169.mono hE238
  replace Z159 := Z159.mono hE238
  replace hs73 := hs73.mono hE238
  replace Z151 := Z151.mono hE238
  replace Z146 := Z146.mono hE238
  replace Z137 := Z137.mono hE238
  replace hs66 := hs66.mono hE238
  replace Z129 := Z129.mono hE238
  replace Z123 := Z123.mono hE238
  replace Z113 := Z113.mono hE238
  replace hs59 := hs59.mono hE238
  replace Z105 := Z105.mono hE238
  replace Z99 := Z99.mono hE238
  replace Z89 := Z89.mono hE238
  replace hs52 := hs52.mono hE238
  replace Z81 := Z81.mono hE238
  replace Z75 := Z75.mono hE238
  replace Z65 := Z65.mono hE238
  replace hs45 := hs45.mono hE238
  replace Z57 := Z57.mono hE238
  replace Z51 := Z51.mono hE238
  replace Z41 := Z41.mono hE238
  replace hs38 := hs38.mono hE238
  replace Z33 := Z33.mono hE238
  replace Z27 := Z27.mono hE238
  replace Z19 := Z19.mono hE238
  replace Z13 := Z13.mono hE238
  replace Z5 := Z5.mono hE238
  replace hT := hT.mono hE238
  refine G_callv (k := 10) (.mk rfl rfl rfl rfl) rfl rfl (.yes rfl rfl rfl rfl) (Same25_call _ _ _ _ _ _ _ _ _ _ (by assumption) (by assumption) (by omega) (by omega)) ?_
  refine Gv (V_pick_t rfl rfl rfl) ?_
  refine Gm ?_
  refine G.bool_t 108 rfl (by kernel_rfl) ?_
  refine Gy (V_move rfl rfl) ?_
  refine Gy (V_eql rfl rfl rfl) ?_
  refine Gv (V_pick_t rfl rfl rfl) ?_
  refine Gm ?_
  refine G.bool_t 112 rfl (by kernel_rfl) ?_
  refine Gy (V_move rfl rfl) ?_
  refine Gy (V_eql rfl rfl rfl) ?_
  refine Gv (V_pick_t rfl rfl rfl) ?_
  refine Gm ?_
  refine G.bool_t 116 rfl (by kernel_rfl) ?_
  refine Gy (V_move rfl rfl) ?_
  refine Gy (V_eql rfl rfl rfl) ?_
  refine Gv (V_pick_t rfl rfl rfl) ?_
  refine Gm ?_
  refine G.bool_t 120 rfl (by kernel_rfl) ?_
  refine Gy (V_move rfl rfl) ?_
  (refine G_litZ rfl rfl (by decide) (by simp [fillS, zeros, setLs, setL, Value.cells, List.range, List.range.loop]; rfl) (by rfl) rfl rfl (.yes rfl rfl rfl rfl) ?_; intro b122 E122 hE122 hs122)
  replace Z242 := Z242.mono hE122
  replace hs104 := hs104.mono hE122
  replace Z217 := Z217.mono hE122
  replace Z207 := Z207.mono hE122
  replace hs87 := hs87.mono hE122
  replace Z199 := Z199.mono hE122
  replace Z193 := Z193.mono hE122
  replace Z183 := Z183.mono hE122
  replace hs80 := hs80.mono hE122
  replace Z175 := Z175.mono hE122
  replace Z169 := Z169.mono hE122
  replace Z159 := Z159.mono hE122
  replace hs73 := hs73.mono hE122
  replace Z151 := Z151.mono hE122
  replace Z146 := Z146.mono hE122
  replace Z137 := Z137.mono hE122
  replace hs66 := hs66.mono hE122
  replace Z129 := Z129.mono hE122
  replace Z123 := Z123.mono hE122
  replace Z113 := Z113.mono hE122
  replace hs59 := hs59.mono hE122
  replace Z105 := Z105.mono hE122
  replace Z99 := Z99.mono hE122
  replace Z89 := Z89.mono hE122
  replace hs52 := hs52.mono hE122
  replace Z81 := Z81.mono hE122
  replace Z75 := Z75.mono hE122
  replace Z65 := Z65.mono hE122
  replace hs45 := hs45.mono hE122
  replace Z57 := Z57.mono hE122
  replace Z51 := Z51.mono hE122
  replace Z41 := Z41.mono hE122
  replace hs38 := hs38.mono hE122
  replace Z33 := Z33.mono hE122
  replace Z27 := Z27.mono hE122
  replace Z19 := Z19.mono hE122
  replace Z13 := Z13.mono hE122
  replace Z5 := Z5.mono hE122
  replace hT := hT.mono hE122
  refine G_call (k := 13) (.mk rfl rfl rfl rfl) rfl rfl (.yes rfl rfl rfl rfl) (of_call' _ _ _ _ _ _ (by exact SlE.toI (by assumption) rfl) (by omega)) ?_
  rintro r245 E246 L247 hE248 ⟨z249, ⟨z250, ⟨z251, ⟨rfl, ⟨Z252, ⟨Z253, ⟨Z254, rfl⟩⟩⟩⟩⟩⟩⟩
  replace hs122 := hs122.mono hE248
  replace Z242 := Z242.mono hE248
  replace hs104 := hs104.mono hE248
  replace Z217 := Z217.mono hE248
  replace Z207 := Z207.mono hE248
  replace hs87 := hs87.mono hE248
  replace Z199 := Z199.mono hE248
  replace Z193 := Z193.mono hE248
  replace Z183 := Z183.mono hE248
  replace hs80 := hs80.mono hE248
  replace Z175 := Z175.mono hE248
  replace Z169 := Z169.mono hE248
  replace Z159 := Z159.mono hE248
  replace hs73 := hs73.mono hE248
  replace Z151 := Z151.mono hE248
  replace Z146 := Z146.mono hE248
  replace Z137 := Z137.mono hE248
  replace hs66 := hs66.mono hE248
  replace Z129 := Z129.mono hE248
  replace Z123 := Z123.mono hE248
  replace Z113 := Z113.mono hE248
  replace hs59 := hs59.mono hE248
  replace Z105 := Z105.mono hE248
  replace Z99 := Z99.mono hE248
  replace Z89 := Z89.mono hE248
  replace hs52 := hs52.mono hE248
  replace Z81 := Z81.mono hE248
  replace Z75 := Z75.mono hE248
  replace Z65 := Z65.mono hE248
  replace hs45 := hs45.mono hE248
  replace Z57 := Z57.mono hE248
  replace Z51 := Z51.mono hE248
  replace Z41 := Z41.mono hE248
  replace hs38 := hs38.mono hE248
  replace Z33 := Z33.mono hE248
  replace Z27 := Z27.mono hE248
  replace Z19 := Z19.mono hE248
  replace Z13 := Z13.mono hE248
  replace Z5 := Z5.mono hE248
  replace hT := hT.mono hE248
  refine G_callv (k := 10) (.mk rfl rfl rfl rfl) rfl rfl (.yes rfl rfl rfl rfl) (Same25_call _ _ _ _ _ _ _ _ _ _ (by assumption) (by assumption) (by omega) (by omega)) ?_
  refine Gv (V_pick_t rfl rfl rfl) ?_
  refine Gm ?_
  refine G.bool_t 126 rfl (by kernel_rfl) ?_
  refine Gy (V_move rfl rfl) ?_
  refine Gy (V_eql rfl rfl rfl) ?_
  refine Gv (V_pick_t rfl rfl rfl) ?_
  refine Gm ?_
  refine G.bool_t 130 rfl (by kernel_rfl) ?_
  refine Gy (V_move rfl rfl) ?_
  refine Gy (V_eql rfl rfl rfl) ?_
  refine Gv (V_pick_t rfl rfl rfl) ?_
  refine Gm ?_
  refine G.bool_t 134 rfl (by kernel_rfl) ?_
  refine Gy (V_move rfl rfl) ?_
  (refine G_litZ rfl rfl (by decide) (by simp [fillS, zeros, setLs, setL, Value.cells, List.range, List.range.loop]; rfl) (by rfl) rfl rfl (.yes rfl rfl rfl rfl) ?_; intro b136 E136 hE136 hs136)
  replace Z252 := Z252.mono hE136
  replace hs122 := hs122.mono hE136
  replace Z242 := Z242.mono hE136
  replace hs104 := hs104.mono hE136
  replace Z217 := Z217.mono hE136
  replace Z207 := Z207.mono hE136
  replace hs87 := hs87.mono hE136
  replace Z199 := Z199.mono hE136
  replace Z193 := Z193.mono hE136
  replace Z183 := Z183.mono hE136
  replace hs80 := hs80.mono hE136
  replace Z175 := Z175.mono hE136
  replace Z169 := Z169.mono hE136
  replace Z159 := Z159.mono hE136
  replace hs73 := hs73.mono hE136
  replace Z151 := Z151.mono hE136
  replace Z146 := Z146.mono hE136
  replace Z137 := Z137.mono hE136
  replace hs66 := hs66.mono hE136
  replace Z129 := Z129.mono hE136
  replace Z123 := Z123.mono hE136
  replace Z113 := Z113.mono hE136
  replace hs59 := hs59.mono hE136
  replace Z105 := Z105.mono hE136
  replace Z99 := Z99.mono hE136
  replace Z89 := Z89.mono hE136
  replace hs52 := hs52.mono hE136
  replace Z81 := Z81.mono hE136
  replace Z75 := Z75.mono hE136
  replace Z65 := Z65.mono hE136
  replace hs45 := hs45.mono hE136
  replace Z57 := Z57.mono hE136
  replace Z51 := Z51.mono hE136
  replace Z41 := Z41.mono hE136
  replace hs38 := hs38.mono hE136
  replace Z33 := Z33.mono hE136
  replace Z27 := Z27.mono hE136
  replace Z19 := Z19.mono hE136
  replace Z13 := Z13.mono hE136
  replace Z5 := Z5.mono hE136
  replace hT := hT.mono hE136
  refine G_call (k := 13) (.mk rfl rfl rfl rfl) rfl rfl (.yes rfl rfl rfl rfl) (of_call' _ _ _ _ _ _ (by exact SlE.toI (by assumption) rfl) (by omega)) ?_
  rintro r255 E256 L257 hE258 ⟨z259, ⟨z260, ⟨z261, ⟨rfl, ⟨Z262, ⟨Z263, ⟨Z264, rfl⟩⟩⟩⟩⟩⟩⟩
  replace hs136 := hs136.mono hE258
  replace Z252 := Z252.mono hE258
  replace hs122 := hs122.mono hE258
  replace Z242 := Z242.mono hE258
  replace hs104 := hs104.mono hE258
  replace Z217 := Z217.mono hE258
  replace Z207 := Z207.mono hE258
  replace hs87 := hs87.mono hE258
  replace Z199 := Z199.mono hE258
  replace Z193 := Z193.mono hE258
  replace Z183 := Z183.mono hE258
  replace hs80 := hs80.mono hE258
  replace Z175 := Z175.mono hE258
  replace Z169 := Z169.mono hE258
  replace Z159 := Z159.mono hE258
  replace hs73 := hs73.mono hE258
  replace Z151 := Z151.mono hE258
  replace Z146 := Z146.mono hE258
  replace Z137 := Z137.mono hE258
  replace hs66 := hs66.mono hE258
  replace Z129 := Z129.mono hE258
  replace Z123 := Z123.mono hE258
  replace Z113 := Z113.mono hE258
  replace hs59 := hs59.mono hE258
  replace Z105 := Z105.mono hE258
  replace Z99 := Z99.mono hE258
  replace Z89 := Z89.mono hE258
  replace hs52 := hs52.mono hE258
  replace Z81 := Z81.mono hE258
  replace Z75 := Z75.mono hE258
  replace Z65 := Z65.mono hE258
  replace hs45 := hs45.mono hE258
  replace Z57 := Z57.mono hE258
  replace Z51 := Z51.mono hE258
  replace Z41 := Z41.mono hE258
  replace hs38 := hs38.mono hE258
  replace Z33 := Z33.mono hE258
  replace Z27 := Z27.mono hE258
  replace Z19 := Z19.mono hE258
  replace Z13 := Z13.mono hE258
  replace Z5 := Z5.mono hE258
  replace hT := hT.mono hE258
  refine G_callv (k := 10) (.mk rfl rfl rfl rfl) rfl rfl (.yes rfl rfl rfl rfl) (Same25_call _ _ _ _ _ _ _ _ _ _ (by assumption) (by assumption) (by omega) (by omega)) ?_
  refine Gv (V_pick_t rfl rfl rfl) ?_
  refine Gm ?_
  refine G.bool_t 140 rfl (by kernel_rfl) ?_
  refine Gy (V_move rfl rfl) ?_
  refine Gy (V_eql rfl rfl rfl) ?_
  refine Gv (V_pick_t rfl rfl rfl) ?_
  refine Gm ?_
  refine G.bool_t 144 rfl (by kernel_rfl) ?_
  refine Gy (V_move rfl rfl) ?_
  refine Gy (V_lenS rfl rfl) ?_
  refine Gy (V_eql rfl rfl rfl) ?_
  refine Gv (V_pick_t rfl rfl rfl) ?_
  refine Gm ?_
  refine G.bool_t 149 rfl (by kernel_rfl) ?_
  refine Gy (V_move rfl rfl) ?_
  refine Gy (V_eql rfl rfl rfl) ?_
  refine Gv (V_pick_t rfl rfl rfl) ?_
  refine Ga ?_
  refine G_end (X_then (G_seq (G_region ?_)))
  refine G_call (k := 7) (.mk rfl rfl rfl rfl) rfl rfl (.none rfl) (awake25_call _ _) ?_
  rintro r265 E266 L267 hE268 ⟨rfl, rfl⟩
  replace Z262 := Z262.mono hE268
  replace hs136 := hs136.mono hE268
  replace Z252 := Z252.mono hE268
  replace hs122 := hs122.mono hE268
  replace Z242 := Z242.mono hE268
  replace hs104 := hs104.mono hE268
  replace Z217 := Z217.mono hE268
  replace Z207 := Z207.mono hE268
  replace hs87 := hs87.mono hE268
  replace Z199 := Z199.mono hE268
  replace Z193 := Z193.mono hE268
  replace Z183 := Z183.mono hE268
  replace hs80 := hs80.mono hE268
  replace Z175 := Z175.mono hE268
  replace Z169 := Z169.mono hE268
  replace Z159 := Z159.mono hE268
  replace hs73 := hs73.mono hE268
  replace Z151 := Z151.mono hE268
  replace Z146 := Z146.mono hE268
  replace Z137 := Z137.mono hE268
  replace hs66 := hs66.mono hE268
  replace Z129 := Z129.mono hE268
  replace Z123 := Z123.mono hE268
  replace Z113 := Z113.mono hE268
  replace hs59 := hs59.mono hE268
  replace Z105 := Z105.mono hE268
  replace Z99 := Z99.mono hE268
  replace Z89 := Z89.mono hE268
  replace hs52 := hs52.mono hE268
  replace Z81 := Z81.mono hE268
  replace Z75 := Z75.mono hE268
  replace Z65 := Z65.mono hE268
  replace hs45 := hs45.mono hE268
  replace Z57 := Z57.mono hE268
  replace Z51 := Z51.mono hE268
  replace Z41 := Z41.mono hE268
  replace hs38 := hs38.mono hE268
  replace Z33 := Z33.mono hE268
  replace Z27 := Z27.mono hE268
  replace Z19 := Z19.mono hE268
  replace Z13 := Z13.mono hE268
  replace Z5 := Z5.mono hE268
  replace hT := hT.mono hE268
  refine Gm ?_
  refine Gy (V_move rfl rfl) ?_
  refine Gv (V_pick_t rfl rfl rfl) ?_
  refine Gm ?_
  refine G.bool_t 157 rfl (by kernel_rfl) ?_
  refine G_call (k := 18) (.mk rfl rfl rfl rfl) rfl rfl (.yes rfl rfl rfl rfl) (kawaits _ _) ?_
  rintro r269 E270 L271 hE272 ⟨rfl, rfl⟩
  replace Z262 := Z262.mono hE272
  replace hs136 := hs136.mono hE272
  replace Z252 := Z252.mono hE272
  replace hs122 := hs122.mono hE272
  replace Z242 := Z242.mono hE272
  replace hs104 := hs104.mono hE272
  replace Z217 := Z217.mono hE272
  replace Z207 := Z207.mono hE272
  replace hs87 := hs87.mono hE272
  replace Z199 := Z199.mono hE272
  replace Z193 := Z193.mono hE272
  replace Z183 := Z183.mono hE272
  replace hs80 := hs80.mono hE272
  replace Z175 := Z175.mono hE272
  replace Z169 := Z169.mono hE272
  replace Z159 := Z159.mono hE272
  replace hs73 := hs73.mono hE272
  replace Z151 := Z151.mono hE272
  replace Z146 := Z146.mono hE272
  replace Z137 := Z137.mono hE272
  replace hs66 := hs66.mono hE272
  replace Z129 := Z129.mono hE272
  replace Z123 := Z123.mono hE272
  replace Z113 := Z113.mono hE272
  replace hs59 := hs59.mono hE272
  replace Z105 := Z105.mono hE272
  replace Z99 := Z99.mono hE272
  replace Z89 := Z89.mono hE272
  replace hs52 := hs52.mono hE272
  replace Z81 := Z81.mono hE272
  replace Z75 := Z75.mono hE272
  replace Z65 := Z65.mono hE272
  replace hs45 := hs45.mono hE272
  replace Z57 := Z57.mono hE272
  replace Z51 := Z51.mono hE272
  replace Z41 := Z41.mono hE272
  replace hs38 := hs38.mono hE272
  replace Z33 := Z33.mono hE272
  replace Z27 := Z27.mono hE272
  replace Z19 := Z19.mono hE272
  replace Z13 := Z13.mono hE272
  replace Z5 := Z5.mono hE272
  replace hT := hT.mono hE272
  refine Gv (V_pick_t rfl rfl rfl) ?_
  refine Gm ?_
  (refine G_litZ rfl rfl (by decide) (by simp [fillS, zeros, setLs, setL, Value.cells, List.range, List.range.loop]; rfl) (by rfl) rfl rfl (.yes rfl rfl rfl rfl) ?_; intro b161 E161 hE161 hs161)
  replace Z262 := Z262.mono hE161
  replace hs136 := hs136.mono hE161
  replace Z252 := Z252.mono hE161
  replace hs122 := hs122.mono hE161
  replace Z242 := Z242.mono hE161
  replace hs104 := hs104.mono hE161
  replace Z217 := Z217.mono hE161
  replace Z207 := Z207.mono hE161
  replace hs87 := hs87.mono hE161
  replace Z199 := Z199.mono hE161
  replace Z193 := Z193.mono hE161
  replace Z183 := Z183.mono hE161
  replace hs80 := hs80.mono hE161
  replace Z175 := Z175.mono hE161
  replace Z169 := Z169.mono hE161
  replace Z159 := Z159.mono hE161
  replace hs73 := hs73.mono hE161
  replace Z151 := Z151.mono hE161
  replace Z146 := Z146.mono hE161
  replace Z137 := Z137.mono hE161
  replace hs66 := hs66.mono hE161
  replace Z129 := Z129.mono hE161
  replace Z123 := Z123.mono hE161
  replace Z113 := Z113.mono hE161
  replace hs59 := hs59.mono hE161
  replace Z105 := Z105.mono hE161
  replace Z99 := Z99.mono hE161
  replace Z89 := Z89.mono hE161
  replace hs52 := hs52.mono hE161
  replace Z81 := Z81.mono hE161
  replace Z75 := Z75.mono hE161
  replace Z65 := Z65.mono hE161
  replace hs45 := hs45.mono hE161
  replace Z57 := Z57.mono hE161
  replace Z51 := Z51.mono hE161
  replace Z41 := Z41.mono hE161
  replace hs38 := hs38.mono hE161
  replace Z33 := Z33.mono hE161
  replace Z27 := Z27.mono hE161
  replace Z19 := Z19.mono hE161
  replace Z13 := Z13.mono hE161
  replace Z5 := Z5.mono hE161
  replace hT := hT.mono hE161
  refine G_call (k := 19) (.mk rfl rfl rfl rfl) rfl rfl (.yes rfl rfl rfl rfl) (checks25_call _ _ _ _ _ _ _ (by exact SlE.toI (by assumption) rfl) (by omega) (by exact (by kernel_rfl : (_ : Bool) = _))) ?_
  rintro r273 E274 L275 hE276 ⟨rfl, rfl⟩
  replace hs161 := hs161.mono hE276
  replace Z262 := Z262.mono hE276
  replace hs136 := hs136.mono hE276
  replace Z252 := Z252.mono hE276
  replace hs122 := hs122.mono hE276
  replace Z242 := Z242.mono hE276
  replace hs104 := hs104.mono hE276
  replace Z217 := Z217.mono hE276
  replace Z207 := Z207.mono hE276
  replace hs87 := hs87.mono hE276
  replace Z199 := Z199.mono hE276
  replace Z193 := Z193.mono hE276
  replace Z183 := Z183.mono hE276
  replace hs80 := hs80.mono hE276
  replace Z175 := Z175.mono hE276
  replace Z169 := Z169.mono hE276
  replace Z159 := Z159.mono hE276
  replace hs73 := hs73.mono hE276
  replace Z151 := Z151.mono hE276
  replace Z146 := Z146.mono hE276
  replace Z137 := Z137.mono hE276
  replace hs66 := hs66.mono hE276
  replace Z129 := Z129.mono hE276
  replace Z123 := Z123.mono hE276
  replace Z113 := Z113.mono hE276
  replace hs59 := hs59.mono hE276
  replace Z105 := Z105.mono hE276
  replace Z99 := Z99.mono hE276
  replace Z89 := Z89.mono hE276
  replace hs52 := hs52.mono hE276
  replace Z81 := Z81.mono hE276
  replace Z75 := Z75.mono hE276
  replace Z65 := Z65.mono hE276
  replace hs45 := hs45.mono hE276
  replace Z57 := Z57.mono hE276
  replace Z51 := Z51.mono hE276
  replace Z41 := Z41.mono hE276
  replace hs38 := hs38.mono hE276
  replace Z33 := Z33.mono hE276
  replace Z27 := Z27.mono hE276
  replace Z19 := Z19.mono hE276
  replace Z13 := Z13.mono hE276
  replace Z5 := Z5.mono hE276
  replace hT := hT.mono hE276
  refine Gv (V_pick_t rfl rfl rfl) ?_
  refine Gm ?_
  (refine G_litZ rfl rfl (by decide) (by simp [fillS, zeros, setLs, setL, Value.cells, List.range, List.range.loop]; rfl) (by rfl) rfl rfl (.yes rfl rfl rfl rfl) ?_; intro b165 E165 hE165 hs165)
  replace hs161 := hs161.mono hE165
  replace Z262 := Z262.mono hE165
  replace hs136 := hs136.mono hE165
  replace Z252 := Z252.mono hE165
  replace hs122 := hs122.mono hE165
  replace Z242 := Z242.mono hE165
  replace hs104 := hs104.mono hE165
  replace Z217 := Z217.mono hE165
  replace Z207 := Z207.mono hE165
  replace hs87 := hs87.mono hE165
  replace Z199 := Z199.mono hE165
  replace Z193 := Z193.mono hE165
  replace Z183 := Z183.mono hE165
  replace hs80 := hs80.mono hE165
  replace Z175 := Z175.mono hE165
  replace Z169 := Z169.mono hE165
  replace Z159 := Z159.mono hE165
  replace hs73 := hs73.mono hE165
  replace Z151 := Z151.mono hE165
  replace Z146 := Z146.mono hE165
  replace Z137 := Z137.mono hE165
  replace hs66 := hs66.mono hE165
  replace Z129 := Z129.mono hE165
  replace Z123 := Z123.mono hE165
  replace Z113 := Z113.mono hE165
  replace hs59 := hs59.mono hE165
  replace Z105 := Z105.mono hE165
  replace Z99 := Z99.mono hE165
  replace Z89 := Z89.mono hE165
  replace hs52 := hs52.mono hE165
  replace Z81 := Z81.mono hE165
  replace Z75 := Z75.mono hE165
  replace Z65 := Z65.mono hE165
  replace hs45 := hs45.mono hE165
  replace Z57 := Z57.mono hE165
  replace Z51 := Z51.mono hE165
  replace Z41 := Z41.mono hE165
  replace hs38 := hs38.mono hE165
  replace Z33 := Z33.mono hE165
  replace Z27 := Z27.mono hE165
  replace Z19 := Z19.mono hE165
  replace Z13 := Z13.mono hE165
  replace Z5 := Z5.mono hE165
  replace hT := hT.mono hE165
  refine G_call (k := 19) (.mk rfl rfl rfl rfl) rfl rfl (.yes rfl rfl rfl rfl) (checks25_call _ _ _ _ _ _ _ (by exact SlE.toI (by assumption) rfl) (by omega) (by exact (by kernel_rfl : (_ : Bool) = _))) ?_
  rintro r277 E278 L279 hE280 ⟨rfl, rfl⟩
  replace hs165 := hs165.mono hE280
  replace hs161 := hs161.mono hE280
  replace Z262 := Z262.mono hE280
  replace hs136 := hs136.mono hE280
  replace Z252 := Z252.mono hE280
  replace hs122 := hs122.mono hE280
  replace Z242 := Z242.mono hE280
  replace hs104 := hs104.mono hE280
  replace Z217 := Z217.mono hE280
  replace Z207 := Z207.mono hE280
  replace hs87 := hs87.mono hE280
  replace Z199 := Z199.mono hE280
  replace Z193 := Z193.mono hE280
  replace Z183 := Z183.mono hE280
  replace hs80 := hs80.mono hE280
  replace Z175 := Z175.mono hE280
  replace Z169 := Z169.mono hE280
  replace Z159 := Z159.mono hE280
  replace hs73 := hs73.mono hE280
  replace Z151 := Z151.mono hE280
  replace Z146 := Z146.mono hE280
  replace Z137 := Z137.mono hE280
  replace hs66 := hs66.mono hE280
  replace Z129 := Z129.mono hE280
  replace Z123 := Z123.mono hE280
  replace Z113 := Z113.mono hE280
  replace hs59 := hs59.mono hE280
  replace Z105 := Z105.mono hE280
  replace Z99 := Z99.mono hE280
  replace Z89 := Z89.mono hE280
  replace hs52 := hs52.mono hE280
  replace Z81 := Z81.mono hE280
  replace Z75 := Z75.mono hE280
  replace Z65 := Z65.mono hE280
  replace hs45 := hs45.mono hE280
  replace Z57 := Z57.mono hE280
  replace Z51 := Z51.mono hE280
  replace Z41 := Z41.mono hE280
  replace hs38 := hs38.mono hE280
  replace Z33 := Z33.mono hE280
  replace Z27 := Z27.mono hE280
  replace Z19 := Z19.mono hE280
  replace Z13 := Z13.mono hE280
  replace Z5 := Z5.mono hE280
  replace hT := hT.mono hE280
  refine Gv (V_pick_t rfl rfl rfl) ?_
  refine Gm ?_
  (refine G_litZ rfl rfl (by decide) (by simp [fillS, zeros, setLs, setL, Value.cells, List.range, List.range.loop]; rfl) (by rfl) rfl rfl (.yes rfl rfl rfl rfl) ?_; intro b169 E169 hE169 hs169)
  replace hs165 := hs165.mono hE169
  replace hs161 := hs161.mono hE169
  replace Z262 := Z262.mono hE169
  replace hs136 := hs136.mono hE169
  replace Z252 := Z252.mono hE169
  replace hs122 := hs122.mono hE169
  replace Z242 := Z242.mono hE169
  replace hs104 := hs104.mono hE169
  replace Z217 := Z217.mono hE169
  replace Z207 := Z207.mono hE169
  replace hs87 := hs87.mono hE169
  replace Z199 := Z199.mono hE169
  replace Z193 := Z193.mono hE169
  replace Z183 := Z183.mono hE169
  replace hs80 := hs80.mono hE169
  replace Z175 := Z175.mono hE169
  replace Z169 := Z169.mono hE169
  replace Z159 := Z159.mono hE169
  replace hs73 := hs73.mono hE169
  replace Z151 := Z151.mono hE169
  replace Z146 := Z146.mono hE169
  replace Z137 := Z137.mono hE169
  replace hs66 := hs66.mono hE169
  replace Z129 := Z129.mono hE169
  replace Z123 := Z123.mono hE169
  replace Z113 := Z113.mono hE169
  replace hs59 := hs59.mono hE169
  replace Z105 := Z105.mono hE169
  replace Z99 := Z99.mono hE169
  replace Z89 := Z89.mono hE169
  replace hs52 := hs52.mono hE169
  replace Z81 := Z81.mono hE169
  replace Z75 := Z75.mono hE169
  replace Z65 := Z65.mono hE169
  replace hs45 := hs45.mono hE169
  replace Z57 := Z57.mono hE169
  replace Z51 := Z51.mono hE169
  replace Z41 := Z41.mono hE169
  replace hs38 := hs38.mono hE169
  replace Z33 := Z33.mono hE169
  replace Z27 := Z27.mono hE169
  replace Z19 := Z19.mono hE169
  replace Z13 := Z13.mono hE169
  replace Z5 := Z5.mono hE169
  replace hT := hT.mono hE169
  refine G_call (k := 19) (.mk rfl rfl rfl rfl) rfl rfl (.yes rfl rfl rfl rfl) (checks25_call _ _ _ _ _ _ _ (by exact SlE.toI (by assumption) rfl) (by omega) (by exact (by kernel_rfl : (_ : Bool) = _))) ?_
  rintro r281 E282 L283 hE284 ⟨rfl, rfl⟩
  replace hs169 := hs169.mono hE284
  replace hs165 := hs165.mono hE284
  replace hs161 := hs161.mono hE284
  replace Z262 := Z262.mono hE284
  replace hs136 := hs136.mono hE284
  replace Z252 := Z252.mono hE284
  replace hs122 := hs122.mono hE284
  replace Z242 := Z242.mono hE284
  replace hs104 := hs104.mono hE284
  replace Z217 := Z217.mono hE284
  replace Z207 := Z207.mono hE284
  replace hs87 := hs87.mono hE284
  replace Z199 := Z199.mono hE284
  replace Z193 := Z193.mono hE284
  replace Z183 := Z183.mono hE284
  replace hs80 := hs80.mono hE284
  replace Z175 := Z175.mono hE284
  replace Z169 := Z169.mono hE284
  replace Z159 := Z159.mono hE284
  replace hs73 := hs73.mono hE284
  replace Z151 := Z151.mono hE284
  replace Z146 := Z146.mono hE284
  replace Z137 := Z137.mono hE284
  replace hs66 := hs66.mono hE284
  replace Z129 := Z129.mono hE284
  replace Z123 := Z123.mono hE284
  replace Z113 := Z113.mono hE284
  replace hs59 := hs59.mono hE284
  replace Z105 := Z105.mono hE284
  replace Z99 := Z99.mono hE284
  replace Z89 := Z89.mono hE284
  replace hs52 := hs52.mono hE284
  replace Z81 := Z81.mono hE284
  replace Z75 := Z75.mono hE284
  replace Z65 := Z65.mono hE284
  replace hs45 := hs45.mono hE284
  replace Z57 := Z57.mono hE284
  replace Z51 := Z51.mono hE284
  replace Z41 := Z41.mono hE284
  replace hs38 := hs38.mono hE284
  replace Z33 := Z33.mono hE284
  replace Z27 := Z27.mono hE284
  replace Z19 := Z19.mono hE284
  replace Z13 := Z13.mono hE284
  replace Z5 := Z5.mono hE284
  replace hT := hT.mono hE284
  refine Gv (V_pick_t rfl rfl rfl) ?_
  refine Gm ?_
  (refine G_litZ rfl rfl (by decide) (by simp [fillS, zeros, setLs, setL, Value.cells, List.range, List.range.loop]; rfl) (by rfl) rfl rfl (.yes rfl rfl rfl rfl) ?_; intro b173 E173 hE173 hs173)
  replace hs169 := hs169.mono hE173
  replace hs165 := hs165.mono hE173
  replace hs161 := hs161.mono hE173
  replace Z262 := Z262.mono hE173
  replace hs136 := hs136.mono hE173
  replace Z252 := Z252.mono hE173
  replace hs122 := hs122.mono hE173
  replace Z242 := Z242.mono hE173
  replace hs104 := hs104.mono hE173
  replace Z217 := Z217.mono hE173
  replace Z207 := Z207.mono hE173
  replace hs87 := hs87.mono hE173
  replace Z199 := Z199.mono hE173
  replace Z193 := Z193.mono hE173
  replace Z183 := Z183.mono hE173
  replace hs80 := hs80.mono hE173
  replace Z175 := Z175.mono hE173
  replace Z169 := Z169.mono hE173
  replace Z159 := Z159.mono hE173
  replace hs73 := hs73.mono hE173
  replace Z151 := Z151.mono hE173
  replace Z146 := Z146.mono hE173
  replace Z137 := Z137.mono hE173
  replace hs66 := hs66.mono hE173
  replace Z129 := Z129.mono hE173
  replace Z123 := Z123.mono hE173
  replace Z113 := Z113.mono hE173
  replace hs59 := hs59.mono hE173
  replace Z105 := Z105.mono hE173
  replace Z99 := Z99.mono hE173
  replace Z89 := Z89.mono hE173
  replace hs52 := hs52.mono hE173
  replace Z81 := Z81.mono hE173
  replace Z75 := Z75.mono hE173
  replace Z65 := Z65.mono hE173
  replace hs45 := hs45.mono hE173
  replace Z57 := Z57.mono hE173
  replace Z51 := Z51.mono hE173
  replace Z41 := Z41.mono hE173
  replace hs38 := hs38.mono hE173
  replace Z33 := Z33.mono hE173
  replace Z27 := Z27.mono hE173
  replace Z19 := Z19.mono hE173
  replace Z13 := Z13.mono hE173
  replace Z5 := Z5.mono hE173
  replace hT := hT.mono hE173
  refine G_call (k := 19) (.mk rfl rfl rfl rfl) rfl rfl (.yes rfl rfl rfl rfl) (checks25_call _ _ _ _ _ _ _ (by exact SlE.toI (by assumption) rfl) (by omega) (by exact (by kernel_rfl : (_ : Bool) = _))) ?_
  rintro r285 E286 L287 hE288 ⟨rfl, rfl⟩
  replace hs173 := hs173.mono hE288
  replace hs169 := hs169.mono hE288
  replace hs165 := hs165.mono hE288
  replace hs161 := hs161.mono hE288
  replace Z262 := Z262.mono hE288
  replace hs136 := hs136.mono hE288
  replace Z252 := Z252.mono hE288
  replace hs122 := hs122.mono hE288
  replace Z242 := Z242.mono hE288
  replace hs104 := hs104.mono hE288
  replace Z217 := Z217.mono hE288
  replace Z207 := Z207.mono hE288
  replace hs87 := hs87.mono hE288
  replace Z199 := Z199.mono hE288
  replace Z193 := Z193.mono hE288
  replace Z183 := Z183.mono hE288
  replace hs80 := hs80.mono hE288
  replace Z175 := Z175.mono hE288
  replace Z169 := Z169.mono hE288
  replace Z159 := Z159.mono hE288
  replace hs73 := hs73.mono hE288
  replace Z151 := Z151.mono hE288
  replace Z146 := Z146.mono hE288
  replace Z137 := Z137.mono hE288
  replace hs66 := hs66.mono hE288
  replace Z129 := Z129.mono hE288
  replace Z123 := Z123.mono hE288
  replace Z113 := Z113.mono hE288
  replace hs59 := hs59.mono hE288
  replace Z105 := Z105.mono hE288
  replace Z99 := Z99.mono hE288
  replace Z89 := Z89.mono hE288
  replace hs52 := hs52.mono hE288
  replace Z81 := Z81.mono hE288
  replace Z75 := Z75.mono hE288
  replace Z65 := Z65.mono hE288
  replace hs45 := hs45.mono hE288
  replace Z57 := Z57.mono hE288
  replace Z51 := Z51.mono hE288
  replace Z41 := Z41.mono hE288
  replace hs38 := hs38.mono hE288
  replace Z33 := Z33.mono hE288
  replace Z27 := Z27.mono hE288
  replace Z19 := Z19.mono hE288
  replace Z13 := Z13.mono hE288
  replace Z5 := Z5.mono hE288
  replace hT := hT.mono hE288
  refine Gv (V_pick_t rfl rfl rfl) ?_
  refine Gm ?_
  refine Gy (V_move rfl rfl) ?_
  refine Gy (V_eql rfl rfl rfl) ?_
  refine Gv (V_pick_t rfl rfl rfl) ?_
  refine Gm ?_
  refine G.bool_t 180 rfl (by kernel_rfl) ?_
  refine Gy (V_move rfl rfl) ?_
  (refine G_litZ rfl rfl (by decide) (by simp [fillS, zeros, setLs, setL, Value.cells, List.range, List.range.loop]; rfl) (by rfl) rfl rfl (.yes rfl rfl rfl rfl) ?_; intro b182 E182 hE182 hs182)
  replace hs173 := hs173.mono hE182
  replace hs169 := hs169.mono hE182
  replace hs165 := hs165.mono hE182
  replace hs161 := hs161.mono hE182
  replace Z262 := Z262.mono hE182
  replace hs136 := hs136.mono hE182
  replace Z252 := Z252.mono hE182
  replace hs122 := hs122.mono hE182
  replace Z242 := Z242.mono hE182
  replace hs104 := hs104.mono hE182
  replace Z217 := Z217.mono hE182
  replace Z207 := Z207.mono hE182
  replace hs87 := hs87.mono hE182
  replace Z199 := Z199.mono hE182
  replace Z193 := Z193.mono hE182
  replace Z183 := Z183.mono hE182
  replace hs80 := hs80.mono hE182
  replace Z175 := Z175.mono hE182
  replace Z169 := Z169.mono hE182
  replace Z159 := Z159.mono hE182
  replace hs73 := hs73.mono hE182
  replace Z151 := Z151.mono hE182
  replace Z146 := Z146.mono hE182
  replace Z137 := Z137.mono hE182
  replace hs66 := hs66.mono hE182
  replace Z129 := Z129.mono hE182
  replace Z123 := Z123.mono hE182
  replace Z113 := Z113.mono hE182
  replace hs59 := hs59.mono hE182
  replace Z105 := Z105.mono hE182
  replace Z99 := Z99.mono hE182
  replace Z89 := Z89.mono hE182
  replace hs52 := hs52.mono hE182
  replace Z81 := Z81.mono hE182
  replace Z75 := Z75.mono hE182
  replace Z65 := Z65.mono hE182
  replace hs45 := hs45.mono hE182
  replace Z57 := Z57.mono hE182
  replace Z51 := Z51.mono hE182
  replace Z41 := Z41.mono hE182
  replace hs38 := hs38.mono hE182
  replace Z33 := Z33.mono hE182
  replace Z27 := Z27.mono hE182
  replace Z19 := Z19.mono hE182
  replace Z13 := Z13.mono hE182
  replace Z5 := Z5.mono hE182
  replace hT := hT.mono hE182
  refine G_callv (k := 20) (.mk rfl rfl rfl rfl) rfl rfl (.yes rfl rfl rfl rfl) (SameInts_call' _ _ _ _ _ _ _ _ _ _ (by assumption) (by exact SlE.toI (by assumption) rfl) (by omega) (by omega)) ?_
  refine Gv (V_pick_t rfl rfl rfl) ?_
  refine Gm ?_
  refine G.bool_t 185 rfl (by kernel_rfl) ?_
  refine Gy (V_move rfl rfl) ?_
  refine Gy (V_eql rfl rfl rfl) ?_
  refine Gv (V_pick_t rfl rfl rfl) ?_
  refine Gm ?_
  refine G.bool_t 189 rfl (by kernel_rfl) ?_
  refine Gy (V_move rfl rfl) ?_
  (refine G_litZ rfl rfl (by decide) (by simp [fillS, zeros, setLs, setL, Value.cells, List.range, List.range.loop]; rfl) (by rfl) rfl rfl (.yes rfl rfl rfl rfl) ?_; intro b191 E191 hE191 hs191)
  replace hs182 := hs182.mono hE191
  replace hs173 := hs173.mono hE191
  replace hs169 := hs169.mono hE191
  replace hs165 := hs165.mono hE191
  replace hs161 := hs161.mono hE191
  replace Z262 := Z262.mono hE191
  replace hs136 := hs136.mono hE191
  replace Z252 := Z252.mono hE191
  replace hs122 := hs122.mono hE191
  replace Z242 := Z242.mono hE191
  replace hs104 := hs104.mono hE191
  replace Z217 := Z217.mono hE191
  replace Z207 := Z207.mono hE191
  replace hs87 := hs87.mono hE191
  replace Z199 := Z199.mono hE191
  replace Z193 := Z193.mono hE191
  replace Z183 := Z183.mono hE191
  replace hs80 := hs80.mono hE191
  replace Z175 := Z175.mono hE191
  replace Z169 := Z169.mono hE191
  replace Z159 := Z159.mono hE191
  replace hs73 := hs73.mono hE191
  replace Z151 := Z151.mono hE191
  replace Z146 := Z146.mono hE191
  replace Z137 := Z137.mono hE191
  replace hs66 := hs66.mono hE191
  replace Z129 := Z129.mono hE191
  replace Z123 := Z123.mono hE191
  replace Z113 := Z113.mono hE191
  replace hs59 := hs59.mono hE191
  replace Z105 := Z105.mono hE191
  replace Z99 := Z99.mono hE191
  replace Z89 := Z89.mono hE191
  replace hs52 := hs52.mono hE191
  replace Z81 := Z81.mono hE191
  replace Z75 := Z75.mono hE191
  replace Z65 := Z65.mono hE191
  replace hs45 := hs45.mono hE191
  replace Z57 := Z57.mono hE191
  replace Z51 := Z51.mono hE191
  replace Z41 := Z41.mono hE191
  replace hs38 := hs38.mono hE191
  replace Z33 := Z33.mono hE191
  replace Z27 := Z27.mono hE191
  replace Z19 := Z19.mono hE191
  replace Z13 := Z13.mono hE191
  replace Z5 := Z5.mono hE191
  replace hT := hT.mono hE191
  refine G_callv (k := 20) (.mk rfl rfl rfl rfl) rfl rfl (.yes rfl rfl rfl rfl) (SameInts_call' _ _ _ _ _ _ _ _ _ _ (by assumption) (by exact SlE.toI (by assumption) rfl) (by omega) (by omega)) ?_
  refine Gv (V_pick_t rfl rfl rfl) ?_
  refine Gm ?_
  refine G.bool_t 194 rfl (by kernel_rfl) ?_
  refine Gy (V_move rfl rfl) ?_
  refine Gy (V_eql rfl rfl rfl) ?_
  refine Gv (V_pick_t rfl rfl rfl) ?_
  refine Gm ?_
  refine G.bool_t 198 rfl (by kernel_rfl) ?_
  refine Gy (V_move rfl rfl) ?_
  refine Gy (V_eql rfl rfl rfl) ?_
  refine Gv (V_pick_t rfl rfl rfl) ?_
  refine Ga ?_
  refine G_end (X_then (G_ret ?_))
  exact G_leave 0 (.cons (.tmp rfl) .nil) rfl (by repeat (first | assumption | refine Env.Le.trans (by assumption) ?_)) ⟨rfl, rfl⟩
end
end Go.Proofs.YtaibabmladgldaaGreatDoor
namespace Go.Proofs.YtaibabmladgldaaGreatDoor
open Go.RowKit
/-! What the row lays for texts of numbers. LAID internal/strconv.uint64pow10 strconv.ErrSyntax strconv.ErrRange -/
abbrev pow10s : List Int := [1, 10, 100, 1000, 10000, 100000, 1000000, 10000000, 100000000, 1000000000, 10000000000, 100000000000, 1000000000000, 10000000000000, 100000000000000, 1000000000000000, 10000000000000000, 100000000000000000, 1000000000000000000, 10000000000000000000]
abbrev RowLaid (E : Env) : Prop := LaidS E
theorem rowLaid {W : World} {laid : List (String × DataW Unit)} {d1 d2 : DataW Unit} (h : laidMet Tryz.prog laid W) (h0 : ("internal/strconv.uint64pow10", DataW.agg (pow10s.map fun n => .lit (.int .u64 n))) ∈ laid) (h1 : ("strconv.ErrSyntax", d1) ∈ laid) (h2 : ("strconv.ErrRange", d2) ∈ laid) : RowLaid (Env.of W) :=
  ⟨laid_ints (i := 2) (j := 4) (n := 2) h h0 (show Tryz.prog.globalNamed "internal/strconv.uint64pow10" = some 5 by kernel_rfl) (show (Tryz.prog.globals[5]?).map (·.type) = some 145 by kernel_rfl) Tryz.underlying145 Tryz.underlying122 (by kernel_rfl) rfl (by decide),
    laid_face h h1 (show Tryz.prog.globalNamed "strconv.ErrSyntax" = some 3 by kernel_rfl) (show (Tryz.prog.globals[3]?).map (·.type) = some 83 by kernel_rfl) Tryz.underlying83,
    laid_face h h2 (show Tryz.prog.globalNamed "strconv.ErrRange" = some 4 by kernel_rfl) (show (Tryz.prog.globals[4]?).map (·.type) = some 83 by kernel_rfl) Tryz.underlying83⟩
end Go.Proofs.YtaibabmladgldaaGreatDoor
namespace Go.Proofs.YtaibabmladgldaaGreatDoor
/-! What the rows of StackReads and StackKnown need, together. -/
end Go.Proofs.YtaibabmladgldaaGreatDoor
