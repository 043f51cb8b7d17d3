/-
  Rules and contracts, packed: S18, S27, H9, H10, H11.
-/
import Derived.Test.YtaibabmladgldaaDoorQ6
set_option maxHeartbeats 1000000
set_option linter.unusedSimpArgs false
set_option linter.unusedVariables false
set_option maxHeartbeats 2000000
set_option maxRecDepth 20000
namespace Go.Proofs.YtaibabmladgldaaDoor
open Go.RowKit
/-! stack.Path. -/
def pathM (g : Gr) (l : List Spt) : List Int × Int := if chkS g l ≠ 0 then ([], chkS g l) else (l.map fun s => leftP g.prods s.1, 0)
theorem in_row {g : Gr} {rows : List Row} (hrows : rows.map (·.2.2) = g.prods) {q d : Int} (h : ¬ outS g.prods (q, d)) : ∃ row : Row, rows[q.toNat]? = some row ∧ leftP g.prods q = row.2.2.1 ∧ rightP g.prods q = row.2.2.2 ∧ row.2.2 ∈ g.prods ∧ 0 ≤ q ∧ q.toNat < rows.length ∧ 0 ≤ d ∧ d ≤ row.2.2.2.length := by
  simp only [outS, not_or, Int.not_lt, Int.not_le] at h
  obtain ⟨h1, h2, h3, h4⟩ := h
  have hlen : g.prods.length = rows.length := by rw [← hrows]; simp
  obtain ⟨k, rfl⟩ : ∃ k : Nat, q = k := ⟨q.toNat, by omega⟩
  have hk : k < rows.length := by omega
  have hrow := List.getElem?_eq_getElem hk
  have hpk : g.prods[k]? = some rows[k].2.2 := by rw [← hrows, List.getElem?_map, hrow]; rfl
  have hr := rightP_eq hpk
  rw [hr] at h4
  exact ⟨rows[k], hrow, leftP_eq hpk, hr, List.mem_of_getElem? hpk, h1, hk, h3, h4⟩
section
variable (E : Env) (L : List Res) (gv : Value) (g : Gr) (hg : GrE E gv g) (hl : Light g) (p : Option Addr) (n c : Nat) (l : List Spt) (hs : SlE E 2 p n (spC l)) (hn : n ≤ 9223372036854775807)
include hg hl hs hn
theorem SPath_call : CallS Tryd.prog 11 #[gv, .slice p n c] E L (fun r E' L' => (∃ a n' c', r = .tuple #[.slice a n' c', .int .i64 (pathM g l).2] ∧ SlE E' 1 a n' (i64s (pathM g l).1) ∧ n' ≤ c' ∧ n' ≤ 1000) ∧ L' = L) := by
  have hch := fun L0 => SCheck_call E L0 gv g hg hl p n c l hs hn
  have hnil : SlE E 1 none 0 (i64s []) := SlE.nil
  have en := hs.nSp
  unfold pathM
  by_cases h : chkS g l ≠ 0
  · rw [if_pos h]
    generalize chkS g l = r at *
    obtain ⟨tp, tc, np, nc, pp, pc, rfl, ht, hn', _, k1, k2, k3⟩ := hg
    refine CallS.intro (l := [_, _]) _ Tryd.func11 rfl Tryd.ntmps11 rfl ?_
    refine G_seq (G_region ?_)
    (refine G_boxA rfl rfl rfl rfl (.none rfl) ?_; intro b2)
    refine Ga ?_
    refine Ga ?_
    refine G_end (X_then (G_seq (G_seq (G_region ?_))))
    refine Gv (V_loadA rfl rfl (Cells.own (.head _)) rfl) ?_
    refine Gm ?_
    refine G_callv (k := 26) (.mk rfl rfl rfl rfl) rfl rfl (.none rfl) (hch _) ?_
    refine Ga ?_
    refine G_end (X_then (G_seq (G_region ?_)))
    refine Gm ?_
    refine Gv (V_neq rfl rfl rfl) ?_
    refine G_end (X_then ?_)
    refine G_cond_t rfl (decide_eq_true (by omega)) ?_
    refine G_seq (G_region ?_)
    refine Gm ?_
    refine Ga ?_
    refine Ga ?_
    refine G_end (X_then (G_ret (X_then_ret ?_)))
    refine G_leaveS (.drop _ (.nil _)) (by exact (.cons (.tmp rfl) (.cons (.tmp rfl) (.nil)))) rfl ?_ ?_
    · exact (.refl _)
    exact ⟨⟨_, ⟨_, ⟨_, ⟨rfl, ⟨(by assumption), ⟨(by omega), (by omega)⟩⟩⟩⟩⟩⟩, rfl⟩
  have h0 : chkS g l = 0 := by omega
  have h64 := chkS_64 h0
  rw [if_neg h]
  have hin := chkS_in h0
  rw [h0] at hch
  obtain ⟨tp, tc, np, nc, pp, pc, rfl, ht, hn', ⟨rows, hrows, hps, hre⟩, k1, k2, k3⟩ := hg
  have hlen : g.prods.length = rows.length := by rw [← hrows]; simp
  have q3 := hl.p
  subst en
  refine CallS.intro (l := [_, _]) _ Tryd.func11 rfl Tryd.ntmps11 rfl ?_
  refine G_seq (G_region ?_)
  (refine G_boxA rfl rfl rfl rfl (.none rfl) ?_; intro b2)
  refine Ga ?_
  refine Ga ?_
  refine G_end (X_then (G_seq (G_seq (G_region ?_))))
  refine Gv (V_loadA rfl rfl (Cells.own (.head _)) rfl) ?_
  refine Gm ?_
  refine G_callv (k := 26) (.mk rfl rfl rfl rfl) rfl rfl (.none rfl) (hch _) ?_
  refine Ga ?_
  refine G_end (X_then (G_seq (G_region ?_)))
  refine Gm ?_
  refine Gv (V_neq rfl rfl rfl) ?_
  refine G_end (X_then ?_)
  refine G_cond_f rfl (by kernel_rfl) ?_
  refine G_skip (X_then (G_seq (G_region ?_)))
  (refine G_alloc rfl rfl rfl (.none rfl) ?_; intro b7)
  refine G_end (X_then (G_seq (G_seq (G_region ?_))))
  refine Gm ?_
  refine G_call (k := 27) (.mk rfl rfl rfl rfl) rfl rfl (.none rfl) (spots_call _ _ _ _ _) ?_
  rintro r1 E2 L3 hE4 ⟨z5, ⟨rfl, ⟨rfl, rfl⟩⟩⟩
  replace hnil := hnil.mono hE4
  replace ht := ht.mono hE4
  replace hn' := hn'.mono hE4
  replace hps := hps.mono hE4
  replace hre := hre.mono hE4
  replace hs := hs.mono hE4
  refine G_end (X_then (G_block ?_))
  refine G.nilSl 3 1 ?_
  refine G.front (.tail _ (.head _ _)) ?_
  refine G_rangeI (σ := Env × Option Addr × Nat × List Int) (enc := spEnc) rfl (iter_spots E z5 p _ c l hs (by omega)) (fun v => v.1)
    (fun v => .sl 3 1 v.2.1 v.2.2.2.length v.2.2.1 (i64s v.2.2.2) :: .blk b7 (.cells #[.slice v.2.1 v.2.2.2.length v.2.2.1] 32 (0, 0)) :: GB b2 g tp tc np nc pp pc :: L)
    (fun pre v => v.2.2.2 = pre.map (fun x => leftP g.prods x.1.1)) (fun _ _ _ => False) (E, none, 0, []) rfl rfl (.refl _) rfl (fun _ => rfl) ?_ ?_ ?_
  · rintro y D tm fn M pre ⟨⟨sp, sd⟩, j⟩ ⟨E1, a, ca, ts⟩ hpre hts hE
    obtain ⟨hx, hj, hlt⟩ := zip_pre hpre
    simp only at hx hj hts hE
    simp only [List.cons_append]
    dsimp only [spEnc]
    have hno := hin (sp, sd) (List.mem_of_getElem? hx)
    obtain ⟨row, r1, r2, r3, r4, r5, r6, r7, r8⟩ := in_row hrows hno
    replace hps := hps.mono hE
    have x1 := prows_left r1
    have htl : ts.length = pre.length := by rw [hts, List.length_map]
    obtain ⟨LM, hLM⟩ : ∃ X, L ++ M = X := ⟨_, rfl⟩
    rw [hLM]
    refine G_region ?_
    (refine G_alloc rfl rfl rfl (.none rfl) ?_; intro b9)
    refine G_storeA rfl rfl rfl rfl (by simp [Value.oneCell']) rfl (.none rfl) (.head _ _ _) rfl ?_
    refine G_end (X_then ?_)
    refine G_begin (.tail _ (.head _ _ _)) ?_
    refine G_block ?_
    refine G_drawX 11 [(0, 1), (1, 0), (2, 1), (3, 0), (4, 1), (5, 1), (6, 0), (7, 1), (8, 2), (9, 4), (10, 4)] mixed (by kernel_rfl) ?_
    refine F_load rfl (.tail _ (.tail _ (.tail _ (.tail _ (.head _))))) (V_load rfl rfl (Cell.own1 (.head _))) rfl rfl (.none rfl) ?_
    refine F_pure rfl (fun _ _ => V_fieldAddr rfl rfl (by decide)) rfl rfl (.none rfl) ?_
    refine F_load rfl (.tail _ (.tail _ (.tail _ (.tail _ (.tail _ (.head _)))))) (V_load rfl rfl (Cell.own (.head _) rfl)) rfl rfl (.none rfl) ?_
    refine F_pure rfl (fun _ _ => V_fieldAddr rfl rfl (by decide)) rfl rfl (.none rfl) ?_
    refine F_load rfl (.head _) (V_load rfl rfl (Cell.own (.head _) rfl)) rfl rfl (.none rfl) ?_
    refine F_loadE rfl (V_idxAddr rfl rfl rfl (SlE.rd (by assumption)) (by omega) (by omega)) rfl rfl (.none rfl) ?_
    refine F_pure rfl (fun _ _ => V_fieldAddrX rfl rfl (by assumption) (by omega) (by decide)) rfl rfl (.none rfl) ?_
    refine F_loadE rfl (V_loadS rfl rfl (SlE.rd (by assumption)) (by assumption) (by simp)) rfl rfl (.none rfl) ?_
    (refine F_litZ rfl rfl rfl (by decide) (by simp [fillS, zeros, setLs, setL, Value.cells, List.range, List.range.loop]; rfl) (by rfl) rfl rfl (.none rfl) ?_; intro b28 E28 hE28 hs28)
    replace hps := hps.mono hE28
    (refine F_appendT rfl rfl rfl rfl (by assumption) (by simp [Value.oneCell', strs, i64s]) (by omega) (by omega) rfl rfl (.none rfl) (fun _ _ => (.tail _ (.tail _ (.tail _ (.head _ _ _))))) ?_; intro a29 c29; refine ⟨_, (.drop (by kernel_rfl) (.drop (by kernel_rfl) (.drop (by kernel_rfl) (.drop (by kernel_rfl) (.drop (by kernel_rfl) (.nil)))))), ?_⟩)
    refine F_store1 rfl rfl rfl rfl rfl rfl rfl (.none rfl) (.tail _ (.tail _ (.tail _ (.tail _ (.head _ _ _))))) (.nil) ?_
    (refine F_end (.nil _) ?_; dsimp only [List.drop])
    refine G_end (X_block ?_)
    refine G.drop ?_
    rw [← hLM, ← r2]
    have zl : (ts ++ [leftP g.prods sp]).length = ts.length + 1 := by simp
    have zs : i64s ts ++ [Value.int .i64 (leftP g.prods sp)] = i64s (ts ++ [leftP g.prods sp]) := by simp [i64s]
    rw [zs, ← zl]
    exact G_rEnd (E28, a29, c29, ts ++ [leftP g.prods sp]) (by simp only [hts, List.map_append, List.map_cons, List.map_nil]) rfl hE28 rfl
  · rintro D ⟨E1, a, ca, ts⟩ hts hE
    simp only at hts hE ⊢
    have hts2 : ts = l.map (fun s => leftP g.prods s.1) := by rw [hts]; apply List.ext_getElem <;> simp
    have htl : ts.length = l.length := by rw [hts2, List.length_map]
    rw [← hts2]
    refine G.freezeSl (.tail _ (.head _ _)) ?_
    intro E2 hE2 hts3 hca
    refine X_block (X_then (G_seq (G_region ?_)))
    refine Gv (V_load rfl rfl (Cell.own1 (.tail _ (.head _)))) ?_
    refine Ga ?_
    refine Ga ?_
    refine G_end (X_then (G_ret ?_))
    refine G_leave_ms [D] ?_
    refine G_leaveS (.drop _ (.drop _ (.nil _))) (by exact (.cons (.tmp rfl) (.cons (.tmp rfl) (.nil)))) rfl ?_ ?_
    · exact (hE.trans hE2)
    exact ⟨⟨_, ⟨_, ⟨_, ⟨rfl, ⟨(by assumption), ⟨(by assumption), (by omega)⟩⟩⟩⟩⟩⟩, rfl⟩
  · rintro D q pre v hpre hv
    exact hv.elim
end
end Go.Proofs.YtaibabmladgldaaDoor
set_option linter.unusedSimpArgs false
set_option linter.unusedVariables false
set_option maxHeartbeats 2000000
set_option maxRecDepth 20000
namespace Go.Proofs.YtaibabmladgldaaDoor
open Go.RowKit
/-! stack.Rest. -/
/-- What a Spot has yet to come. -/
def restS (ps : List Pr) (s : Spt) : List Int := (rightP ps s.1).drop s.2.toNat
def restM (g : Gr) (l : List Spt) : List Int × Int := if chkS g l ≠ 0 then ([], chkS g l) else (l.reverse.flatMap (restS g.prods), 0)
theorem i64s_dropN (l : List Int) (d : Nat) : (i64s l).drop (d * 1) = i64s (l.drop d) := by simp [i64s, List.map_drop]
theorem rest_len {g : Gr} (hl : Light g) {l : List Spt} (hin : ∀ s, s ∈ l → ¬ outS g.prods s) : (l.flatMap (restS g.prods)).length ≤ 8 * l.length := by
  induction l with
  | nil => simp
  | cons s l ih =>
    have h1 := ih (fun x hx => hin x (.tail _ hx))
    have h2 : (restS g.prods s).length ≤ 8 := by
      have := hin s (.head _)
      obtain ⟨q, d⟩ := s
      simp only [outS, not_or, Int.not_lt, Int.not_le] at this
      obtain ⟨qn, rfl⟩ : ∃ k : Nat, q = k := ⟨q.toNat, by omega⟩
      have hqn : g.prods[qn]? = some g.prods[qn] := List.getElem?_eq_getElem (by omega)
      have h8 := hl.ps _ (List.mem_of_getElem? hqn)
      simp only [restS, rightP_eq hqn, List.length_drop]
      omega
    simp only [List.flatMap_cons, List.length_append, List.length_cons]
    omega
section
variable (E : Env) (L : List Res) (gv : Value) (g : Gr) (hg : GrE E gv g) (hl : Light g) (p : Option Addr) (n c : Nat) (l : List Spt) (hs : SlE E 2 p n (spC l)) (hn : n ≤ 9223372036854775807)
include hg hl hs hn
theorem SRest_call : CallS Tryd.prog 9 #[gv, .slice p n c] E L (fun r E' L' => (∃ a n' c', r = .tuple #[.slice a n' c', .int .i64 (restM g l).2] ∧ SlE E' 1 a n' (i64s (restM g l).1) ∧ n' ≤ c' ∧ n' ≤ 1000) ∧ L' = L) := by
  have hch := fun L0 => SCheck_call E L0 gv g hg hl p n c l hs hn
  have hnil : SlE E 1 none 0 (i64s []) := SlE.nil
  have en := hs.nSp
  unfold restM
  by_cases h : chkS g l ≠ 0
  · rw [if_pos h]
    generalize chkS g l = r at *
    obtain ⟨tp, tc, np, nc, pp, pc, rfl, ht, hn', _, k1, k2, k3⟩ := hg
    refine CallS.intro (l := [_, _]) _ Tryd.func9 rfl Tryd.ntmps9 rfl ?_
    refine G_seq (G_region ?_)
    (refine G_boxA rfl rfl rfl rfl (.none rfl) ?_; intro b2)
    (refine G_box1 rfl rfl rfl rfl rfl (.none rfl) ?_; intro b3)
    refine Ga ?_
    refine Ga ?_
    refine G_end (X_then (G_seq (G_seq (G_region ?_))))
    refine Gv (V_loadA rfl rfl (Cells.own (.tail _ (.head _))) rfl) ?_
    refine Gv (V_load rfl rfl (Cell.own1 (.head _))) ?_
    refine G_callv (k := 26) (.mk rfl rfl rfl rfl) rfl rfl (.none rfl) (hch _) ?_
    refine Ga ?_
    refine G_end (X_then (G_seq (G_region ?_)))
    refine Gm ?_
    refine Gv (V_neq rfl rfl rfl) ?_
    refine G_end (X_then ?_)
    refine G_cond_t rfl (decide_eq_true (by omega)) ?_
    refine G_seq (G_region ?_)
    refine Gm ?_
    refine Ga ?_
    refine Ga ?_
    refine G_end (X_then (G_ret (X_then_ret ?_)))
    refine G_leaveS (.drop _ (.drop _ (.nil _))) (by exact (.cons (.tmp rfl) (.cons (.tmp rfl) (.nil)))) rfl ?_ ?_
    · exact (.refl _)
    exact ⟨⟨_, ⟨_, ⟨_, ⟨rfl, ⟨(by assumption), ⟨(by omega), (by omega)⟩⟩⟩⟩⟩⟩, rfl⟩
  have h0 : chkS g l = 0 := by omega
  have h64 := chkS_64 h0
  rw [if_neg h]
  have hin := chkS_in h0
  rw [h0] at hch
  obtain ⟨tp, tc, np, nc, pp, pc, rfl, ht, hn', ⟨rows, hrows, hps, hre⟩, k1, k2, k3⟩ := hg
  have hlen : g.prods.length = rows.length := by rw [← hrows]; simp
  have q3 := hl.p
  subst en
  refine CallS.intro (l := [_, _]) _ Tryd.func9 rfl Tryd.ntmps9 rfl ?_
  refine G_seq (G_region ?_)
  (refine G_boxA rfl rfl rfl rfl (.none rfl) ?_; intro b2)
  (refine G_box1 rfl rfl rfl rfl rfl (.none rfl) ?_; intro b3)
  refine Ga ?_
  refine Ga ?_
  refine G_end (X_then (G_seq (G_seq (G_region ?_))))
  refine Gv (V_loadA rfl rfl (Cells.own (.tail _ (.head _))) rfl) ?_
  refine Gv (V_load rfl rfl (Cell.own1 (.head _))) ?_
  refine G_callv (k := 26) (.mk rfl rfl rfl rfl) rfl rfl (.none rfl) (hch _) ?_
  refine Ga ?_
  refine G_end (X_then (G_seq (G_region ?_)))
  refine Gm ?_
  refine Gv (V_neq rfl rfl rfl) ?_
  refine G_end (X_then ?_)
  refine G_cond_f rfl (by kernel_rfl) ?_
  refine G_skip (X_then (G_seq (G_region ?_)))
  (refine G_alloc rfl rfl rfl (.none rfl) ?_; intro b7)
  refine G_end (X_then (G_seq (G_seq (G_region ?_))))
  refine Gv (V_load rfl rfl (Cell.own1 (.tail _ (.head _)))) ?_
  refine G_call (k := 27) (.mk rfl rfl rfl rfl) rfl rfl (.none rfl) (spots_call _ _ _ _ _) ?_
  rintro r1 E2 L3 hE4 ⟨z5, ⟨rfl, ⟨rfl, rfl⟩⟩⟩
  replace hnil := hnil.mono hE4
  replace ht := ht.mono hE4
  replace hn' := hn'.mono hE4
  replace hps := hps.mono hE4
  replace hre := hre.mono hE4
  replace hs := hs.mono hE4
  refine G_end (X_then (G_block ?_))
  refine G.nilSl 3 1 ?_
  refine G.front (.tail _ (.head _ _)) ?_
  refine G_rangeI (σ := Env × Option Addr × Nat × List Int) (enc := spEnc) rfl (iter_spots E z5 p _ c l hs (by omega)) (fun v => v.1)
    (fun v => .sl 3 1 v.2.1 v.2.2.2.length v.2.2.1 (i64s v.2.2.2) :: .blk b7 (.cells #[.slice v.2.1 v.2.2.2.length v.2.2.1] 32 (0, 0)) :: .blk b3 (.cells #[.slice p l.length c] 26 (0, 0)) :: GB b2 g tp tc np nc pp pc :: L)
    (fun pre v => v.2.2.2 = (l.reverse.take pre.length).flatMap (restS g.prods)) (fun _ _ _ => False) (E, none, 0, []) (by simp) rfl (.refl _) rfl (fun _ => rfl) ?_ ?_ ?_
  · rintro y D tm fn M pre ⟨x0, j⟩ ⟨E1, a, ca, ts⟩ hpre hts hE
    obtain ⟨hx, hj, hlt⟩ := zip_pre hpre
    simp only at hx hj hts hE
    simp only [List.cons_append]
    dsimp only [spEnc]
    have hidx : l.length - 1 - pre.length < l.length := by omega
    have hxl := List.getElem?_eq_getElem hidx
    have htk : (l.reverse.take (pre.length + 1)).flatMap (restS g.prods) = (l.reverse.take pre.length).flatMap (restS g.prods) ++ restS g.prods l[l.length - 1 - pre.length] := by
      rw [List.take_succ_eq_append_getElem (by simpa using hlt), List.flatMap_append]
      simp [List.getElem_reverse]
    have htl8 : ts.length ≤ 512 := by
      rw [hts]
      have h1 := rest_len hl (l := l.reverse.take pre.length) (fun s hs => hin s (by have := List.mem_of_mem_take hs; simpa using this))
      have h2 : (l.reverse.take pre.length).length ≤ 64 := by rw [List.length_take, List.length_reverse]; omega
      omega
    have hno := hin _ (List.mem_of_getElem? hxl)
    generalize l[l.length - 1 - pre.length] = sx at *
    obtain ⟨sp, sd⟩ := sx
    have y1 : ((spC l).drop (((l.length : Int) - 1 - (j : Int)).toNat * 2)).take 2 = [.int .i64 sp, .int .i64 sd] := by
      rw [show ((l.length : Int) - 1 - (j : Int)).toNat = l.length - 1 - pre.length by omega]
      exact spC_get hxl
    obtain ⟨row, r1, r2, r3, r4, r5, r6, r7, r8⟩ := in_row hrows hno
    have h8 := hl.ps _ r4
    replace hps := hps.mono hE
    replace hre := hre.mono hE
    replace hs := hs.mono hE
    have x1 := prows_right r1
    have x2 := (hre.get r1).tail (l := sd.toNat) (c := row.2.1) (by omega) (hre.cap r1)
    rw [i64s_dropN] at x2
    have hrs : restS g.prods (sp, sd) = row.2.2.2.drop sd.toNat := by simp only [restS, r3]
    have x9 := i64s_one (row.2.2.2.drop sd.toNat)
    rw [hrs] at htk
    have hdl : (row.2.2.2.drop sd.toNat).length = row.2.2.2.length - sd.toNat := List.length_drop
    obtain ⟨LM, hLM⟩ : ∃ X, L ++ M = X := ⟨_, rfl⟩
    rw [hLM]
    refine G_region ?_
    refine Ga ?_
    refine G_end (X_then ?_)
    refine G_begin (.head _ _ _) ?_
    refine G_block (G_seq (G_region ?_))
    refine Gv (V_load rfl rfl (Cell.own1 (.tail _ (.tail _ (.tail _ (.tail _ (.head _))))))) ?_
    refine Gv (V_load rfl rfl (Cell.own1 (.tail _ (.tail _ (.tail _ (.tail _ (.head _))))))) ?_
    refine Gv (V_lenS rfl rfl) ?_
    refine Gv (V_sub_i64 rfl rfl rfl (by omega) (by omega)) ?_
    refine Gm ?_
    refine Gv (V_sub_i64 rfl rfl rfl (by omega) (by omega)) ?_
    refine Gv (V_idxAddr rfl rfl rfl (SlE.rd (by assumption)) (by omega) (by omega)) ?_
    refine Gv (V_loadAS rfl rfl (SlE.rd (by assumption)) (by assumption) (by simp) (by rfl)) ?_
    (refine G_alloc rfl rfl rfl (.none rfl) ?_; intro b9)
    refine G_storeA rfl rfl rfl rfl (by simp [Value.oneCell']) rfl (.none rfl) (.head _ _ _) rfl ?_
    refine G_end (X_then ?_)
    (refine G_drawT 11 mixed (by kernel_rfl) ?_; dsimp only [List.take, List.drop])
    refine Q_val (V_load rfl rfl (Cell.own1 (.tail _ (.tail _ (.tail _ (.tail _ (.head _))))))) rfl rfl (.none rfl) ?_
    refine Q_val (V_fieldAddr rfl rfl (by decide)) rfl rfl (.none rfl) ?_
    refine Q_val (V_load rfl rfl (Cell.own (.tail _ (.tail _ (.tail _ (.tail _ (.tail _ (.tail _ (.head _))))))) rfl)) rfl rfl (.none rfl) ?_
    refine Q_val (V_fieldAddr rfl rfl (by decide)) rfl rfl (.none rfl) ?_
    refine Q_val (V_load rfl rfl (Cell.own (.head _) rfl)) rfl rfl (.none rfl) ?_
    refine Q_val (V_idxAddr rfl rfl rfl (SlE.rd (by assumption)) (by omega) (by omega)) rfl rfl (.none rfl) ?_
    refine Q_val (V_fieldAddrE rfl rfl (by assumption) (by omega) (by decide)) rfl rfl (.none rfl) ?_
    refine Q_val (V_loadS rfl rfl (SlE.rd (by assumption)) (by assumption) (by simp)) rfl rfl (.none rfl) ?_
    refine Q_val (V_fieldAddr rfl rfl (by decide)) rfl rfl (.none rfl) ?_
    refine Q_val (V_load rfl rfl (Cell.own (.head _) rfl)) rfl rfl (.none rfl) ?_
    refine Q_val (V_slTail rfl rfl rfl (by omega) (by omega)) rfl rfl (.none rfl) ?_
    refine Q_endT ?_
    (refine G_append rfl rfl rfl (SlE.rd (by assumption)) (by assumption) (by omega) (by omega) rfl rfl (.none rfl) (fun _ _ => (.tail _ (.tail _ (.tail _ (.head _ _ _))))) ?_; intro a39 c39)
    refine G_store1 rfl rfl rfl rfl rfl rfl (.none rfl) (.tail _ (.tail _ (.tail _ (.tail _ (.head _ _ _))))) ?_
    refine G_end (X_block ?_)
    refine G.drop ?_
    rw [← hLM]
    have zl : (ts ++ row.2.2.2.drop sd.toNat).length = ts.length + (row.2.2.2.length - sd.toNat) := by rw [List.length_append, hdl]
    have zs : i64s ts ++ i64s (row.2.2.2.drop sd.toNat) = i64s (ts ++ row.2.2.2.drop sd.toNat) := by simp [i64s]
    rw [zs, ← zl]
    exact G_rEnd (E1, a39, c39, ts ++ row.2.2.2.drop sd.toNat) (by simp only [List.length_append, List.length_singleton]; rw [htk, hts]) rfl (.refl _) rfl
  · rintro D ⟨E1, a, ca, ts⟩ hts hE
    simp only at hts hE ⊢
    rw [List.length_zipIdx, List.take_of_length_le (by simp)] at hts
    have htl8 : ts.length ≤ 512 := by
      rw [hts]
      have h1 := rest_len hl (l := l.reverse) (fun s hs => hin s (by simpa using hs))
      rw [List.length_reverse] at h1
      omega
    rw [← hts]
    refine G.freezeSl (.tail _ (.head _ _)) ?_
    intro E2 hE2 hts3 hca
    refine X_block (X_then (G_seq (G_region ?_)))
    refine Gv (V_load rfl rfl (Cell.own1 (.tail _ (.head _)))) ?_
    refine Ga ?_
    refine Ga ?_
    refine G_end (X_then (G_ret ?_))
    refine G_leave_ms [D] ?_
    refine G_leaveS (.drop _ (.drop _ (.drop _ (.nil _)))) (by exact (.cons (.tmp rfl) (.cons (.tmp rfl) (.nil)))) rfl ?_ ?_
    · exact (hE.trans hE2)
    exact ⟨⟨_, ⟨_, ⟨_, ⟨rfl, ⟨(by assumption), ⟨(by assumption), (by omega)⟩⟩⟩⟩⟩⟩, rfl⟩
  · rintro D q pre v hpre hv
    exact hv.elim
end
end Go.Proofs.YtaibabmladgldaaDoor
set_option linter.unusedSimpArgs false
set_option linter.unusedVariables false
set_option maxHeartbeats 2000000
set_option maxRecDepth 20000
namespace Go.Proofs.YtaibabmladgldaaDoor
open Go.RowKit
/-! The reference's check of a grammar. -/
theorem snoc_all {α : Type} {l : List α} {f : α → Bool} {i : Nat} (hi : i < l.length) : (l.take (i + 1)).all f = ((l.take i).all f && f l[i]) := by
  rw [List.take_succ_eq_append_getElem hi, List.all_append]; simp
section
variable (E : Env) (L : List Res)
theorem full_call (gv : Value) (g : Gr) (hg : GrE E gv g) (hl : Light g) : CallV Tryd.prog 50 #[gv] E L (.int .i64 (if fullB g = true then 6 else 0)) := by
  obtain ⟨tp, tc, np, nc, pp, pc, rfl, ht, hn, ⟨rows, hrows, hps, hre⟩, k1, k2, k3⟩ := hg
  have hlen : g.prods.length = rows.length := by rw [← hrows]; simp
  have q1 := hl.t; have q2 := hl.n; have q3 := hl.p
  refine CallS.toV (CallS.intro (l := [_]) _ Tryd.func50 rfl Tryd.ntmps50 rfl ?_)
  by_cases h1 : g.toks.length ≤ 8 ∧ g.names.length ≤ 8 ∧ g.prods.length ≤ 24
  · have e : g.prods.any (fun p => decide (6 < p.2.length)) = rows.any (fun x => decide (6 < x.2.2.2.length)) := by rw [← hrows, List.any_map]; rfl
    rw [fullB_eq h1, e]
    obtain ⟨h1, h2, h3⟩ := h1
    refine G_seq (G_region ?_)
    (refine G_boxA rfl rfl rfl rfl (.none rfl) ?_; intro b1)
    refine Ga ?_
    refine G_end (X_then (G_seq (G_seq (G_region ?_))))
    refine Gv (V_fieldAddr rfl rfl (by decide)) ?_
    refine Gv (V_load rfl rfl (Cell.own (.head _) rfl)) ?_
    refine Gv (V_lenS rfl rfl) ?_
    refine Gv (V_gtr rfl rfl rfl) ?_
    refine Gm ?_
    refine G.bool_f 8 rfl (decide_eq_false (by omega)) ?_
    refine Gy (V_fieldAddr rfl rfl (by decide)) ?_
    refine Gy (V_load rfl rfl (Cell.own (.head _) rfl)) ?_
    refine Gy (V_lenS rfl rfl) ?_
    refine Gy (V_gtr rfl rfl rfl) ?_
    refine Gv (V_pick_f rfl rfl rfl) ?_
    refine Gm ?_
    refine G.bool_f 14 rfl (decide_eq_false (by omega)) ?_
    refine Gy (V_fieldAddr rfl rfl (by decide)) ?_
    refine Gy (V_load rfl rfl (Cell.own (.head _) rfl)) ?_
    refine Gy (V_lenS rfl rfl) ?_
    refine Gy (V_gtr rfl rfl rfl) ?_
    refine Gv (V_pick_f rfl rfl rfl) ?_
    refine G_end (X_then ?_)
    refine G_cond_f rfl (decide_eq_false (by omega)) ?_
    refine G_skip (X_then (G_seq (G_seq (G_region ?_))))
    refine Ga ?_
    refine G_end (X_then (G_block ?_))
    refine G_loop (α := Nat) (fun i => [(1, .pointer (some ⟨b1, 0, none⟩)), (3, .int .i64 i)]) (fun _ => E) (fun _ => GB b1 g tp tc np nc pp pc :: L)
      (fun i => i ≤ rows.length ∧ ∀ k, k < i → (hk : k < rows.length) → decide (6 < rows[k].2.2.2.length) = false) (fun i => rows.length - i) 0 ⟨Nat.zero_le _, fun k hk => by cases hk⟩ ⟨rfl, rfl, trivial⟩ rfl rfl ?_
    rintro i ⟨hi, hall⟩
    by_cases hlt : i < rows.length
    · have hx := prows_right (List.getElem?_eq_getElem hlt)
      by_cases hb : 6 < rows[i].2.2.2.length
      · rw [any_of hlt (f := fun x : Row => decide (6 < x.2.2.2.length)) (decide_eq_true hb)]
        refine G_seq (G_seq (G_region ?_))
        refine Gm ?_
        refine Gv (V_fieldAddr rfl rfl (by decide)) ?_
        refine Gv (V_load rfl rfl (Cell.own (.head _) rfl)) ?_
        refine Gv (V_lenS rfl rfl) ?_
        refine Gv (V_lss rfl rfl rfl) ?_
        refine G_end (X_then ?_)
        refine G_cond_t rfl (decide_eq_true (by omega)) ?_
        refine G_skip (X_then (G_seq (G_block (G_seq (G_region ?_)))))
        refine Gv (V_fieldAddr rfl rfl (by decide)) ?_
        refine Gv (V_load rfl rfl (Cell.own (.head _) rfl)) ?_
        refine Gm ?_
        refine Gv (V_idxAddr rfl rfl rfl (SlE.rd (by assumption)) (by omega) (by omega)) ?_
        refine Gv (V_fieldAddrE rfl rfl (by assumption) (by omega) (by decide)) ?_
        refine Gv (V_loadS rfl rfl (SlE.rd (by assumption)) (by assumption) (by simp)) ?_
        refine Gv (V_lenS rfl rfl) ?_
        refine Gv (V_gtr rfl rfl rfl) ?_
        refine G_end (X_then ?_)
        refine G_cond_t rfl (decide_eq_true (by omega)) ?_
        refine G_seq (G_region ?_)
        refine Ga ?_
        refine G_end (X_then (G_ret (X_block_ret (X_then_ret (X_then_ret (X_block_ret (X_then_ret ?_)))))))
        refine G_leaveS (.drop _ (.nil _)) (by exact (.cons (.tmp rfl) (.nil))) rfl ?_ ?_
        · exact (.refl _)
        exact ⟨(by kernel_rfl), rfl⟩
      · refine G_seq ?_
        refine G_seq (G_region ?_)
        refine Gm ?_
        refine Gv (V_fieldAddr rfl rfl (by decide)) ?_
        refine Gv (V_load rfl rfl (Cell.own (.head _) rfl)) ?_
        refine Gv (V_lenS rfl rfl) ?_
        refine Gv (V_lss rfl rfl rfl) ?_
        refine G_end (X_then ?_)
        refine G_cond_t rfl (decide_eq_true (by omega)) ?_
        refine G_skip (X_then (G_seq (G_block (G_seq (G_region ?_)))))
        refine Gv (V_fieldAddr rfl rfl (by decide)) ?_
        refine Gv (V_load rfl rfl (Cell.own (.head _) rfl)) ?_
        refine Gm ?_
        refine Gv (V_idxAddr rfl rfl rfl (SlE.rd (by assumption)) (by omega) (by omega)) ?_
        refine Gv (V_fieldAddrE rfl rfl (by assumption) (by omega) (by decide)) ?_
        refine Gv (V_loadS rfl rfl (SlE.rd (by assumption)) (by assumption) (by simp)) ?_
        refine Gv (V_lenS rfl rfl) ?_
        refine Gv (V_gtr rfl rfl rfl) ?_
        refine G_end (X_then ?_)
        refine G_cond_f rfl (decide_eq_false (by omega)) ?_
        refine G_skip (X_block (X_then (G_region ?_)))
        refine Gm ?_
        refine Gv (V_add_i64 rfl rfl rfl (by omega) (by omega)) ?_
        refine Ga ?_
        refine G_end (X_then ?_)
        refine G_again (i + 1) ⟨hlt, ?_⟩ (by omega) ⟨rfl, rfl, trivial⟩ rfl rfl
        intro k hk hk2
        by_cases he : k = i
        · subst he; exact decide_eq_false hb
        · exact hall k (by omega) hk2
    · rw [any_none fun i hi => hall i (by omega) hi]
      refine G_seq (G_seq (G_region ?_))
      refine Gm ?_
      refine Gv (V_fieldAddr rfl rfl (by decide)) ?_
      refine Gv (V_load rfl rfl (Cell.own (.head _) rfl)) ?_
      refine Gv (V_lenS rfl rfl) ?_
      refine Gv (V_lss rfl rfl rfl) ?_
      refine G_end (X_then ?_)
      refine G_cond_f rfl (decide_eq_false (by omega)) ?_
      refine G_exit (X_then_exit (X_then_exit (X_block_hit (X_then (G_seq (G_region ?_))))))
      refine Ga ?_
      refine G_end (X_then (G_ret ?_))
      refine G_leaveS (.drop _ (.nil _)) (by exact (.cons (.tmp rfl) (.nil))) rfl ?_ ?_
      · exact (.refl _)
      exact ⟨(by kernel_rfl), rfl⟩
  · have : fullB g = true := fullB_pos h1
    rw [if_pos this]
    refine G_seq (G_region ?_)
    (refine G_boxA rfl rfl rfl rfl (.none rfl) ?_; intro b1)
    refine Ga ?_
    refine G_end (X_then (G_seq (G_seq (G_region ?_))))
    refine Gv (V_fieldAddr rfl rfl (by decide)) ?_
    refine Gv (V_load rfl rfl (Cell.own (.head _) rfl)) ?_
    refine Gv (V_lenS rfl rfl) ?_
    refine Gv (V_gtr rfl rfl rfl) ?_
    refine Gm ?_
    apply G_joinOr 5 8 13 rfl
    · intro H1
      dsimp only [List.take]
      simp only [Bool.and_eq_true, Bool.or_eq_true, Bool.not_eq_true', Bool.not_eq_false', Bool.and_eq_false_iff, Bool.or_eq_false_iff, Bool.not_not, decide_eq_true_eq, decide_eq_false_iff_not, ne_eq, Decidable.not_not, Bool.decide_eq_true] at H1
      refine Gn ?_
      refine Gn ?_
      refine Gn ?_
      refine Gn ?_
      refine Gv (V_pick_t rfl rfl rfl) ?_
      refine G_end ?_
      exact JQ_end 5 rfl rfl (by kernel_rfl)
    · intro H2
      dsimp only [List.take]
      simp only [Bool.and_eq_true, Bool.or_eq_true, Bool.not_eq_true', Bool.not_eq_false', Bool.and_eq_false_iff, Bool.or_eq_false_iff, Bool.not_not, decide_eq_true_eq, decide_eq_false_iff_not, ne_eq, Decidable.not_not, Bool.decide_eq_true] at H2
      refine Gy (V_fieldAddr rfl rfl (by decide)) ?_
      refine Gy (V_load rfl rfl (Cell.own (.head _) rfl)) ?_
      refine Gy (V_lenS rfl rfl) ?_
      refine Gy (V_gtr rfl rfl rfl) ?_
      refine Gv (V_pick_f rfl rfl rfl) ?_
      refine G_end ?_
      exact JQ_end 5 rfl rfl (by kernel_rfl)
    dsimp only [List.drop]
    refine Gm ?_
    apply G_joinOr 5 14 19 rfl
    · intro H3
      dsimp only [List.take]
      simp only [Bool.and_eq_true, Bool.or_eq_true, Bool.not_eq_true', Bool.not_eq_false', Bool.and_eq_false_iff, Bool.or_eq_false_iff, Bool.not_not, decide_eq_true_eq, decide_eq_false_iff_not, ne_eq, Decidable.not_not, Bool.decide_eq_true] at H3
      refine Gn ?_
      refine Gn ?_
      refine Gn ?_
      refine Gn ?_
      refine Gv (V_pick_t rfl rfl rfl) ?_
      refine G_end ?_
      exact JQ_end 5 rfl rfl (by kernel_rfl)
    · intro H4
      dsimp only [List.take]
      simp only [Bool.and_eq_true, Bool.or_eq_true, Bool.not_eq_true', Bool.not_eq_false', Bool.and_eq_false_iff, Bool.or_eq_false_iff, Bool.not_not, decide_eq_true_eq, decide_eq_false_iff_not, ne_eq, Decidable.not_not, Bool.decide_eq_true] at H4
      refine Gy (V_fieldAddr rfl rfl (by decide)) ?_
      refine Gy (V_load rfl rfl (Cell.own (.head _) rfl)) ?_
      refine Gy (V_lenS rfl rfl) ?_
      refine Gy (V_gtr rfl rfl rfl) ?_
      refine Gv (V_pick_f rfl rfl rfl) ?_
      refine G_end ?_
      exact JQ_end 5 rfl rfl (by kernel_rfl)
    dsimp only [List.drop]
    refine G_end (X_then ?_)
    refine G_cond rfl (fun H5 => ?_) (fun H5 => ?_)
    · simp only [Bool.and_eq_true, Bool.or_eq_true, Bool.not_eq_true', Bool.not_eq_false', Bool.and_eq_false_iff, Bool.or_eq_false_iff, Bool.not_not, decide_eq_true_eq, decide_eq_false_iff_not, ne_eq, Decidable.not_not, Bool.decide_eq_true] at H5
      refine G_seq (G_region ?_)
      refine Ga ?_
      refine G_end (X_then (G_ret (X_then_ret ?_)))
      refine G_leaveS (.drop _ (.nil _)) (by exact (.cons (.tmp rfl) (.nil))) rfl ?_ ?_
      · exact (.refl _)
      exact ⟨(by kernel_rfl), rfl⟩
    simp only [Bool.and_eq_true, Bool.or_eq_true, Bool.not_eq_true', Bool.not_eq_false', Bool.and_eq_false_iff, Bool.or_eq_false_iff, Bool.not_not, decide_eq_true_eq, decide_eq_false_iff_not, ne_eq, Decidable.not_not, Bool.decide_eq_true] at H5
    (exfalso; omega)
theorem twice_call (p : Option Addr) (n c : Nat) (l : List (List UInt8)) (hx : SlE E 1 p n (strs l)) (hn : n ≤ 1000000) : CallV Tryd.prog 67 #[.slice p n c] E L (.bool (dupB l)) := by
  have e1 := hx.nS
  subst e1
  refine CallS.toV (CallS.intro (l := [_]) _ Tryd.func67 rfl Tryd.ntmps67 rfl ?_)
  refine G_seq (G_region ?_)
  refine Ga ?_
  refine G_end (X_then (G_seq (G_seq (G_region ?_))))
  refine Ga ?_
  refine G_end (X_then (G_block ?_))
  refine G_loop (α := Nat) (fun i => [(0, .slice p l.length c), (3, .int .i64 i)]) (fun _ => E) (fun _ => L)
    (fun i => i ≤ l.length ∧ (l.take i).Nodup) (fun i => l.length - i) 0 ⟨Nat.zero_le _, by simp⟩ ⟨rfl, rfl, trivial⟩ rfl rfl ?_
  rintro i ⟨hi, hall⟩
  by_cases hlt : i < l.length
  · refine G_seq ?_
    refine G_seq (G_region ?_)
    refine Gm ?_
    refine Gm ?_
    refine Gv (V_lenS rfl rfl) ?_
    refine Gv (V_lss rfl rfl rfl) ?_
    refine G_end (X_then ?_)
    refine G_cond_t rfl (decide_eq_true (by omega)) ?_
    refine G_skip (X_then (G_seq (G_block (G_seq (G_region ?_)))))
    refine Ga ?_
    refine G_end (X_then (G_block ?_))
    refine G_loop (α := Nat) (fun k => [(0, .slice p l.length c), (3, .int .i64 i), (4, .int .i64 k)]) (fun _ => E) (fun _ => L)
      (fun k => k ≤ i ∧ l[i] ∉ l.take k) (fun k => i - k) 0 ⟨Nat.zero_le _, by simp⟩ ⟨rfl, rfl, rfl, trivial⟩ rfl rfl ?_
    rintro k ⟨hk, hno⟩
    have hx1 := strs_get (List.getElem?_eq_getElem hlt)
    by_cases hk1 : k < i
    · have hx2 := strs_get (List.getElem?_eq_getElem (show k < l.length by omega))
      by_cases he : l[i] = l[k]
      · have hd : dupB l = true := by
          simp only [dupB, Bool.not_eq_true', decide_eq_false_iff_not]
          refine dup_at hlt ?_
          rw [he]
          exact List.mem_take_iff_getElem.2 ⟨k, by omega, rfl⟩
        rw [hd]
        refine G_seq (G_seq (G_region ?_))
        refine Gm ?_
        refine Gm ?_
        refine Gv (V_lss rfl rfl rfl) ?_
        refine G_end (X_then ?_)
        refine G_cond_t rfl (decide_eq_true (by omega)) ?_
        refine G_skip (X_then (G_seq (G_block (G_seq ?_))))
        refine G_draw mixed (by kernel_rfl) ?_
        refine Q_val (V_move rfl rfl) rfl rfl (.none rfl) ?_
        refine Q_val (V_move rfl rfl) rfl rfl (.none rfl) ?_
        refine Q_val (V_idxAddr rfl rfl rfl (SlE.rd (by assumption)) (by omega) (by omega)) rfl rfl (.none rfl) ?_
        refine Q_val (V_loadS rfl rfl (SlE.rd (by assumption)) hx1 (by simp)) rfl rfl (.none rfl) ?_
        refine Q_val (V_move rfl rfl) rfl rfl (.none rfl) ?_
        refine Q_val (V_move rfl rfl) rfl rfl (.none rfl) ?_
        refine Q_val (V_idxAddr rfl rfl rfl (SlE.rd (by assumption)) (by omega) (by omega)) rfl rfl (.none rfl) ?_
        refine Q_val (V_loadS rfl rfl (SlE.rd (by assumption)) (by assumption) (by simp)) rfl rfl (.none rfl) ?_
        refine Q_val (V_seql rfl rfl rfl) rfl rfl (.none rfl) ?_
        refine Q_end ?_
        refine X_then ?_
        refine G_cond_t rfl (decide_eq_true (by omega)) ?_
        refine G_seq (G_region ?_)
        refine Ga ?_
        refine G_end (X_then (G_ret (X_block_ret (X_then_ret (X_then_ret (X_block_ret (X_block_ret (X_then_ret (X_then_ret (X_block_ret (X_then_ret ?_)))))))))))
        refine G_leaveS (.nil _) (by exact (.cons (.tmp rfl) (.nil))) rfl ?_ ?_
        · exact (.refl _)
        exact ⟨(by kernel_rfl), rfl⟩
      · refine G_seq ?_
        refine G_seq (G_region ?_)
        refine Gm ?_
        refine Gm ?_
        refine Gv (V_lss rfl rfl rfl) ?_
        refine G_end (X_then ?_)
        refine G_cond_t rfl (decide_eq_true (by omega)) ?_
        refine G_skip (X_then (G_seq (G_block (G_seq ?_))))
        refine G_draw mixed (by kernel_rfl) ?_
        refine Q_val (V_move rfl rfl) rfl rfl (.none rfl) ?_
        refine Q_val (V_move rfl rfl) rfl rfl (.none rfl) ?_
        refine Q_val (V_idxAddr rfl rfl rfl (SlE.rd (by assumption)) (by omega) (by omega)) rfl rfl (.none rfl) ?_
        refine Q_val (V_loadS rfl rfl (SlE.rd (by assumption)) hx1 (by simp)) rfl rfl (.none rfl) ?_
        refine Q_val (V_move rfl rfl) rfl rfl (.none rfl) ?_
        refine Q_val (V_move rfl rfl) rfl rfl (.none rfl) ?_
        refine Q_val (V_idxAddr rfl rfl rfl (SlE.rd (by assumption)) (by omega) (by omega)) rfl rfl (.none rfl) ?_
        refine Q_val (V_loadS rfl rfl (SlE.rd (by assumption)) (by assumption) (by simp)) rfl rfl (.none rfl) ?_
        refine Q_val (V_seql rfl rfl rfl) rfl rfl (.none rfl) ?_
        refine Q_end ?_
        refine X_then ?_
        refine G_cond_f rfl (decide_eq_false (by omega)) ?_
        refine G_skip (X_block (X_then (G_region ?_)))
        refine Gm ?_
        refine Gv (V_add_i64 rfl rfl rfl (by omega) (by omega)) ?_
        refine Ga ?_
        refine G_end (X_then ?_)
        refine G_again (k + 1) ⟨hk1, ?_⟩ (by omega) ⟨rfl, rfl, rfl, trivial⟩ rfl rfl
        rw [List.take_succ_eq_append_getElem (by omega)]
        simp only [List.mem_append, List.mem_singleton, not_or]
        exact ⟨hno, he⟩
    · have hke : k = i := by omega
      subst hke
      refine G_seq (G_seq (G_region ?_))
      refine Gm ?_
      refine Gm ?_
      refine Gv (V_lss rfl rfl rfl) ?_
      refine G_end (X_then ?_)
      refine G_cond_f rfl (decide_eq_false (by omega)) ?_
      refine G_exit (X_then_exit (X_then_exit (X_block_hit (X_block (X_then (G_region ?_))))))
      refine Gm ?_
      refine Gv (V_add_i64 rfl rfl rfl (by omega) (by omega)) ?_
      refine Ga ?_
      refine G_end (X_then ?_)
      exact G_again (k + 1) ⟨hlt, nodup_take hlt hall hno⟩ (by omega) ⟨rfl, rfl, trivial⟩ rfl rfl
  · rw [List.take_of_length_le (by omega)] at hall
    have hd : dupB l = false := by simp [dupB, hall]
    rw [hd]
    refine G_seq (G_seq (G_region ?_))
    refine Gm ?_
    refine Gm ?_
    refine Gv (V_lenS rfl rfl) ?_
    refine Gv (V_lss rfl rfl rfl) ?_
    refine G_end (X_then ?_)
    refine G_cond_f rfl (decide_eq_false (by omega)) ?_
    refine G_exit (X_then_exit (X_then_exit (X_block_hit (X_then (G_seq (G_region ?_))))))
    refine Ga ?_
    refine G_end (X_then (G_ret ?_))
    refine G_leaveS (.nil _) (by exact (.cons (.tmp rfl) (.nil))) rfl ?_ ?_
    · exact (.refl _)
    exact ⟨(by kernel_rfl), rfl⟩
theorem namedR_call (gv : Value) (g : Gr) (hg : GrE E gv g) (hl : Light g) (h0 : g.toks.length ≠ 0) : CallV Tryd.prog 51 #[gv] E L (.int .i64 (if smallsB g = true then (if (dupB (g.toks ++ [g.sep]) || dupB g.names) = true then 8 else 0) else 12)) := by
  obtain ⟨tp, tc, np, nc, pp, pc, rfl, ht, hn, ⟨rows, hrows, hps, hre⟩, k1, k2, k3⟩ := hg
  have hlen : g.prods.length = rows.length := by rw [← hrows]; simp
  have q1 := hl.t; have q2 := hl.n; have q3 := hl.p
  refine CallS.toV (CallS.intro (l := [_]) _ Tryd.func51 rfl Tryd.ntmps51 rfl ?_)
  refine G_seq (G_region ?_)
  (refine G_boxA rfl rfl rfl rfl (.none rfl) ?_; intro b1)
  refine Ga ?_
  refine G_end (X_then (G_seq ?_))
  refine G_drawX 9 [(1, 0), (2, 1), (4, 0), (5, 1), (0, 2), (3, 3), (6, 2), (7, 3), (8, 0)] mixed (by kernel_rfl) ?_
  refine F_pure rfl (fun _ _ => V_fieldAddr rfl rfl (by decide)) rfl rfl (.none rfl) ?_
  refine F_load rfl (.head _) (V_load rfl rfl (Cell.own (.head _) rfl)) rfl rfl (.none rfl) ?_
  refine F_pure rfl (fun _ _ => V_fieldAddr rfl rfl (by decide)) rfl rfl (.none rfl) ?_
  refine F_load rfl (.head _) (V_load rfl rfl (Cell.own (.head _) rfl)) rfl rfl (.none rfl) ?_
  (refine F_lit0Z rfl rfl rfl rfl (.none rfl) ?_; intro b6 E6 hE6 hs6)
  replace ht := ht.mono hE6
  replace hn := hn.mono hE6
  replace hps := hps.mono hE6
  replace hre := hre.mono hE6
  (refine F_appendO rfl rfl rfl rfl (by assumption) (by assumption) (by omega) (by omega) (by omega) rfl rfl (.none rfl) ?_; intro b9 c9)
  (refine F_litZ rfl rfl rfl (by decide) (by simp [fillS, zeros, setLs, setL, Value.cells, List.range, List.range.loop]; rfl) (by rfl) rfl rfl (.none rfl) ?_; intro b12 E12 hE12 hs12)
  replace hs6 := hs6.mono hE12
  replace ht := ht.mono hE12
  replace hn := hn.mono hE12
  replace hps := hps.mono hE12
  replace hre := hre.mono hE12
  (refine F_append2 rfl rfl rfl rfl (by assumption) (by simp [Value.oneCell', strs, i64s]) (by omega) (by omega) rfl rfl (.none rfl) (fun _ _ => (.head _ _ _)) ?_; intro b13 c13 N13; dsimp only [List.cons_append])
  refine F_pure rfl (fun _ _ => V_assign rfl rfl) rfl rfl (.none rfl) ?_
  (refine F_end (.keep _ (.keep _ (.suf _ (.nil _)))) ?_; dsimp only [List.drop])
  refine G_end (X_then (G_seq (G_seq (G_region ?_))))
  refine Ga ?_
  refine G_end (X_then (G_block ?_))
  obtain ⟨l, hll⟩ : ∃ l, g.toks ++ [g.sep] = l := ⟨_, rfl⟩
  have hlen2 : l.length = g.toks.length + 1 := by rw [← hll]; simp
  have hsm : ∀ s, s ∈ l → s.length ≤ 40 := by rw [← hll]; exact hl.small
  rw [smallsB, hll]
  refine G.freezeSl (.head _ _) ?_
  intro E1 hE1 hs hc
  replace ht := ht.mono hE1
  replace hn := hn.mono hE1
  replace hs : SlE E1 1 (some ⟨b13, 0, none⟩) l.length (strs l) := by rw [hlen2, ← hll]; simpa [strs] using hs
  rw [show 0 + g.toks.length + 1 = l.length by omega] at hc ⊢
  refine G_loop (α := Nat) (fun i => [(1, .pointer (some ⟨b1, 0, none⟩)), (3, .slice (some ⟨b13, 0, none⟩) l.length c13), (4, .int .i64 i)]) (fun _ => E1) (fun _ => GB b1 g tp tc np nc pp pc :: L)
    (fun i => i ≤ l.length ∧ ∀ k, k < i → (hk : k < l.length) → smallB l[k] = true) (fun i => l.length - i) 0 ⟨Nat.zero_le _, fun k hk => by cases hk⟩ ⟨rfl, rfl, rfl, trivial⟩ rfl rfl ?_
  rintro i ⟨hi, hall⟩
  by_cases hlt : i < l.length
  · have hx := strs_get (List.getElem?_eq_getElem hlt)
    have hq : l[i].length ≤ 40 := hsm _ (List.getElem_mem hlt)
    cases hb : smallB l[i] with
    | true =>
      refine G_seq (G_seq (G_region ?_))
      refine Gm ?_
      refine Gm ?_
      refine Gv (V_lenS rfl rfl) ?_
      refine Gv (V_lss rfl rfl rfl) ?_
      refine G_end (X_then ?_)
      refine G_cond_t rfl (decide_eq_true (by omega)) ?_
      refine G_skip (X_then (G_seq (G_block (G_seq (G_region ?_)))))
      refine Gm ?_
      refine Gm ?_
      refine Gv (V_idxAddr rfl rfl rfl (SlE.rd (by assumption)) (by omega) (by omega)) ?_
      refine Gv (V_loadS rfl rfl (SlE.rd (by assumption)) (by assumption) (by simp)) ?_
      refine G_callv (k := 65) (.mk rfl rfl rfl rfl) rfl rfl (.none rfl) (SmallR_call _ _ _ (by omega)) ?_
      refine Gv (V_not rfl rfl) ?_
      refine G_end (X_then ?_)
      refine G_cond_f rfl (by simp [*]; done) ?_
      refine G_skip (X_block (X_then (G_region ?_)))
      refine Gm ?_
      refine Gv (V_add_i64 rfl rfl rfl (by omega) (by omega)) ?_
      refine Ga ?_
      refine G_end (X_then ?_)
      refine G_again (i + 1) ⟨hlt, ?_⟩ (by omega) ⟨rfl, rfl, rfl, trivial⟩ rfl rfl
      intro k hk hk2
      by_cases he : k = i
      · subst he; exact hb
      · exact hall k (by omega) hk2
    | false =>
      rw [all_not hlt hb]
      refine G_seq (G_seq (G_region ?_))
      refine Gm ?_
      refine Gm ?_
      refine Gv (V_lenS rfl rfl) ?_
      refine Gv (V_lss rfl rfl rfl) ?_
      refine G_end (X_then ?_)
      refine G_cond_t rfl (decide_eq_true (by omega)) ?_
      refine G_skip (X_then (G_seq (G_block (G_seq (G_region ?_)))))
      refine Gm ?_
      refine Gm ?_
      refine Gv (V_idxAddr rfl rfl rfl (SlE.rd (by assumption)) (by omega) (by omega)) ?_
      refine Gv (V_loadS rfl rfl (SlE.rd (by assumption)) (by assumption) (by simp)) ?_
      refine G_callv (k := 65) (.mk rfl rfl rfl rfl) rfl rfl (.none rfl) (SmallR_call _ _ _ (by omega)) ?_
      refine Gv (V_not rfl rfl) ?_
      refine G_end (X_then ?_)
      refine G_cond_t rfl (by simp [*]; done) ?_
      refine G_seq (G_region ?_)
      refine Ga ?_
      refine G_end (X_then (G_ret (X_block_ret (X_then_ret (X_then_ret (X_block_ret (X_then_ret ?_)))))))
      refine G_leaveS (.drop _ (.nil _)) (by exact (.cons (.tmp rfl) (.nil))) rfl ?_ ?_
      · exact ((hE6.trans hE12).trans hE1)
      exact ⟨rfl, rfl⟩
  · have hie : i = l.length := by omega
    subst hie
    rw [all_of fun k hk => hall k hk hk]
    refine G_seq (G_seq (G_region ?_))
    refine Gm ?_
    refine Gm ?_
    refine Gv (V_lenS rfl rfl) ?_
    refine Gv (V_lss rfl rfl rfl) ?_
    refine G_end (X_then ?_)
    refine G_cond_f rfl (decide_eq_false (by omega)) ?_
    refine G_exit (X_then_exit (X_then_exit (X_block_hit (X_then (G_seq (G_seq (G_region ?_)))))))
    refine Ga ?_
    refine G_end (X_then (G_block ?_))
    refine G_loop (α := Nat) (fun i => [(1, .pointer (some ⟨b1, 0, none⟩)), (3, .slice (some ⟨b13, 0, none⟩) l.length c13), (5, .int .i64 i)]) (fun _ => E1) (fun _ => GB b1 g tp tc np nc pp pc :: L)
      (fun i => i ≤ g.names.length ∧ ∀ k, k < i → (hk : k < g.names.length) → capB g.names[k] = true) (fun i => g.names.length - i) 0 ⟨Nat.zero_le _, fun k hk => by cases hk⟩ ⟨rfl, rfl, rfl, trivial⟩ rfl rfl ?_
    rintro i ⟨hi, hall2⟩
    by_cases hlt : i < g.names.length
    · have hx := strs_get (List.getElem?_eq_getElem hlt)
      have hq : g.names[i].length ≤ 40 := hl.ns _ (List.getElem_mem hlt)
      cases hb : capB g.names[i] with
      | true =>
        refine G_seq (G_seq (G_region ?_))
        refine Gm ?_
        refine Gv (V_fieldAddr rfl rfl (by decide)) ?_
        refine Gv (V_load rfl rfl (Cell.own (.head _) rfl)) ?_
        refine Gv (V_lenS rfl rfl) ?_
        refine Gv (V_lss rfl rfl rfl) ?_
        refine G_end (X_then ?_)
        refine G_cond_t rfl (decide_eq_true (by omega)) ?_
        refine G_skip (X_then (G_seq (G_block (G_seq (G_region ?_)))))
        refine Gv (V_fieldAddr rfl rfl (by decide)) ?_
        refine Gv (V_load rfl rfl (Cell.own (.head _) rfl)) ?_
        refine Gm ?_
        refine Gv (V_idxAddr rfl rfl rfl (SlE.rd (by assumption)) (by omega) (by omega)) ?_
        refine Gv (V_loadS rfl rfl (SlE.rd (by assumption)) (by assumption) (by simp)) ?_
        refine G_callv (k := 66) (.mk rfl rfl rfl rfl) rfl rfl (.none rfl) (CapitalR_call _ _ _ (by omega)) ?_
        refine Gv (V_not rfl rfl) ?_
        refine G_end (X_then ?_)
        refine G_cond_f rfl (by simp [*]; done) ?_
        refine G_skip (X_block (X_then (G_region ?_)))
        refine Gm ?_
        refine Gv (V_add_i64 rfl rfl rfl (by omega) (by omega)) ?_
        refine Ga ?_
        refine G_end (X_then ?_)
        refine G_again (i + 1) ⟨hlt, ?_⟩ (by omega) ⟨rfl, rfl, rfl, trivial⟩ rfl rfl
        intro k hk hk2
        by_cases he : k = i
        · subst he; exact hb
        · exact hall2 k (by omega) hk2
      | false =>
        rw [all_not hlt hb]
        refine G_seq (G_seq (G_region ?_))
        refine Gm ?_
        refine Gv (V_fieldAddr rfl rfl (by decide)) ?_
        refine Gv (V_load rfl rfl (Cell.own (.head _) rfl)) ?_
        refine Gv (V_lenS rfl rfl) ?_
        refine Gv (V_lss rfl rfl rfl) ?_
        refine G_end (X_then ?_)
        refine G_cond_t rfl (decide_eq_true (by omega)) ?_
        refine G_skip (X_then (G_seq (G_block (G_seq (G_region ?_)))))
        refine Gv (V_fieldAddr rfl rfl (by decide)) ?_
        refine Gv (V_load rfl rfl (Cell.own (.head _) rfl)) ?_
        refine Gm ?_
        refine Gv (V_idxAddr rfl rfl rfl (SlE.rd (by assumption)) (by omega) (by omega)) ?_
        refine Gv (V_loadS rfl rfl (SlE.rd (by assumption)) (by assumption) (by simp)) ?_
        refine G_callv (k := 66) (.mk rfl rfl rfl rfl) rfl rfl (.none rfl) (CapitalR_call _ _ _ (by omega)) ?_
        refine Gv (V_not rfl rfl) ?_
        refine G_end (X_then ?_)
        refine G_cond_t rfl (by simp [*]; done) ?_
        refine G_seq (G_region ?_)
        refine Ga ?_
        refine G_end (X_then (G_ret (X_block_ret (X_then_ret (X_then_ret (X_block_ret (X_then_ret ?_)))))))
        refine G_leaveS (.drop _ (.nil _)) (by exact (.cons (.tmp rfl) (.nil))) rfl ?_ ?_
        · exact ((hE6.trans hE12).trans hE1)
        exact ⟨rfl, rfl⟩
    · rw [all_of fun k hk => hall2 k (by omega) hk]
      refine G_seq (G_seq (G_region ?_))
      refine Gm ?_
      refine Gv (V_fieldAddr rfl rfl (by decide)) ?_
      refine Gv (V_load rfl rfl (Cell.own (.head _) rfl)) ?_
      refine Gv (V_lenS rfl rfl) ?_
      refine Gv (V_lss rfl rfl rfl) ?_
      refine G_end (X_then ?_)
      refine G_cond_f rfl (decide_eq_false (by omega)) ?_
      refine G_exit (X_then_exit (X_then_exit (X_block_hit (X_then (G_seq (G_seq (G_region ?_)))))))
      refine Gm ?_
      refine G_callv (k := 67) (.mk rfl rfl rfl rfl) rfl rfl (.none rfl) (twice_call _ _ _ _ _ _ (by assumption) (by omega)) ?_
      refine Gm ?_
      apply G_joinOr 4 42 46 rfl
      · intro H1
        dsimp only [List.take]
        refine Gn ?_
        refine Gn ?_
        refine Gn ?_
        refine Gv (V_pick_t rfl rfl rfl) ?_
        refine G_end ?_
        exact JQ_end 4 rfl rfl (by kernel_rfl)
      · intro H2
        dsimp only [List.take]
        refine Gy (V_fieldAddr rfl rfl (by decide)) ?_
        refine Gy (V_load rfl rfl (Cell.own (.head _) rfl)) ?_
        refine G_callv (k := 67) (.mk rfl rfl rfl rfl) rfl rfl (.yes rfl rfl rfl rfl) (twice_call _ _ _ _ _ _ (by assumption) (by omega)) ?_
        refine Gv (V_pick_f rfl rfl rfl) ?_
        refine G_end ?_
        exact JQ_end 4 rfl rfl (by kernel_rfl)
      dsimp only [List.drop]
      refine G_end (X_then ?_)
      refine G_cond rfl (fun H3 => ?_) (fun H3 => ?_)
      · simp only [Bool.and_eq_true, Bool.or_eq_true, Bool.not_eq_true', Bool.not_eq_false', Bool.and_eq_false_iff, Bool.or_eq_false_iff, Bool.not_not, decide_eq_true_eq, decide_eq_false_iff_not, ne_eq, Decidable.not_not, Bool.decide_eq_true] at H3
        refine G_seq (G_region ?_)
        refine Ga ?_
        refine G_end (X_then (G_ret (X_then_ret ?_)))
        refine G_leaveS (.drop _ (.nil _)) (by exact (.cons (.tmp rfl) (.nil))) rfl ?_ ?_
        · exact ((hE6.trans hE12).trans hE1)
        exact ⟨(by (simp [resVal, *]; done)), (by rfl)⟩
      simp only [Bool.and_eq_true, Bool.or_eq_true, Bool.not_eq_true', Bool.not_eq_false', Bool.and_eq_false_iff, Bool.or_eq_false_iff, Bool.not_not, decide_eq_true_eq, decide_eq_false_iff_not, ne_eq, Decidable.not_not, Bool.decide_eq_true] at H3
      refine G_skip (X_then (G_seq (G_region ?_)))
      refine Ga ?_
      refine G_end (X_then (G_ret ?_))
      refine G_leaveS (.drop _ (.nil _)) (by exact (.cons (.tmp rfl) (.nil))) rfl ?_ ?_
      · exact ((hE6.trans hE12).trans hE1)
      exact ⟨(by (simp [resVal, *]; done)), (by rfl)⟩
theorem nontermR_call (gv : Value) (g : Gr) (hg : GrE E gv g) (hl : Light g) (s : Int) : CallV Tryd.prog 68 #[gv, .int .i64 s] E L (.bool (ntB g s)) := by
  obtain ⟨tp, tc, np, nc, pp, pc, rfl, ht, hn, ⟨rows, hrows, hps, hre⟩, k1, k2, k3⟩ := hg
  have q1 := hl.t; have q2 := hl.n; have q3 := hl.p
  refine CallS.toV (CallS.intro (l := [_, _]) _ Tryd.func68 rfl Tryd.ntmps68 rfl ?_)
  refine G_seq (G_region ?_)
  (refine G_boxA rfl rfl rfl rfl (.none rfl) ?_; intro b2)
  refine Ga ?_
  refine G_end (X_then (G_seq (G_region ?_)))
  refine Gm ?_
  refine Gv (V_geq rfl rfl rfl) ?_
  refine Gm ?_
  apply G_joinAnd 7 7 14 rfl
  · intro H1
    dsimp only [List.take]
    simp only [Bool.and_eq_true, Bool.or_eq_true, Bool.not_eq_true', Bool.not_eq_false', Bool.and_eq_false_iff, Bool.or_eq_false_iff, Bool.not_not, decide_eq_true_eq, decide_eq_false_iff_not, ne_eq, Decidable.not_not, Bool.decide_eq_true] at H1
    refine Gy (V_move rfl rfl) ?_
    refine Gy (V_fieldAddr rfl rfl (by decide)) ?_
    refine Gy (V_load rfl rfl (Cell.own (.head _) rfl)) ?_
    refine Gy (V_lenS rfl rfl) ?_
    refine Gy (V_add_i64 rfl rfl rfl (by omega) (by omega)) ?_
    refine Gy (V_lss rfl rfl rfl) ?_
    refine Gv (V_pick_t rfl rfl rfl) ?_
    refine G_end ?_
    exact JQ_end 7 rfl rfl (by kernel_rfl)
  · intro H2
    dsimp only [List.take]
    simp only [Bool.and_eq_true, Bool.or_eq_true, Bool.not_eq_true', Bool.not_eq_false', Bool.and_eq_false_iff, Bool.or_eq_false_iff, Bool.not_not, decide_eq_true_eq, decide_eq_false_iff_not, ne_eq, Decidable.not_not, Bool.decide_eq_true] at H2
    refine Gn ?_
    refine Gn ?_
    refine Gn ?_
    refine Gn ?_
    refine Gn ?_
    refine Gn ?_
    refine Gv (V_pick_f rfl rfl rfl) ?_
    refine G_end ?_
    exact JQ_end 7 rfl rfl (by kernel_rfl)
  dsimp only [List.drop]
  refine Ga ?_
  refine G_end (X_then (G_ret ?_))
  refine G_leaveS (.drop _ (.nil _)) (by exact (.cons (.tmp rfl) (.nil))) rfl ?_ ?_
  · exact (.refl _)
  exact ⟨rfl, rfl⟩
theorem terminalR_call (gv : Value) (g : Gr) (hg : GrE E gv g) (hl : Light g) (s : Int) : CallV Tryd.prog 69 #[gv, .int .i64 s] E L (.bool (termB g s)) := by
  obtain ⟨tp, tc, np, nc, pp, pc, rfl, ht, hn, ⟨rows, hrows, hps, hre⟩, k1, k2, k3⟩ := hg
  have q1 := hl.t; have q2 := hl.n; have q3 := hl.p
  refine CallS.toV (CallS.intro (l := [_, _]) _ Tryd.func69 rfl Tryd.ntmps69 rfl ?_)
  refine G_seq (G_region ?_)
  (refine G_boxA rfl rfl rfl rfl (.none rfl) ?_; intro b2)
  refine Ga ?_
  refine G_end (X_then (G_seq (G_region ?_)))
  refine Gm ?_
  refine Gv (V_geq rfl rfl rfl) ?_
  refine Gm ?_
  apply G_joinAnd 6 7 13 rfl
  · intro H1
    dsimp only [List.take]
    simp only [Bool.and_eq_true, Bool.or_eq_true, Bool.not_eq_true', Bool.not_eq_false', Bool.and_eq_false_iff, Bool.or_eq_false_iff, Bool.not_not, decide_eq_true_eq, decide_eq_false_iff_not, ne_eq, Decidable.not_not, Bool.decide_eq_true] at H1
    refine Gy (V_move rfl rfl) ?_
    refine Gy (V_fieldAddr rfl rfl (by decide)) ?_
    refine Gy (V_load rfl rfl (Cell.own (.head _) rfl)) ?_
    refine Gy (V_lenS rfl rfl) ?_
    refine Gy (V_lss rfl rfl rfl) ?_
    refine Gv (V_pick_t rfl rfl rfl) ?_
    refine G_end ?_
    exact JQ_end 6 rfl rfl (by kernel_rfl)
  · intro H2
    dsimp only [List.take]
    simp only [Bool.and_eq_true, Bool.or_eq_true, Bool.not_eq_true', Bool.not_eq_false', Bool.and_eq_false_iff, Bool.or_eq_false_iff, Bool.not_not, decide_eq_true_eq, decide_eq_false_iff_not, ne_eq, Decidable.not_not, Bool.decide_eq_true] at H2
    refine Gn ?_
    refine Gn ?_
    refine Gn ?_
    refine Gn ?_
    refine Gn ?_
    refine Gv (V_pick_f rfl rfl rfl) ?_
    refine G_end ?_
    exact JQ_end 6 rfl rfl (by kernel_rfl)
  dsimp only [List.drop]
  refine Ga ?_
  refine G_end (X_then (G_ret ?_))
  refine G_leaveS (.drop _ (.nil _)) (by exact (.cons (.tmp rfl) (.nil))) rfl ?_ ?_
  · exact (.refl _)
  exact ⟨rfl, rfl⟩
theorem prodsR_call (gv : Value) (g : Gr) (hg : GrE E gv g) (hl : Light g) (s : Int) : CallS Tryd.prog 70 #[gv, .int .i64 s] E L (fun r E' L' => ∃ a n c, r = .slice a n c ∧ n ≤ 1000 ∧ (n = 0 ↔ g.prods.any (fun p => decide (p.1 = s)) = false) ∧ L' = L) := by
  obtain ⟨tp, tc, np, nc, pp, pc, rfl, ht, hn, ⟨rows, hrows, hps, hre⟩, k1, k2, k3⟩ := hg
  have hlen : g.prods.length = rows.length := by rw [← hrows]; simp
  have q1 := hl.t; have q2 := hl.n; have q3 := hl.p
  have e : g.prods.any (fun p => decide (p.1 = s)) = rows.any (fun x => decide (x.2.2.1 = s)) := by rw [← hrows, List.any_map]; rfl
  rw [e]
  refine CallS.intro (l := [_, _]) _ Tryd.func70 rfl Tryd.ntmps70 rfl ?_
  refine G_seq (G_region ?_)
  (refine G_boxA rfl rfl rfl rfl (.none rfl) ?_; intro b2)
  refine Ga ?_
  refine G_end (X_then (G_seq (G_region ?_)))
  refine Ga ?_
  refine G_end (X_then (G_seq (G_seq (G_region ?_))))
  refine Ga ?_
  refine G_end (X_then (G_block ?_))
  refine G.nilSl 3 1 ?_
  refine G_loop (α := Nat × Option Addr × Nat × List Value) (fun x => [(1, .int .i64 s), (2, .pointer (some ⟨b2, 0, none⟩)), (5, .slice x.2.1 x.2.2.2.length x.2.2.1), (6, .int .i64 x.1)]) (fun _ => E) (fun x => .sl 3 1 x.2.1 x.2.2.2.length x.2.2.1 x.2.2.2 :: GB b2 g tp tc np nc pp pc :: L)
    (fun x => x.1 ≤ rows.length ∧ x.2.2.2.length ≤ x.1 ∧ (x.2.2.2.length = 0 ↔ (rows.take x.1).any (fun x => decide (x.2.2.1 = s)) = false)) (fun x => rows.length - x.1) (0, none, 0, []) ⟨Nat.zero_le _, by simp, by simp⟩ ⟨rfl, rfl, rfl, rfl, trivial⟩ rfl rfl ?_
  rintro ⟨i, a, c, xs⟩ ⟨hi, hc, hall⟩
  simp only at hi hc hall ⊢
  by_cases hlt : i < rows.length
  · have hx := prows_left (List.getElem?_eq_getElem hlt)
    have hst : (rows.take (i + 1)).any (fun x => decide (x.2.2.1 = s)) = ((rows.take i).any (fun x => decide (x.2.2.1 = s)) || decide (rows[i].2.2.1 = s)) := by rw [List.take_succ_eq_append_getElem hlt, List.any_append]; simp
    by_cases hb : rows[i].2.2.1 = s
    · refine G_seq ?_
      refine G_seq (G_region ?_)
      refine Gm ?_
      refine Gv (V_fieldAddr rfl rfl (by decide)) ?_
      refine Gv (V_load rfl rfl (Cell.own (.tail _ (.head _)) rfl)) ?_
      refine Gv (V_lenS rfl rfl) ?_
      refine Gv (V_lss rfl rfl rfl) ?_
      refine G_end (X_then ?_)
      refine G_cond_t rfl (decide_eq_true (by omega)) ?_
      refine G_skip (X_then (G_seq (G_block (G_seq (G_region ?_)))))
      refine Gv (V_fieldAddr rfl rfl (by decide)) ?_
      refine Gv (V_load rfl rfl (Cell.own (.tail _ (.head _)) rfl)) ?_
      refine Gm ?_
      refine Gv (V_idxAddr rfl rfl rfl (SlE.rd (by assumption)) (by omega) (by omega)) ?_
      refine Gv (V_fieldAddrE rfl rfl (by assumption) (by omega) (by decide)) ?_
      refine Gv (V_loadS rfl rfl (SlE.rd (by assumption)) (by assumption) (by simp)) ?_
      refine Gm ?_
      refine Gv (V_eql rfl rfl rfl) ?_
      refine G_end (X_then ?_)
      refine G_cond_t rfl (decide_eq_true (by omega)) ?_
      refine G_region ?_
      refine Gm ?_
      refine Gm ?_
      (refine G_lit1 rfl rfl rfl rfl rfl (.none rfl) ?_; intro b24)
      (refine G_append rfl rfl rfl (Rd.lit (.head _) rfl) (by simp [Value.oneCell']) (by omega) (by omega) rfl rfl (.none rfl) (fun _ _ => (.tail _ (.head _ _ _))) ?_; intro a25 c25; refine G.rm (.head _ _) ?_)
      refine Ga ?_
      refine G_end (X_block (X_then (G_region ?_)))
      refine Gm ?_
      refine Gv (V_add_i64 rfl rfl rfl (by omega) (by omega)) ?_
      refine Ga ?_
      refine G_end (X_then ?_)
      refine G_again (i + 1, a25, c25, xs ++ [.int .i64 (i : Int)]) ⟨hlt, by simp; omega, ?_⟩ (by simp only; omega) ⟨rfl, rfl, (by rw [List.length_append]; rfl), rfl, trivial⟩ rfl (by rw [List.length_append]; rfl)
      simp only
      rw [hst, decide_eq_true hb, Bool.or_true]
      simp
    · refine G_seq ?_
      refine G_seq (G_region ?_)
      refine Gm ?_
      refine Gv (V_fieldAddr rfl rfl (by decide)) ?_
      refine Gv (V_load rfl rfl (Cell.own (.tail _ (.head _)) rfl)) ?_
      refine Gv (V_lenS rfl rfl) ?_
      refine Gv (V_lss rfl rfl rfl) ?_
      refine G_end (X_then ?_)
      refine G_cond_t rfl (decide_eq_true (by omega)) ?_
      refine G_skip (X_then (G_seq (G_block (G_seq (G_region ?_)))))
      refine Gv (V_fieldAddr rfl rfl (by decide)) ?_
      refine Gv (V_load rfl rfl (Cell.own (.tail _ (.head _)) rfl)) ?_
      refine Gm ?_
      refine Gv (V_idxAddr rfl rfl rfl (SlE.rd (by assumption)) (by omega) (by omega)) ?_
      refine Gv (V_fieldAddrE rfl rfl (by assumption) (by omega) (by decide)) ?_
      refine Gv (V_loadS rfl rfl (SlE.rd (by assumption)) (by assumption) (by simp)) ?_
      refine Gm ?_
      refine Gv (V_eql rfl rfl rfl) ?_
      refine G_end (X_then ?_)
      refine G_cond_f rfl (decide_eq_false (by omega)) ?_
      refine G_skip (X_block (X_then (G_region ?_)))
      refine Gm ?_
      refine Gv (V_add_i64 rfl rfl rfl (by omega) (by omega)) ?_
      refine Ga ?_
      refine G_end (X_then ?_)
      exact G_again (i + 1, a, c, xs) ⟨hlt, by simp only; omega, by simp only; rw [hst, decide_eq_false hb, Bool.or_false]; exact hall⟩ (by simp only; omega) ⟨rfl, rfl, rfl, rfl, trivial⟩ rfl rfl
  · rw [List.take_of_length_le (by omega)] at hall
    refine G_seq (G_seq (G_region ?_))
    refine Gm ?_
    refine Gv (V_fieldAddr rfl rfl (by decide)) ?_
    refine Gv (V_load rfl rfl (Cell.own (.tail _ (.head _)) rfl)) ?_
    refine Gv (V_lenS rfl rfl) ?_
    refine Gv (V_lss rfl rfl rfl) ?_
    refine G_end (X_then ?_)
    refine G_cond_f rfl (decide_eq_false (by omega)) ?_
    refine G_exit (X_then_exit (X_then_exit (X_block_hit (X_then (G_seq (G_region ?_))))))
    refine Gm ?_
    refine Ga ?_
    refine G_end (X_then (G_ret ?_))
    refine G_leaveS (.drop _ (.drop _ (.nil _))) (by exact (.cons (.tmp rfl) (.nil))) rfl ?_ ?_
    · exact (.refl _)
    exact ⟨_, ⟨_, ⟨_, ⟨rfl, ⟨(by omega), ⟨(by assumption), rfl⟩⟩⟩⟩⟩⟩
end
end Go.Proofs.YtaibabmladgldaaDoor
set_option linter.unusedSimpArgs false
set_option linter.unusedVariables false
set_option maxHeartbeats 2000000
set_option maxRecDepth 20000
namespace Go.Proofs.YtaibabmladgldaaDoor
open Go.RowKit
theorem not_any_all {α : Type} (l : List α) (f g : α → Bool) : (!l.any fun s => !f s && !g s) = l.all fun s => f s || g s := by
  induction l with
  | nil => rfl
  | cons a l ih => simp only [List.any_cons, List.all_cons, Bool.not_or, ih]; cases f a <;> cases g a <;> rfl
section
variable (E : Env) (L : List Res)
theorem symbolsR_call (gv : Value) (g : Gr) (hg : GrE E gv g) (hl : Light g) : CallV Tryd.prog 52 #[gv] E L (.int .i64 (gc3 g)) := by
  have hg0 := hg
  obtain ⟨tp, tc, np, nc, pp, pc, rfl, ht, hn, ⟨rows, hrows, hps, hre⟩, k1, k2, k3⟩ := hg
  have hlen : g.prods.length = rows.length := by rw [← hrows]; simp
  have q1 := hl.t; have q2 := hl.n; have q3 := hl.p
  obtain ⟨f, hf⟩ : ∃ f : Row → Bool, (fun x => ntB g x.2.2.1 && x.2.2.2.all fun s => termB g s || ntB g s) = f := ⟨_, rfl⟩
  have e : symB g = (ntB g g.start && rows.all f) := by
    rw [symB, ← hrows, List.all_map, ← hf]
    simp only [Function.comp_def, not_any_all]
  have hat : ∀ i, (hi : i < rows.length) → g.prods.getD i (0, []) = rows[i].2.2 := fun i hi => by rw [← hrows, getD_at _ (by simpa using hi)]; simp
  refine CallS.toV (CallS.intro (l := [_]) _ Tryd.func52 rfl Tryd.ntmps52 rfl ?_)
  refine G_seq (G_region ?_)
  (refine G_boxA rfl rfl rfl rfl (.none rfl) ?_; intro b1)
  refine Ga ?_
  refine G_end (X_then (G_seq (G_region ?_)))
  refine Gv (V_loadA rfl rfl (Cells.own (.head _)) rfl) ?_
  refine Gv (V_fieldAddr rfl rfl (by decide)) ?_
  refine Gv (V_load rfl rfl (Cell.own (.head _) rfl)) ?_
  refine G_callv (k := 68) (.mk rfl rfl rfl rfl) rfl rfl (.none rfl) (nontermR_call _ _ _ _ (by assumption) (by assumption) _) ?_
  refine Ga ?_
  refine G_end (X_then (G_seq (G_seq (G_region ?_))))
  refine Ga ?_
  refine G_end (X_then (G_block ?_))
  refine G_loop (α := Nat) (fun i => [(1, .pointer (some ⟨b1, 0, none⟩)), (3, .bool (ntB g g.start && (rows.take i).all f)), (4, .int .i64 i)]) (fun _ => E) (fun _ => GB b1 g tp tc np nc pp pc :: L)
    (fun i => i ≤ rows.length) (fun i => rows.length - i) 0 (Nat.zero_le _) ⟨rfl, (by rw [List.take_zero, List.all_nil, Bool.and_true]; rfl), rfl, trivial⟩ rfl rfl ?_
  intro i hi
  by_cases hlt : i < rows.length
  · have hx := prows_get (List.getElem?_eq_getElem hlt)
    have hxr : SlE E 1 rows[i].1 rows[i].2.2.2.length (i64s rows[i].2.2.2) := hre.get (List.getElem?_eq_getElem hlt)
    have hx8 : rows[i].2.2.2.length ≤ 8 := hl.ps _ (by rw [← hrows]; exact List.mem_map.2 ⟨_, List.getElem_mem hlt, rfl⟩)
    have hst := snoc_all (f := f) hlt
    have hfi : f rows[i] = (ntB g rows[i].2.2.1 && rows[i].2.2.2.all fun s => termB g s || ntB g s) := by rw [← hf]
    obtain ⟨ok, hok⟩ : ∃ ok, (ntB g g.start && (rows.take i).all f) = ok := ⟨_, rfl⟩
    rw [hok]
    refine G_seq (G_seq (G_region ?_))
    refine Gm ?_
    refine Gv (V_fieldAddr rfl rfl (by decide)) ?_
    refine Gv (V_load rfl rfl (Cell.own (.head _) rfl)) ?_
    refine Gv (V_lenS rfl rfl) ?_
    refine Gv (V_lss rfl rfl rfl) ?_
    refine G_end (X_then ?_)
    refine G_cond_t rfl (decide_eq_true (by omega)) ?_
    refine G_skip (X_then (G_seq (G_block (G_seq (G_region ?_)))))
    refine Gv (V_fieldAddr rfl rfl (by decide)) ?_
    refine Gv (V_load rfl rfl (Cell.own (.head _) rfl)) ?_
    refine Gm ?_
    refine Gv (V_idxAddr rfl rfl rfl (SlE.rd (by assumption)) (by omega) (by omega)) ?_
    refine Gv (V_loadAS rfl rfl (SlE.rd (by assumption)) (by assumption) (by simp) (by rfl)) ?_
    (refine G_alloc rfl rfl rfl (.none rfl) ?_; intro b5)
    refine G_storeA rfl rfl rfl rfl (by simp [Value.oneCell']) rfl (.none rfl) (.head _ _ _) rfl ?_
    refine G_end (X_then (G_seq (G_region ?_)))
    refine Gm ?_
    refine Gm ?_
    apply G_joinAnd 5 26 31 rfl
    · intro H1
      dsimp only [List.take]
      refine Gy (V_loadA rfl rfl (Cells.own (.tail _ (.head _))) rfl) ?_
      refine Gy (V_fieldAddr rfl rfl (by decide)) ?_
      refine Gy (V_load rfl rfl (Cell.own (.head _) rfl)) ?_
      refine G_callv (k := 68) (.mk rfl rfl rfl rfl) rfl rfl (.yes rfl rfl rfl rfl) (nontermR_call _ _ _ _ (by assumption) (by assumption) _) ?_
      refine Gv (V_pick_t rfl rfl rfl) ?_
      refine G_end ?_
      exact JQ_end 5 rfl rfl (by kernel_rfl)
    · intro H2
      dsimp only [List.take]
      refine Gn ?_
      refine Gn ?_
      refine Gn ?_
      refine Gn ?_
      refine Gv (V_pick_f rfl rfl rfl) ?_
      refine G_end ?_
      exact JQ_end 5 rfl rfl (by kernel_rfl)
    dsimp only [List.drop]
    refine Ga ?_
    refine G_end (X_then (G_seq (G_region ?_)))
    refine Ga ?_
    refine G_end (X_then (G_block ?_))
    refine G_loop (α := Nat) (fun k => [(1, .pointer (some ⟨b1, 0, none⟩)), (3, .bool (ok && ntB g rows[i].2.2.1 && (rows[i].2.2.2.take k).all fun s => termB g s || ntB g s)), (4, .int .i64 i), (5, .pointer (some ⟨b5, 0, none⟩)), (6, .int .i64 k)]) (fun _ => E)
      (fun _ => .blk b5 (.cells #[.int .i64 rows[i].2.2.1, .slice rows[i].1 rows[i].2.2.2.length rows[i].2.1] 43 (0, 0)) :: GB b1 g tp tc np nc pp pc :: L)
      (fun k => k ≤ rows[i].2.2.2.length) (fun k => rows[i].2.2.2.length - k) 0 (Nat.zero_le _) ⟨rfl, (by rw [List.take_zero, List.all_nil, Bool.and_true]; rfl), rfl, rfl, rfl, trivial⟩ rfl rfl ?_
    intro k hk
    by_cases hk1 : k < rows[i].2.2.2.length
    · have hy := i64s_get (List.getElem?_eq_getElem hk1)
      have hst2 := snoc_all (f := fun s => termB g s || ntB g s) hk1
      obtain ⟨ok2, hok2⟩ : ∃ ok2, (ok && ntB g rows[i].2.2.1 && (rows[i].2.2.2.take k).all fun s => termB g s || ntB g s) = ok2 := ⟨_, rfl⟩
      rw [hok2]
      refine G_seq (G_seq (G_region ?_))
      refine Gm ?_
      refine Gv (V_fieldAddr rfl rfl (by decide)) ?_
      refine Gv (V_load rfl rfl (Cell.own (.head _) rfl)) ?_
      refine Gv (V_lenS rfl rfl) ?_
      refine Gv (V_lss rfl rfl rfl) ?_
      refine G_end (X_then ?_)
      refine G_cond_t rfl (decide_eq_true (by omega)) ?_
      refine G_skip (X_then (G_seq (G_block ?_)))
      refine G_draw mixed (by kernel_rfl) ?_
      refine Q_val (V_move rfl rfl) rfl rfl (.none rfl) ?_
      refine Q_val (V_move rfl rfl) rfl rfl (.none rfl) ?_
      apply Q_joinAnd 17 40 57 rfl
      · intro H1
        dsimp only [List.take]
        refine Q_val (V_loadA rfl rfl (Cells.own (.tail _ (.head _))) rfl) rfl rfl (.yes rfl rfl rfl rfl) ?_
        refine Q_val (V_fieldAddr rfl rfl (by decide)) rfl rfl (.yes rfl rfl rfl rfl) ?_
        refine Q_val (V_load rfl rfl (Cell.own (.head _) rfl)) rfl rfl (.yes rfl rfl rfl rfl) ?_
        refine Q_val (V_move rfl rfl) rfl rfl (.yes rfl rfl rfl rfl) ?_
        refine Q_val (V_idxAddr rfl rfl rfl (SlE.rd (by assumption)) (by omega) (by omega)) rfl rfl (.yes rfl rfl rfl rfl) ?_
        refine Q_val (V_loadS rfl rfl (SlE.rd (by assumption)) (by assumption) (by simp)) rfl rfl (.yes rfl rfl rfl rfl) ?_
        refine Q_callv (k := 69) (.mk rfl rfl rfl rfl) rfl rfl (.yes rfl rfl rfl rfl) (terminalR_call _ _ _ _ (by assumption) (by assumption) _) ?_
        refine Q_val (V_move rfl rfl) rfl rfl (.yes rfl rfl rfl rfl) ?_
        apply Q_joinOr 8 48 56 rfl
        · intro H2
          dsimp only [List.take]
          refine Q_stay (.no rfl rfl rfl rfl) rfl rfl ?_
          refine Q_stay (.no rfl rfl rfl rfl) rfl rfl ?_
          refine Q_stay (.no rfl rfl rfl rfl) rfl rfl ?_
          refine Q_stay (.no rfl rfl rfl rfl) rfl rfl ?_
          refine Q_stay (.no rfl rfl rfl rfl) rfl rfl ?_
          refine Q_stay (.no rfl rfl rfl rfl) rfl rfl ?_
          refine Q_stay (.no rfl rfl rfl rfl) rfl rfl ?_
          refine Q_val (V_pick_t rfl rfl rfl) rfl rfl (.yes rfl rfl rfl rfl) ?_
          exact FQ_end 8 rfl rfl (by kernel_rfl)
        · intro H3
          dsimp only [List.take]
          refine Q_val (V_loadA rfl rfl (Cells.own (.tail _ (.head _))) rfl) rfl rfl (.yes rfl rfl rfl rfl) ?_
          refine Q_val (V_fieldAddr rfl rfl (by decide)) rfl rfl (.yes rfl rfl rfl rfl) ?_
          refine Q_val (V_load rfl rfl (Cell.own (.head _) rfl)) rfl rfl (.yes rfl rfl rfl rfl) ?_
          refine Q_val (V_move rfl rfl) rfl rfl (.yes rfl rfl rfl rfl) ?_
          refine Q_val (V_idxAddr rfl rfl rfl (SlE.rd (by assumption)) (by omega) (by omega)) rfl rfl (.yes rfl rfl rfl rfl) ?_
          refine Q_val (V_loadS rfl rfl (SlE.rd (by assumption)) (by assumption) (by simp)) rfl rfl (.yes rfl rfl rfl rfl) ?_
          refine Q_callv (k := 68) (.mk rfl rfl rfl rfl) rfl rfl (.yes rfl rfl rfl rfl) (nontermR_call _ _ _ _ (by assumption) (by assumption) _) ?_
          refine Q_val (V_pick_f rfl rfl rfl) rfl rfl (.yes rfl rfl rfl rfl) ?_
          exact FQ_end 8 rfl rfl (by kernel_rfl)
        dsimp only [List.drop]
        refine Q_val (V_pick_t rfl rfl rfl) rfl rfl (.none rfl) ?_
        exact FQ_end 10 rfl rfl (by kernel_rfl)
      · intro H4
        dsimp only [List.take]
        refine Q_stay (.no rfl rfl rfl rfl) rfl rfl ?_
        refine Q_stay (.no rfl rfl rfl rfl) rfl rfl ?_
        refine Q_stay (.no rfl rfl rfl rfl) rfl rfl ?_
        refine Q_stay (.no rfl rfl rfl rfl) rfl rfl ?_
        refine Q_stay (.no rfl rfl rfl rfl) rfl rfl ?_
        refine Q_stay (.no rfl rfl rfl rfl) rfl rfl ?_
        refine Q_stay (.no rfl rfl rfl rfl) rfl rfl ?_
        refine Q_stay (.no rfl rfl rfl rfl) rfl rfl ?_
        refine Q_stay (.un rfl rfl rfl rfl) rfl rfl ?_
        refine Q_stay (.un rfl rfl rfl rfl) rfl rfl ?_
        refine Q_stay (.un rfl rfl rfl rfl) rfl rfl ?_
        refine Q_stay (.un rfl rfl rfl rfl) rfl rfl ?_
        refine Q_stay (.un rfl rfl rfl rfl) rfl rfl ?_
        refine Q_stay (.un rfl rfl rfl rfl) rfl rfl ?_
        refine Q_stay (.un rfl rfl rfl rfl) rfl rfl ?_
        refine Q_stay (.no rfl rfl rfl rfl) rfl rfl ?_
        refine Q_val (V_pick_f rfl rfl rfl) rfl rfl (.none rfl) ?_
        exact FQ_end 17 rfl rfl (by kernel_rfl)
      dsimp only [List.drop]
      refine Q_val (V_assign rfl rfl) rfl rfl (.none rfl) ?_
      refine Q_end ?_
      refine X_block (X_then (G_region ?_))
      refine Gm ?_
      refine Gv (V_add_i64 rfl rfl rfl (by omega) (by omega)) ?_
      refine Ga ?_
      refine G_end (X_then ?_)
      exact G_again (k + 1) hk1 (by omega) ⟨rfl, (by rw [hst2, ← Bool.and_assoc, hok2]; rfl), rfl, rfl, rfl, trivial⟩ rfl rfl
    · rw [List.take_of_length_le (by omega)]
      refine G_seq (G_seq (G_region ?_))
      refine Gm ?_
      refine Gv (V_fieldAddr rfl rfl (by decide)) ?_
      refine Gv (V_load rfl rfl (Cell.own (.head _) rfl)) ?_
      refine Gv (V_lenS rfl rfl) ?_
      refine Gv (V_lss rfl rfl rfl) ?_
      refine G_end (X_then ?_)
      refine G_cond_f rfl (decide_eq_false (by omega)) ?_
      refine G_exit (X_then_exit (X_then_exit (X_block_hit (X_block (X_then (G_region ?_))))))
      refine Gm ?_
      refine Gv (V_add_i64 rfl rfl rfl (by omega) (by omega)) ?_
      refine Ga ?_
      refine G_end (X_then ?_)
      refine G.drop ?_
      exact G_again (i + 1) hlt (by omega) ⟨rfl, (by rw [hst, ← Bool.and_assoc, hok, hfi, ← Bool.and_assoc]; rfl), rfl, trivial⟩ rfl rfl
  · have hie : i = rows.length := by omega
    subst hie
    rw [List.take_length, ← e, gc3]
    clear hi hlt
    cases hs : symB g with
    | false => refine G_seq ?_
               refine G_seq (G_region ?_)
               refine Gm ?_
               refine Gv (V_fieldAddr rfl rfl (by decide)) ?_
               refine Gv (V_load rfl rfl (Cell.own (.head _) rfl)) ?_
               refine Gv (V_lenS rfl rfl) ?_
               refine Gv (V_lss rfl rfl rfl) ?_
               refine G_end (X_then ?_)
               refine G_cond_f rfl (decide_eq_false (by omega)) ?_
               refine G_exit (X_then_exit (X_then_exit (X_block_hit (X_then (G_seq (G_seq (G_region ?_)))))))
               refine Gm ?_
               refine Gv (V_not rfl rfl) ?_
               refine G_end (X_then ?_)
               refine G_cond_t rfl (by kernel_rfl) ?_
               refine G_seq (G_region ?_)
               refine Ga ?_
               refine G_end (X_then (G_ret (X_then_ret ?_)))
               refine G_leaveS (.drop _ (.nil _)) (by exact (.cons (.tmp rfl) (.nil))) rfl ?_ ?_
               · exact (.refl _)
               exact ⟨rfl, rfl⟩
    | true =>
      rw [if_pos rfl]
      refine G_seq (G_seq (G_region ?_))
      refine Gm ?_
      refine Gv (V_fieldAddr rfl rfl (by decide)) ?_
      refine Gv (V_load rfl rfl (Cell.own (.head _) rfl)) ?_
      refine Gv (V_lenS rfl rfl) ?_
      refine Gv (V_lss rfl rfl rfl) ?_
      refine G_end (X_then ?_)
      refine G_cond_f rfl (decide_eq_false (by omega)) ?_
      refine G_exit (X_then_exit (X_then_exit (X_block_hit (X_then (G_seq (G_seq (G_region ?_)))))))
      refine Gm ?_
      refine Gv (V_not rfl rfl) ?_
      refine G_end (X_then ?_)
      refine G_cond_f rfl (by kernel_rfl) ?_
      refine G_skip (X_then (G_seq (G_seq (G_region ?_))))
      refine Ga ?_
      refine G_end (X_then (G_block ?_))
      refine G_loop (α := Nat) (fun i => [(1, .pointer (some ⟨b1, 0, none⟩)), (7, .int .i64 ((i + 1 : Nat) : Int))]) (fun _ => E) (fun _ => GB b1 g tp tc np nc pp pc :: L)
        (fun i => i ≤ rows.length ∧ ∀ j, j ≤ i → (decide (j = 0) || decide ((g.prods.getD (j - 1) (0, [])).1 ≤ (g.prods.getD j (0, [])).1)) = true) (fun i => rows.length - i) 0 ⟨Nat.zero_le _, fun j hj => by simp [Nat.le_zero.1 hj]⟩ ⟨rfl, rfl, trivial⟩ rfl rfl ?_
      rintro i ⟨hi, hall⟩
      by_cases hlt : i + 1 < rows.length
      · have hx1 := prows_left (List.getElem?_eq_getElem (show i < rows.length by omega))
        have hx2 := prows_left (List.getElem?_eq_getElem hlt)
        have a1 := hat i (by omega)
        have a2 := hat (i + 1) hlt
        by_cases hb : rows[i].2.2.1 ≤ rows[i + 1].2.2.1
        · refine G_seq ?_
          refine G_seq (G_region ?_)
          refine Gm ?_
          refine Gv (V_fieldAddr rfl rfl (by decide)) ?_
          refine Gv (V_load rfl rfl (Cell.own (.head _) rfl)) ?_
          refine Gv (V_lenS rfl rfl) ?_
          refine Gv (V_lss rfl rfl rfl) ?_
          refine G_end (X_then ?_)
          refine G_cond_t rfl (decide_eq_true (by omega)) ?_
          refine G_skip (X_then (G_seq (G_block (G_seq ?_))))
          refine G_draw mixed (by kernel_rfl) ?_
          refine Q_val (V_fieldAddr rfl rfl (by decide)) rfl rfl (.none rfl) ?_
          refine Q_val (V_load rfl rfl (Cell.own (.head _) rfl)) rfl rfl (.none rfl) ?_
          refine Q_val (V_move rfl rfl) rfl rfl (.none rfl) ?_
          refine Q_val (V_idxAddr rfl rfl rfl (SlE.rd (by assumption)) (by omega) (by omega)) rfl rfl (.none rfl) ?_
          refine Q_val (V_fieldAddrE rfl rfl (by assumption) (by omega) (by decide)) rfl rfl (.none rfl) ?_
          refine Q_val (V_loadS rfl rfl (SlE.rd (by assumption)) (by assumption) (by simp)) rfl rfl (.none rfl) ?_
          refine Q_val (V_fieldAddr rfl rfl (by decide)) rfl rfl (.none rfl) ?_
          refine Q_val (V_load rfl rfl (Cell.own (.head _) rfl)) rfl rfl (.none rfl) ?_
          refine Q_val (V_move rfl rfl) rfl rfl (.none rfl) ?_
          refine Q_val (V_sub_i64 rfl rfl rfl (by omega) (by omega)) rfl rfl (.none rfl) ?_
          refine Q_val (V_idxAddr rfl rfl rfl (SlE.rd (by assumption)) (by omega) (by omega)) rfl rfl (.none rfl) ?_
          refine Q_val (V_fieldAddrE rfl rfl (by assumption) (by omega) (by decide)) rfl rfl (.none rfl) ?_
          refine Q_val (V_loadS rfl rfl (SlE.rd (by assumption)) hx1 (by simp)) rfl rfl (.none rfl) ?_
          refine Q_val (V_lss rfl rfl rfl) rfl rfl (.none rfl) ?_
          refine Q_end ?_
          refine X_then ?_
          refine G_cond_f rfl (decide_eq_false (by omega)) ?_
          refine G_skip (X_block (X_then (G_region ?_)))
          refine Gm ?_
          refine Gv (V_add_i64 rfl rfl rfl (by omega) (by omega)) ?_
          refine Ga ?_
          refine G_end (X_then ?_)
          refine G_again (i + 1) ⟨by omega, ?_⟩ (by omega) ⟨rfl, rfl, trivial⟩ rfl rfl
          intro j hj
          by_cases he : j = i + 1
          · subst he; rw [Nat.add_sub_cancel, a1, a2]; simp [hb]
          · exact hall j (by omega)
        · have hn : ordsB g.prods = false := range_not (i := i + 1) (by omega) (by rw [Nat.add_sub_cancel, a1, a2]; simp [hb])
          rw [gc4, hn]
          refine G_seq (G_seq (G_region ?_))
          refine Gm ?_
          refine Gv (V_fieldAddr rfl rfl (by decide)) ?_
          refine Gv (V_load rfl rfl (Cell.own (.head _) rfl)) ?_
          refine Gv (V_lenS rfl rfl) ?_
          refine Gv (V_lss rfl rfl rfl) ?_
          refine G_end (X_then ?_)
          refine G_cond_t rfl (decide_eq_true (by omega)) ?_
          refine G_skip (X_then (G_seq (G_block (G_seq ?_))))
          refine G_draw mixed (by kernel_rfl) ?_
          refine Q_val (V_fieldAddr rfl rfl (by decide)) rfl rfl (.none rfl) ?_
          refine Q_val (V_load rfl rfl (Cell.own (.head _) rfl)) rfl rfl (.none rfl) ?_
          refine Q_val (V_move rfl rfl) rfl rfl (.none rfl) ?_
          refine Q_val (V_idxAddr rfl rfl rfl (SlE.rd (by assumption)) (by omega) (by omega)) rfl rfl (.none rfl) ?_
          refine Q_val (V_fieldAddrE rfl rfl (by assumption) (by omega) (by decide)) rfl rfl (.none rfl) ?_
          refine Q_val (V_loadS rfl rfl (SlE.rd (by assumption)) (by assumption) (by simp)) rfl rfl (.none rfl) ?_
          refine Q_val (V_fieldAddr rfl rfl (by decide)) rfl rfl (.none rfl) ?_
          refine Q_val (V_load rfl rfl (Cell.own (.head _) rfl)) rfl rfl (.none rfl) ?_
          refine Q_val (V_move rfl rfl) rfl rfl (.none rfl) ?_
          refine Q_val (V_sub_i64 rfl rfl rfl (by omega) (by omega)) rfl rfl (.none rfl) ?_
          refine Q_val (V_idxAddr rfl rfl rfl (SlE.rd (by assumption)) (by omega) (by omega)) rfl rfl (.none rfl) ?_
          refine Q_val (V_fieldAddrE rfl rfl (by assumption) (by omega) (by decide)) rfl rfl (.none rfl) ?_
          refine Q_val (V_loadS rfl rfl (SlE.rd (by assumption)) hx1 (by simp)) rfl rfl (.none rfl) ?_
          refine Q_val (V_lss rfl rfl rfl) rfl rfl (.none rfl) ?_
          refine Q_end ?_
          refine X_then ?_
          refine G_cond_t rfl (decide_eq_true (by omega)) ?_
          refine G_seq (G_region ?_)
          refine Ga ?_
          refine G_end (X_then (G_ret (X_block_ret (X_then_ret (X_then_ret (X_block_ret (X_then_ret ?_)))))))
          refine G_leaveS (.drop _ (.nil _)) (by exact (.cons (.tmp rfl) (.nil))) rfl ?_ ?_
          · exact (.refl _)
          exact ⟨rfl, rfl⟩
      · have hn : ordsB g.prods = true := range_all fun j hj => hall j (by omega)
        rw [gc4, if_pos hn, gc5]
        refine G_seq (G_seq (G_region ?_))
        refine Gm ?_
        refine Gv (V_fieldAddr rfl rfl (by decide)) ?_
        refine Gv (V_load rfl rfl (Cell.own (.head _) rfl)) ?_
        refine Gv (V_lenS rfl rfl) ?_
        refine Gv (V_lss rfl rfl rfl) ?_
        refine G_end (X_then ?_)
        refine G_cond_f rfl (decide_eq_false (by omega)) ?_
        refine G_exit (X_then_exit (X_then_exit (X_block_hit (X_then (G_seq (G_seq (G_region ?_)))))))
        refine Ga ?_
        refine G_end (X_then (G_block ?_))
        refine G_loop (α := Nat × Env) (fun x => [(1, .pointer (some ⟨b1, 0, none⟩)), (8, .int .i64 x.1)]) (fun x => x.2) (fun _ => GB b1 g tp tc np nc pp pc :: L)
          (fun x => x.1 ≤ g.names.length ∧ E.Le x.2 ∧ ∀ k, k < x.1 → (g.prods.any fun p => decide (p.1 = 16 + (k : Int))) = true) (fun x => g.names.length - x.1) (0, E) ⟨Nat.zero_le _, .refl _, fun k hk => by cases hk⟩ ⟨rfl, rfl, trivial⟩ rfl rfl ?_
        rintro ⟨i, E3⟩ ⟨hi, hE3, hall⟩
        simp only at hi hE3 hall ⊢
        have hg3 := hg0.mono hE3
        by_cases hlt : i < g.names.length
        · cases hb : (g.prods.any fun p => decide (p.1 = 16 + (i : Int))) with
          | true =>
            refine G_seq (G_seq (G_region ?_))
            refine Gm ?_
            refine Gv (V_fieldAddr rfl rfl (by decide)) ?_
            refine Gv (V_load rfl rfl (Cell.own (.head _) rfl)) ?_
            refine Gv (V_lenS rfl rfl) ?_
            refine Gv (V_lss rfl rfl rfl) ?_
            refine G_end (X_then ?_)
            refine G_cond_t rfl (decide_eq_true (by omega)) ?_
            refine G_skip (X_then (G_seq (G_block (G_seq (G_region ?_)))))
            refine Gv (V_loadA rfl rfl (Cells.own (.head _)) rfl) ?_
            refine Gm ?_
            refine Gv (V_add_i64 rfl rfl rfl (by omega) (by omega)) ?_
            refine G_call (k := 70) (.mk rfl rfl rfl rfl) rfl rfl (.none rfl) (prodsR_call _ _ _ _ (by assumption) (by assumption) _) ?_
            rintro r1 E2 L3 hE4 ⟨z5, ⟨z6, ⟨z7, ⟨rfl, ⟨Z8, ⟨Z9, rfl⟩⟩⟩⟩⟩⟩
            replace hg3 := hg3.mono hE4
            refine Gv (V_lenS rfl rfl) ?_
            refine Gv (V_eql rfl rfl rfl) ?_
            refine G_end (X_then ?_)
            refine G_cond_f rfl (by simp [*]; done) ?_
            refine G_skip (X_block (X_then (G_region ?_)))
            refine Gm ?_
            refine Gv (V_add_i64 rfl rfl rfl (by omega) (by omega)) ?_
            refine Ga ?_
            refine G_end (X_then ?_)
            refine G_again (i + 1, E2) ⟨hlt, hE3.trans hE4, ?_⟩ (by simp only; omega) ⟨rfl, rfl, trivial⟩ rfl rfl
            intro k hk
            by_cases he : k = i
            · subst he; exact hb
            · exact hall k (by simp only at hk; omega)
          | false =>
            have hc : compB g = false := range_not hlt hb
            rw [hc]
            refine G_seq (G_seq (G_region ?_))
            refine Gm ?_
            refine Gv (V_fieldAddr rfl rfl (by decide)) ?_
            refine Gv (V_load rfl rfl (Cell.own (.head _) rfl)) ?_
            refine Gv (V_lenS rfl rfl) ?_
            refine Gv (V_lss rfl rfl rfl) ?_
            refine G_end (X_then ?_)
            refine G_cond_t rfl (decide_eq_true (by omega)) ?_
            refine G_skip (X_then (G_seq (G_block (G_seq (G_region ?_)))))
            refine Gv (V_loadA rfl rfl (Cells.own (.head _)) rfl) ?_
            refine Gm ?_
            refine Gv (V_add_i64 rfl rfl rfl (by omega) (by omega)) ?_
            refine G_call (k := 70) (.mk rfl rfl rfl rfl) rfl rfl (.none rfl) (prodsR_call _ _ _ _ (by assumption) (by assumption) _) ?_
            rintro r1 E2 L3 hE4 ⟨z5, ⟨z6, ⟨z7, ⟨rfl, ⟨Z8, ⟨Z9, rfl⟩⟩⟩⟩⟩⟩
            replace hg3 := hg3.mono hE4
            refine Gv (V_lenS rfl rfl) ?_
            refine Gv (V_eql rfl rfl rfl) ?_
            refine G_end (X_then ?_)
            refine G_cond_t rfl (by simp [*]; done) ?_
            refine G_seq (G_region ?_)
            refine Ga ?_
            refine G_end (X_then (G_ret (X_block_ret (X_then_ret (X_then_ret (X_block_ret (X_then_ret ?_)))))))
            refine G_leaveS (.drop _ (.nil _)) (by exact (.cons (.tmp rfl) (.nil))) rfl ?_ ?_
            · exact (hE3.trans hE4)
            exact ⟨(by kernel_rfl), rfl⟩
        · have hc : compB g = true := range_all fun k hk => hall k (by omega)
          rw [hc]
          refine G_seq (G_seq (G_region ?_))
          refine Gm ?_
          refine Gv (V_fieldAddr rfl rfl (by decide)) ?_
          refine Gv (V_load rfl rfl (Cell.own (.head _) rfl)) ?_
          refine Gv (V_lenS rfl rfl) ?_
          refine Gv (V_lss rfl rfl rfl) ?_
          refine G_end (X_then ?_)
          refine G_cond_f rfl (decide_eq_false (by omega)) ?_
          refine G_exit (X_then_exit (X_then_exit (X_block_hit (X_then (G_seq (G_region ?_))))))
          refine Ga ?_
          refine G_end (X_then (G_ret ?_))
          refine G_leaveS (.drop _ (.nil _)) (by exact (.cons (.tmp rfl) (.nil))) rfl ?_ ?_
          · exact hE3
          exact ⟨(by kernel_rfl), rfl⟩
end
end Go.Proofs.YtaibabmladgldaaDoor
set_option linter.unusedSimpArgs false
set_option linter.unusedVariables false
set_option maxHeartbeats 2000000
set_option maxRecDepth 20000
namespace Go.Proofs.YtaibabmladgldaaDoor
open Go.RowKit
theorem dup_smalls {g : Gr} (h : smallsB g = true) : dupB (g.toks ++ [g.sep] ++ g.names) = (dupB (g.toks ++ [g.sep]) || dupB g.names) := by
  simp only [smallsB, Bool.and_eq_true, List.all_eq_true] at h
  have hd : ∀ a, a ∈ g.toks ++ [g.sep] → ∀ b, b ∈ g.names → a ≠ b := by
    rintro a ha b hb rfl
    have h1 := h.1 a ha
    have h2 := h.2 a hb
    simp only [smallB, capB, Bool.and_eq_true, decide_eq_true_eq] at h1 h2
    omega
  have e : (g.toks ++ [g.sep] ++ g.names).Nodup ↔ (g.toks ++ [g.sep]).Nodup ∧ g.names.Nodup := by
    rw [List.nodup_append]
    exact ⟨fun ⟨a, b, _⟩ => ⟨a, b⟩, fun ⟨a, b⟩ => ⟨a, b, hd⟩⟩
  simp only [dupB]
  rw [decide_eq_decide.2 e, Bool.decide_and, Bool.not_and]
section
variable (E : Env) (L : List Res)
theorem GCheckR_call (gv : Value) (g : Gr) (hg : GrE E gv g) (hl : Light g) : CallV Tryd.prog 38 #[gv] E L (.int .i64 (gcheck g)) := by
  have hg0 := hg
  obtain ⟨tp, tc, np, nc, pp, pc, rfl, ht, hn, ⟨rows, hrows, hps, hre⟩, k1, k2, k3⟩ := hg
  refine CallS.toV (CallS.intro (l := [_]) _ Tryd.func38 rfl Tryd.ntmps38 rfl ?_)
  by_cases hk : g.k < 1 ∨ 4 < g.k
  · rw [gcheck, if_pos hk]
    refine G_seq (G_region ?_)
    (refine G_boxA rfl rfl rfl rfl (.none rfl) ?_; intro b1)
    refine Ga ?_
    refine G_end (X_then (G_seq (G_seq (G_region ?_))))
    refine Gv (V_fieldAddr rfl rfl (by decide)) ?_
    refine Gv (V_load rfl rfl (Cell.own (.head _) rfl)) ?_
    refine Gv (V_lss rfl rfl rfl) ?_
    refine Gm ?_
    apply G_joinOr 4 7 11 rfl
    · intro H1
      dsimp only [List.take]
      simp only [Bool.and_eq_true, Bool.or_eq_true, Bool.not_eq_true', Bool.not_eq_false', Bool.and_eq_false_iff, Bool.or_eq_false_iff, Bool.not_not, decide_eq_true_eq, decide_eq_false_iff_not, ne_eq, Decidable.not_not, Bool.decide_eq_true] at H1
      refine Gn ?_
      refine Gn ?_
      refine Gn ?_
      refine Gv (V_pick_t rfl rfl rfl) ?_
      refine G_end ?_
      exact JQ_end 4 rfl rfl (by kernel_rfl)
    · intro H2
      dsimp only [List.take]
      simp only [Bool.and_eq_true, Bool.or_eq_true, Bool.not_eq_true', Bool.not_eq_false', Bool.and_eq_false_iff, Bool.or_eq_false_iff, Bool.not_not, decide_eq_true_eq, decide_eq_false_iff_not, ne_eq, Decidable.not_not, Bool.decide_eq_true] at H2
      refine Gy (V_fieldAddr rfl rfl (by decide)) ?_
      refine Gy (V_load rfl rfl (Cell.own (.head _) rfl)) ?_
      refine Gy (V_gtr rfl rfl rfl) ?_
      refine Gv (V_pick_f rfl rfl rfl) ?_
      refine G_end ?_
      exact JQ_end 4 rfl rfl (by kernel_rfl)
    dsimp only [List.drop]
    refine G_end (X_then ?_)
    refine G_cond_t rfl (by simp [*]; done) ?_
    refine G_seq (G_region ?_)
    refine Ga ?_
    refine G_end (X_then (G_ret (X_then_ret ?_)))
    refine G_leaveS (.drop _ (.nil _)) (by exact (.cons (.tmp rfl) (.nil))) rfl ?_ ?_
    · exact (.refl _)
    exact ⟨(by kernel_rfl), rfl⟩
  rw [gcheck, if_neg hk, gc0]
  by_cases hb : fullB g = true
  · have v : (if fullB g = true then (6 : Int) else 0) = 6 := if_pos hb
    rw [if_pos hb]
    refine G_seq (G_region ?_)
    (refine G_boxA rfl rfl rfl rfl (.none rfl) ?_; intro b1)
    refine Ga ?_
    refine G_end (X_then (G_seq (G_seq (G_region ?_))))
    refine Gv (V_fieldAddr rfl rfl (by decide)) ?_
    refine Gv (V_load rfl rfl (Cell.own (.head _) rfl)) ?_
    refine Gv (V_lss rfl rfl rfl) ?_
    refine Gm ?_
    refine G.bool_f 7 rfl (decide_eq_false (by omega)) ?_
    refine Gy (V_fieldAddr rfl rfl (by decide)) ?_
    refine Gy (V_load rfl rfl (Cell.own (.head _) rfl)) ?_
    refine Gy (V_gtr rfl rfl rfl) ?_
    refine Gv (V_pick_f rfl rfl rfl) ?_
    refine G_end (X_then ?_)
    refine G_cond_f rfl (decide_eq_false (by omega)) ?_
    refine G_skip (X_then (G_seq (G_region ?_)))
    refine Gv (V_loadA rfl rfl (Cells.own (.head _)) rfl) ?_
    refine G_callv (k := 50) (.mk rfl rfl rfl rfl) rfl rfl (.none rfl) (full_call _ _ _ _ (by assumption) (by assumption)) ?_
    refine Ga ?_
    refine G_end (X_then (G_seq (G_seq (G_region ?_))))
    refine Gm ?_
    refine Gv (V_eql rfl rfl rfl) ?_
    refine Gm ?_
    refine G.bool_f 16 rfl (decide_eq_false (by omega)) ?_
    refine Gn ?_
    refine Gn ?_
    refine Gn ?_
    refine Gn ?_
    refine Gn ?_
    refine G_stay (.un rfl rfl rfl rfl) rfl rfl ?_
    refine G_stay (.un rfl rfl rfl rfl) rfl rfl ?_
    refine G_stay (.un rfl rfl rfl rfl) rfl rfl ?_
    refine G_stay (.un rfl rfl rfl rfl) rfl rfl ?_
    refine Gn ?_
    refine Gv (V_pick_f rfl rfl rfl) ?_
    refine G_end (X_then ?_)
    refine G_cond_f rfl rfl ?_
    refine G_skip (X_then (G_seq (G_seq (G_region ?_))))
    refine Gm ?_
    refine Gv (V_eql rfl rfl rfl) ?_
    refine G_end (X_then ?_)
    refine G_cond_f rfl (decide_eq_false (by omega)) ?_
    refine G_skip (X_then (G_seq (G_seq (G_region ?_))))
    refine Gm ?_
    refine Gv (V_eql rfl rfl rfl) ?_
    refine G_end (X_then ?_)
    refine G_cond_f rfl (decide_eq_false (by omega)) ?_
    refine G_skip (X_then (G_seq (G_region ?_)))
    refine Gm ?_
    refine Ga ?_
    refine G_end (X_then (G_ret ?_))
    refine G_leaveS (.drop _ (.nil _)) (by exact (.cons (.tmp rfl) (.nil))) rfl ?_ ?_
    · exact (.refl _)
    exact ⟨(by (simp (discharger := omega) only [resVal, if_pos, if_neg]; first | done | rfl)), (by rfl)⟩
  have v : (if fullB g = true then (6 : Int) else 0) = 0 := if_neg hb
  rw [if_neg hb, gc1]
  have hsh : shortB g = (decide (g.toks.length = 0) || decide (g.names.length = 0)) := rfl
  by_cases h1 : g.toks.length = 0 ∨ g.names.length = 0
  · have : shortB g = true := by rw [hsh, Bool.or_eq_true, decide_eq_true_eq, decide_eq_true_eq]; exact h1
    rw [if_pos this]
    refine G_seq (G_region ?_)
    (refine G_boxA rfl rfl rfl rfl (.none rfl) ?_; intro b1)
    refine Ga ?_
    refine G_end (X_then (G_seq (G_seq (G_region ?_))))
    refine Gv (V_fieldAddr rfl rfl (by decide)) ?_
    refine Gv (V_load rfl rfl (Cell.own (.head _) rfl)) ?_
    refine Gv (V_lss rfl rfl rfl) ?_
    refine Gm ?_
    refine G.bool_f 7 rfl (decide_eq_false (by omega)) ?_
    refine Gy (V_fieldAddr rfl rfl (by decide)) ?_
    refine Gy (V_load rfl rfl (Cell.own (.head _) rfl)) ?_
    refine Gy (V_gtr rfl rfl rfl) ?_
    refine Gv (V_pick_f rfl rfl rfl) ?_
    refine G_end (X_then ?_)
    refine G_cond_f rfl (decide_eq_false (by omega)) ?_
    refine G_skip (X_then (G_seq (G_region ?_)))
    refine Gv (V_loadA rfl rfl (Cells.own (.head _)) rfl) ?_
    refine G_callv (k := 50) (.mk rfl rfl rfl rfl) rfl rfl (.none rfl) (full_call _ _ _ _ (by assumption) (by assumption)) ?_
    refine Ga ?_
    refine G_end (X_then (G_seq (G_seq (G_region ?_))))
    refine Gm ?_
    refine Gv (V_eql rfl rfl rfl) ?_
    refine Gm ?_
    refine G.bool_t 16 rfl (decide_eq_true (by omega)) ?_
    refine Gy (V_fieldAddr rfl rfl (by decide)) ?_
    refine Gy (V_load rfl rfl (Cell.own (.head _) rfl)) ?_
    refine Gy (V_lenS rfl rfl) ?_
    refine Gy (V_eql rfl rfl rfl) ?_
    refine Gy (V_move rfl rfl) ?_
    apply G_joinOr 5 21 26 rfl
    · intro H1
      dsimp only [List.take]
      simp only [Bool.and_eq_true, Bool.or_eq_true, Bool.not_eq_true', Bool.not_eq_false', Bool.and_eq_false_iff, Bool.or_eq_false_iff, Bool.not_not, decide_eq_true_eq, decide_eq_false_iff_not, ne_eq, Decidable.not_not, Bool.decide_eq_true] at H1
      refine Gn ?_
      refine Gn ?_
      refine Gn ?_
      refine Gn ?_
      refine Gy (V_pick_t rfl rfl rfl) ?_
      refine G_end ?_
      exact JQ_end 5 rfl rfl (by kernel_rfl)
    · intro H2
      dsimp only [List.take]
      simp only [Bool.and_eq_true, Bool.or_eq_true, Bool.not_eq_true', Bool.not_eq_false', Bool.and_eq_false_iff, Bool.or_eq_false_iff, Bool.not_not, decide_eq_true_eq, decide_eq_false_iff_not, ne_eq, Decidable.not_not, Bool.decide_eq_true] at H2
      refine Gy (V_fieldAddr rfl rfl (by decide)) ?_
      refine Gy (V_load rfl rfl (Cell.own (.head _) rfl)) ?_
      refine Gy (V_lenS rfl rfl) ?_
      refine Gy (V_eql rfl rfl rfl) ?_
      refine Gy (V_pick_f rfl rfl rfl) ?_
      refine G_end ?_
      exact JQ_end 5 rfl rfl (by kernel_rfl)
    dsimp only [List.drop]
    refine Gv (V_pick_t rfl rfl rfl) ?_
    refine G_end (X_then ?_)
    refine G_cond rfl (fun H3 => ?_) (fun H3 => ?_)
    · simp only [Bool.and_eq_true, Bool.or_eq_true, Bool.not_eq_true', Bool.not_eq_false', Bool.and_eq_false_iff, Bool.or_eq_false_iff, Bool.not_not, decide_eq_true_eq, decide_eq_false_iff_not, ne_eq, Decidable.not_not, Bool.decide_eq_true] at H3
      refine G_region ?_
      refine Ga ?_
      refine G_end (X_then (G_seq (G_seq (G_region ?_))))
      refine Gm ?_
      refine Gv (V_eql rfl rfl rfl) ?_
      refine G_end (X_then ?_)
      refine G_cond_f rfl (by kernel_rfl) ?_
      refine G_skip (X_then (G_seq (G_seq (G_region ?_))))
      refine Gm ?_
      refine Gv (V_eql rfl rfl rfl) ?_
      refine G_end (X_then ?_)
      refine G_cond_f rfl (by kernel_rfl) ?_
      refine G_skip (X_then (G_seq (G_region ?_)))
      refine Gm ?_
      refine Ga ?_
      refine G_end (X_then (G_ret ?_))
      refine G_leaveS (.drop _ (.nil _)) (by exact (.cons (.tmp rfl) (.nil))) rfl ?_ ?_
      · exact (.refl _)
      exact ⟨(by kernel_rfl), rfl⟩
    simp only [Bool.and_eq_true, Bool.or_eq_true, Bool.not_eq_true', Bool.not_eq_false', Bool.and_eq_false_iff, Bool.or_eq_false_iff, Bool.not_not, decide_eq_true_eq, decide_eq_false_iff_not, ne_eq, Decidable.not_not, Bool.decide_eq_true] at H3
    (exfalso; omega)
  have h2 : g.toks.length ≠ 0 := fun h => h1 (.inl h)
  have h3 : g.names.length ≠ 0 := fun h => h1 (.inr h)
  have : ¬ shortB g = true := by rw [hsh, Bool.or_eq_true, decide_eq_true_eq, decide_eq_true_eq]; exact h1
  rw [if_neg this]
  by_cases h4 : smallsB g = true
  · rw [if_pos h4, gc2, dup_smalls h4]
    by_cases h5 : (dupB (g.toks ++ [g.sep]) || dupB g.names) = true
    · rw [if_pos h5]
      have v2 : (if smallsB g = true then (if (dupB (g.toks ++ [g.sep]) || dupB g.names) = true then (8 : Int) else 0) else 12) = 8 := by rw [if_pos h4, if_pos h5]
      refine G_seq (G_region ?_)
      (refine G_boxA rfl rfl rfl rfl (.none rfl) ?_; intro b1)
      refine Ga ?_
      refine G_end (X_then (G_seq (G_seq (G_region ?_))))
      refine Gv (V_fieldAddr rfl rfl (by decide)) ?_
      refine Gv (V_load rfl rfl (Cell.own (.head _) rfl)) ?_
      refine Gv (V_lss rfl rfl rfl) ?_
      refine Gm ?_
      refine G.bool_f 7 rfl (decide_eq_false (by omega)) ?_
      refine Gy (V_fieldAddr rfl rfl (by decide)) ?_
      refine Gy (V_load rfl rfl (Cell.own (.head _) rfl)) ?_
      refine Gy (V_gtr rfl rfl rfl) ?_
      refine Gv (V_pick_f rfl rfl rfl) ?_
      refine G_end (X_then ?_)
      refine G_cond_f rfl (decide_eq_false (by omega)) ?_
      refine G_skip (X_then (G_seq (G_region ?_)))
      refine Gv (V_loadA rfl rfl (Cells.own (.head _)) rfl) ?_
      refine G_callv (k := 50) (.mk rfl rfl rfl rfl) rfl rfl (.none rfl) (full_call _ _ _ _ (by assumption) (by assumption)) ?_
      refine Ga ?_
      refine G_end (X_then (G_seq (G_seq (G_region ?_))))
      refine Gm ?_
      refine Gv (V_eql rfl rfl rfl) ?_
      refine Gm ?_
      refine G.bool_t 16 rfl (decide_eq_true (by omega)) ?_
      refine Gy (V_fieldAddr rfl rfl (by decide)) ?_
      refine Gy (V_load rfl rfl (Cell.own (.head _) rfl)) ?_
      refine Gy (V_lenS rfl rfl) ?_
      refine Gy (V_eql rfl rfl rfl) ?_
      refine Gy (V_move rfl rfl) ?_
      refine G.bool_f 21 rfl (decide_eq_false (by omega)) ?_
      refine Gy (V_fieldAddr rfl rfl (by decide)) ?_
      refine Gy (V_load rfl rfl (Cell.own (.head _) rfl)) ?_
      refine Gy (V_lenS rfl rfl) ?_
      refine Gy (V_eql rfl rfl rfl) ?_
      refine Gy (V_pick_f rfl rfl rfl) ?_
      refine Gv (V_pick_t rfl rfl rfl) ?_
      refine G_end (X_then ?_)
      refine G_cond_f rfl (decide_eq_false (by omega)) ?_
      refine G_skip (X_then (G_seq (G_seq (G_region ?_))))
      refine Gm ?_
      refine Gv (V_eql rfl rfl rfl) ?_
      refine G_end (X_then ?_)
      refine G_cond_t rfl (decide_eq_true (by omega)) ?_
      refine G_region ?_
      refine Gv (V_loadA rfl rfl (Cells.own (.head _)) rfl) ?_
      refine G_callv (k := 51) (.mk rfl rfl rfl rfl) rfl rfl (.none rfl) (namedR_call _ _ _ _ (by assumption) (by assumption) (by assumption)) ?_
      refine Ga ?_
      refine G_end (X_then (G_seq (G_seq (G_region ?_))))
      refine Gm ?_
      refine Gv (V_eql rfl rfl rfl) ?_
      refine G_end (X_then ?_)
      refine G_cond_f rfl (decide_eq_false (by omega)) ?_
      refine G_skip (X_then (G_seq (G_region ?_)))
      refine Gm ?_
      refine Ga ?_
      refine G_end (X_then (G_ret ?_))
      refine G_leaveS (.drop _ (.nil _)) (by exact (.cons (.tmp rfl) (.nil))) rfl ?_ ?_
      · exact (.refl _)
      exact ⟨(by (simp (discharger := omega) only [resVal, if_pos, if_neg]; first | done | rfl)), (by rfl)⟩
    · rw [if_neg h5]
      have v2 : (if smallsB g = true then (if (dupB (g.toks ++ [g.sep]) || dupB g.names) = true then (8 : Int) else 0) else 12) = 0 := by rw [if_pos h4, if_neg h5]
      refine G_seq (G_region ?_)
      (refine G_boxA rfl rfl rfl rfl (.none rfl) ?_; intro b1)
      refine Ga ?_
      refine G_end (X_then (G_seq (G_seq (G_region ?_))))
      refine Gv (V_fieldAddr rfl rfl (by decide)) ?_
      refine Gv (V_load rfl rfl (Cell.own (.head _) rfl)) ?_
      refine Gv (V_lss rfl rfl rfl) ?_
      refine Gm ?_
      refine G.bool_f 7 rfl (decide_eq_false (by omega)) ?_
      refine Gy (V_fieldAddr rfl rfl (by decide)) ?_
      refine Gy (V_load rfl rfl (Cell.own (.head _) rfl)) ?_
      refine Gy (V_gtr rfl rfl rfl) ?_
      refine Gv (V_pick_f rfl rfl rfl) ?_
      refine G_end (X_then ?_)
      refine G_cond_f rfl (decide_eq_false (by omega)) ?_
      refine G_skip (X_then (G_seq (G_region ?_)))
      refine Gv (V_loadA rfl rfl (Cells.own (.head _)) rfl) ?_
      refine G_callv (k := 50) (.mk rfl rfl rfl rfl) rfl rfl (.none rfl) (full_call _ _ _ _ (by assumption) (by assumption)) ?_
      refine Ga ?_
      refine G_end (X_then (G_seq (G_seq (G_region ?_))))
      refine Gm ?_
      refine Gv (V_eql rfl rfl rfl) ?_
      refine Gm ?_
      refine G.bool_t 16 rfl (decide_eq_true (by omega)) ?_
      refine Gy (V_fieldAddr rfl rfl (by decide)) ?_
      refine Gy (V_load rfl rfl (Cell.own (.head _) rfl)) ?_
      refine Gy (V_lenS rfl rfl) ?_
      refine Gy (V_eql rfl rfl rfl) ?_
      refine Gy (V_move rfl rfl) ?_
      refine G.bool_f 21 rfl (decide_eq_false (by omega)) ?_
      refine Gy (V_fieldAddr rfl rfl (by decide)) ?_
      refine Gy (V_load rfl rfl (Cell.own (.head _) rfl)) ?_
      refine Gy (V_lenS rfl rfl) ?_
      refine Gy (V_eql rfl rfl rfl) ?_
      refine Gy (V_pick_f rfl rfl rfl) ?_
      refine Gv (V_pick_t rfl rfl rfl) ?_
      refine G_end (X_then ?_)
      refine G_cond_f rfl (decide_eq_false (by omega)) ?_
      refine G_skip (X_then (G_seq (G_seq (G_region ?_))))
      refine Gm ?_
      refine Gv (V_eql rfl rfl rfl) ?_
      refine G_end (X_then ?_)
      refine G_cond_t rfl (decide_eq_true (by omega)) ?_
      refine G_region ?_
      refine Gv (V_loadA rfl rfl (Cells.own (.head _)) rfl) ?_
      refine G_callv (k := 51) (.mk rfl rfl rfl rfl) rfl rfl (.none rfl) (namedR_call _ _ _ _ (by assumption) (by assumption) (by assumption)) ?_
      refine Ga ?_
      refine G_end (X_then (G_seq (G_seq (G_region ?_))))
      refine Gm ?_
      refine Gv (V_eql rfl rfl rfl) ?_
      refine G_end (X_then ?_)
      refine G_cond_t rfl (decide_eq_true (by omega)) ?_
      refine G_region ?_
      refine Gv (V_loadA rfl rfl (Cells.own (.head _)) rfl) ?_
      refine G_callv (k := 52) (.mk rfl rfl rfl rfl) rfl rfl (.none rfl) (symbolsR_call _ _ _ _ (by assumption) (by assumption)) ?_
      refine Ga ?_
      refine G_end (X_then (G_seq (G_region ?_)))
      refine Gm ?_
      refine Ga ?_
      refine G_end (X_then (G_ret ?_))
      refine G_leaveS (.drop _ (.nil _)) (by exact (.cons (.tmp rfl) (.nil))) rfl ?_ ?_
      · exact (.refl _)
      exact ⟨rfl, rfl⟩
  · rw [if_neg h4]
    have v2 : (if smallsB g = true then (if (dupB (g.toks ++ [g.sep]) || dupB g.names) = true then (8 : Int) else 0) else 12) = 12 := by rw [if_neg h4]
    refine G_seq (G_region ?_)
    (refine G_boxA rfl rfl rfl rfl (.none rfl) ?_; intro b1)
    refine Ga ?_
    refine G_end (X_then (G_seq (G_seq (G_region ?_))))
    refine Gv (V_fieldAddr rfl rfl (by decide)) ?_
    refine Gv (V_load rfl rfl (Cell.own (.head _) rfl)) ?_
    refine Gv (V_lss rfl rfl rfl) ?_
    refine Gm ?_
    refine G.bool_f 7 rfl (decide_eq_false (by omega)) ?_
    refine Gy (V_fieldAddr rfl rfl (by decide)) ?_
    refine Gy (V_load rfl rfl (Cell.own (.head _) rfl)) ?_
    refine Gy (V_gtr rfl rfl rfl) ?_
    refine Gv (V_pick_f rfl rfl rfl) ?_
    refine G_end (X_then ?_)
    refine G_cond_f rfl (decide_eq_false (by omega)) ?_
    refine G_skip (X_then (G_seq (G_region ?_)))
    refine Gv (V_loadA rfl rfl (Cells.own (.head _)) rfl) ?_
    refine G_callv (k := 50) (.mk rfl rfl rfl rfl) rfl rfl (.none rfl) (full_call _ _ _ _ (by assumption) (by assumption)) ?_
    refine Ga ?_
    refine G_end (X_then (G_seq (G_seq (G_region ?_))))
    refine Gm ?_
    refine Gv (V_eql rfl rfl rfl) ?_
    refine Gm ?_
    refine G.bool_t 16 rfl (decide_eq_true (by omega)) ?_
    refine Gy (V_fieldAddr rfl rfl (by decide)) ?_
    refine Gy (V_load rfl rfl (Cell.own (.head _) rfl)) ?_
    refine Gy (V_lenS rfl rfl) ?_
    refine Gy (V_eql rfl rfl rfl) ?_
    refine Gy (V_move rfl rfl) ?_
    refine G.bool_f 21 rfl (decide_eq_false (by omega)) ?_
    refine Gy (V_fieldAddr rfl rfl (by decide)) ?_
    refine Gy (V_load rfl rfl (Cell.own (.head _) rfl)) ?_
    refine Gy (V_lenS rfl rfl) ?_
    refine Gy (V_eql rfl rfl rfl) ?_
    refine Gy (V_pick_f rfl rfl rfl) ?_
    refine Gv (V_pick_t rfl rfl rfl) ?_
    refine G_end (X_then ?_)
    refine G_cond_f rfl (decide_eq_false (by omega)) ?_
    refine G_skip (X_then (G_seq (G_seq (G_region ?_))))
    refine Gm ?_
    refine Gv (V_eql rfl rfl rfl) ?_
    refine G_end (X_then ?_)
    refine G_cond_t rfl (decide_eq_true (by omega)) ?_
    refine G_region ?_
    refine Gv (V_loadA rfl rfl (Cells.own (.head _)) rfl) ?_
    refine G_callv (k := 51) (.mk rfl rfl rfl rfl) rfl rfl (.none rfl) (namedR_call _ _ _ _ (by assumption) (by assumption) (by assumption)) ?_
    refine Ga ?_
    refine G_end (X_then (G_seq (G_seq (G_region ?_))))
    refine Gm ?_
    refine Gv (V_eql rfl rfl rfl) ?_
    refine G_end (X_then ?_)
    refine G_cond_f rfl (decide_eq_false (by omega)) ?_
    refine G_skip (X_then (G_seq (G_region ?_)))
    refine Gm ?_
    refine Ga ?_
    refine G_end (X_then (G_ret ?_))
    refine G_leaveS (.drop _ (.nil _)) (by exact (.cons (.tmp rfl) (.nil))) rfl ?_ ?_
    · exact (.refl _)
    exact ⟨(by (simp (discharger := omega) only [resVal, if_pos, if_neg]; first | done | rfl)), (by rfl)⟩
end
end Go.Proofs.YtaibabmladgldaaDoor
