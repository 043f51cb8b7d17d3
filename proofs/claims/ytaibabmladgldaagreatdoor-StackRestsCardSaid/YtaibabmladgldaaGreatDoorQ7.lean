/-
  Rules and contracts, packed: S9, S18, S27, S30, S17, D10, D37, D27, Sep37.
-/
import Derived.Test.YtaibabmladgldaaGreatDoorQ6
set_option maxHeartbeats 1000000
set_option linter.unusedSimpArgs false
set_option linter.unusedVariables false
set_option maxHeartbeats 2000000
set_option maxRecDepth 20000
namespace Go.Proofs.YtaibabmladgldaaGreatDoor
open Go.RowKit
/-! The top dot one further; a clone. -/
theorem bump_snoc (l : List Spt) (q d : Int) : bump (l ++ [(q, d)]) = l ++ [(q, d + 1)] := by
  simp [bump]
section
variable (E : Env) (L : List Res)
theorem moved_call (p : Option Addr) (n c : Nat) (l : List Spt) (q d : Int) (hs : SlE E 2 p n (spC (l ++ [(q, d)]))) (hn : n ≤ 64) (hc : n ≤ c) (hd : 0 ≤ d ∧ d ≤ 1000) :
    CallS Tryz.prog 33 #[.slice p n c] E L (fun r E' L' => ∃ a c', r = .slice a n c' ∧ SlE E' 2 a n (spC (l ++ [(q, d + 1)])) ∧ n ≤ c' ∧ L' = L) := by
  have en := hs.nSp
  rw [List.length_append, List.length_singleton] at en
  subst en
  have x6 : ((spC (l ++ [(q, d)])).drop ((((l.length + 1 : Nat) : Int) - 1).toNat * 2)).take 2 = [.int .i64 q, .int .i64 d] := by
    rw [show (((l.length + 1 : Nat) : Int) - 1).toNat = l.length by omega]
    exact spC_get (show (l ++ [(q, d)])[l.length]? = some (q, d) by simp)
  have hap := spC_append l [(q, d + 1)]
  have hs0 : SlE E 2 p l.length (spC l) := by
    have := hs.head (i := l.length) (by omega)
    rw [spC_append, show l.length * 2 = (spC l).length by rw [spC_len], List.take_left] at this
    exact this
  -- the loads take the first fact that fits
  replace hs := hs
  refine CallS.intro (l := [_]) _ Tryz.func33 rfl Tryz.ntmps33 rfl ?_
  refine G_seq (G_region ?_)
  refine Ga ?_
  refine G_end (X_then (G_seq (G_region ?_)))
  refine Gm ?_
  refine Gv (V_lenS rfl rfl) ?_
  refine Gv (V_sub_i64 rfl rfl rfl (by omega) (by omega)) ?_
  refine Ga ?_
  refine G_end (X_then (G_seq (G_region ?_)))
  refine Gm ?_
  refine Gm ?_
  refine Gv (V_idxAddr rfl rfl rfl (SlE.rd (by assumption)) (by omega) (by omega)) ?_
  refine Gv (V_loadAS rfl rfl (SlE.rd (by assumption)) (by assumption) (by simp) (by rfl)) ?_
  (refine G_alloc rfl rfl rfl (.none rfl) ?_; intro b4)
  refine G_storeA rfl rfl rfl rfl (by simp [Value.oneCell']) rfl (.none rfl) (.head _ _ _) rfl ?_
  refine G_end (X_then (G_seq (G_region ?_)))
  refine Gv (V_fieldAddr rfl rfl (by decide)) ?_
  refine Gv (V_load rfl rfl (Cell.own (.head _) rfl)) ?_
  refine Gv (V_add_i64 rfl rfl rfl (by omega) (by omega)) ?_
  refine Gv (V_fieldAddr rfl rfl (by decide)) ?_
  refine G_storeAt rfl rfl rfl rfl rfl rfl (.none rfl) (.head _ _ _) (Nat.le_of_ble_eq_true rfl) (by simp only [putAll, Nat.zero_add, Nat.reduceAdd, List.setIfInBounds_toArray, List.set_cons_succ, List.set_cons_zero]; rfl) ?_
  refine G_end (X_then (G_seq ?_))
  refine G_drawX 6 [(0, 0), (1, 0), (2, 0), (3, 0), (4, 1), (5, 2)] mixed (by kernel_rfl) ?_
  refine F_pure rfl (fun _ _ => V_move rfl rfl) rfl rfl (.none rfl) ?_
  refine F_pure rfl (fun _ _ => V_move rfl rfl) rfl rfl (.none rfl) ?_
  refine F_pure rfl (fun _ _ => V_move rfl rfl) rfl rfl (.none rfl) ?_
  refine F_pure rfl (fun _ _ => V_sl3 rfl rfl rfl rfl (by omega) (by omega) (by omega)) rfl rfl (.none rfl) ?_
  refine F_load rfl (.head _) (V_loadA rfl rfl (Cells.own (.head _)) rfl) rfl rfl (.none rfl) ?_
  (refine F_litZ rfl rfl rfl (by decide) (by simp [fillS, zeros, setLs, setL, Value.cells, List.range, List.range.loop]; rfl) (by rfl) rfl rfl (.none rfl) ?_; intro b21 E21 hE21 hs21)
  replace hs0 := hs0.mono hE21
  replace hs := hs.mono hE21
  (refine F_end (.nil _) ?_; dsimp only [List.drop])
  rw [show (((l.length + 1 : Nat) : Int) - 1).toNat = l.length by omega]
  refine G_appendZ rfl rfl rfl hs0 hs21 (by omega) (by omega) rfl rfl (.none rfl) ?_
  intro a' c' E9 hE9 hap' hc'
  rw [hap]
  refine Ga ?_
  refine G_end (X_then (G_ret ?_))
  refine G_leaveS (.drop _ (.nil _)) (by exact (.cons (.tmp rfl) (.nil))) rfl ?_ ?_
  · exact (hE21.trans hE9)
  exact ⟨_, ⟨_, ⟨rfl, ⟨(by assumption), ⟨(by assumption), rfl⟩⟩⟩⟩⟩
theorem CloneSp_call (p : Option Addr) (c : Nat) (l : List Spt) (hl : SlE E 2 p l.length (spC l)) (hn : l.length ≤ 1000) :
    CallS Tryz.prog 34 #[.slice p l.length c] E L (fun r E' L' => ∃ a c', r = .slice a l.length c' ∧ SlE E' 2 a l.length (spC l) ∧ l.length ≤ c' ∧ L' = L) := by
  refine CallS.intro (l := [_]) _ Tryz.func34 rfl Tryz.ntmps34 rfl ?_
  cases p with
  | none =>
    have hn0 : l.length = 0 := by
      rcases hl.2 with ⟨_, h⟩ | ⟨q, h, _⟩
      · exact h
      · cases h
    have hle : l = [] := List.eq_nil_of_length_eq_zero hn0
    subst hle
    have hnil : SlE E 2 none 0 (spC []) := SlE.nil
    refine G_seq (G_region ?_)
    refine Ga ?_
    refine G_end (X_then (G_seq (G_seq (G_region ?_))))
    refine Gm ?_
    refine Gv (V_eqlN rfl rfl rfl) ?_
    refine G_end (X_then ?_)
    refine G_cond_t rfl (by kernel_rfl) ?_
    refine G_seq (G_region ?_)
    refine Ga ?_
    refine G_end (X_then (G_ret (X_then_ret ?_)))
    refine G_leaveS (.nil _) (by exact (.cons (.tmp rfl) (.nil))) rfl ?_ ?_
    · exact (.refl _)
    exact ⟨_, ⟨_, ⟨rfl, ⟨(by assumption), ⟨(by omega), rfl⟩⟩⟩⟩⟩
  | some q =>
    refine G_seq (G_region ?_)
    refine Ga ?_
    refine G_end (X_then (G_seq (G_seq (G_region ?_))))
    refine Gm ?_
    refine Gv (V_eqlN rfl rfl rfl) ?_
    refine G_end (X_then ?_)
    refine G_cond_f rfl (by simp [*]; done) ?_
    refine G_skip (X_then (G_seq (G_region ?_)))
    (refine G_lit0z rfl rfl rfl (.none rfl) ?_; intro b5)
    refine Gm ?_
    refine G_append rfl rfl rfl (SlE.rd hl) (spC_one l) (by omega) (by omega) rfl rfl (.none rfl) (fun _ _ => .head _ _ _) ?_
    intro a7 c7
    refine G.freezeSl (.head _ _) ?_
    intro E1 hE1 hal hc
    simp only [Nat.zero_add, List.nil_append] at hal hc ⊢
    refine Ga ?_
    refine G_end (X_then (G_ret ?_))
    refine G_leaveS (.nil _) (by exact (.cons (.tmp rfl) (.nil))) rfl ?_ ?_
    · exact hE1
    exact ⟨_, ⟨_, ⟨rfl, ⟨(by assumption), ⟨(by assumption), rfl⟩⟩⟩⟩⟩
end
theorem chkS_64 {g : Gr} {l : List Spt} (h : chkS g l = 0) : l.length ≤ 64 := by
  unfold chkS at h
  split at h
  · omega
  · split at h
    · omega
    · omega
theorem awS_nil (ps : List Pr) : awS ps [] = (0, 0) := rfl
theorem awS_some (ps : List Pr) (l : List Spt) (s : Spt) : (awS ps (l ++ [s])).1 ≠ 0 := by
  unfold awS
  rw [List.getLast?_concat]
  simp only
  split
  · simp
  · split <;> simp
end Go.Proofs.YtaibabmladgldaaGreatDoor
set_option linter.unusedSimpArgs false
set_option linter.unusedVariables false
set_option maxHeartbeats 2000000
set_option maxRecDepth 20000
namespace Go.Proofs.YtaibabmladgldaaGreatDoor
open Go.RowKit
/-! stack.Path. -/
def pathM (g : Gr) (l : List Spt) : List Int × Int := if chkS g l ≠ 0 then ([], chkS g l) else (l.map fun s => leftP g.prods s.1, 0)
theorem in_row {g : Gr} {rows : List Row} (hrows : rows.map (·.2.2) = g.prods) {q d : Int} (h : ¬ outS g.prods (q, d)) : ∃ row : Row, rows[q.toNat]? = some row ∧ leftP g.prods q = row.2.2.1 ∧ rightP g.prods q = row.2.2.2 ∧ row.2.2 ∈ g.prods ∧ 0 ≤ q ∧ q.toNat < rows.length ∧ 0 ≤ d ∧ d ≤ row.2.2.2.length := by
  simp only [outS, not_or, Int.not_lt, Int.not_le] at h
  obtain ⟨h1, h2, h3, h4⟩ := h
  have hlen : g.prods.length = rows.length := by rw [← hrows]; simp
  obtain ⟨k, rfl⟩ : ∃ k : Nat, q = k := ⟨q.toNat, by omega⟩
  have hk : k < rows.length := by omega
  have hrow := List.getElem?_eq_getElem hk
  have hpk : g.prods[k]? = some rows[k].2.2 := by rw [← hrows, List.getElem?_map, hrow]; rfl
  have hr := rightP_eq hpk
  rw [hr] at h4
  exact ⟨rows[k], hrow, leftP_eq hpk, hr, List.mem_of_getElem? hpk, h1, hk, h3, h4⟩
section
variable (E : Env) (L : List Res) (gv : Value) (g : Gr) (hg : GrE E gv g) (hl : Light g) (p : Option Addr) (n c : Nat) (l : List Spt) (hs : SlE E 2 p n (spC l)) (hn : n ≤ 9223372036854775807)
include hg hl hs hn
theorem SPath_call : CallS Tryz.prog 17 #[gv, .slice p n c] E L (fun r E' L' => (∃ a n' c', r = .tuple #[.slice a n' c', .int .i64 (pathM g l).2] ∧ SlE E' 1 a n' (i64s (pathM g l).1) ∧ n' ≤ c' ∧ n' ≤ 1000) ∧ L' = L) := by
  have hch := fun L0 => SCheck_call E L0 gv g hg hl p n c l hs hn
  have hnil : SlE E 1 none 0 (i64s []) := SlE.nil
  have en := hs.nSp
  unfold pathM
  by_cases h : chkS g l ≠ 0
  · rw [if_pos h]
    generalize chkS g l = r at *
    obtain ⟨tp, tc, np, nc, pp, pc, rfl, ht, hn', _, k1, k2, k3⟩ := hg
    refine CallS.intro (l := [_, _]) _ Tryz.func17 rfl Tryz.ntmps17 rfl ?_
    refine G_seq (G_region ?_)
    (refine G_boxA rfl rfl rfl rfl (.none rfl) ?_; intro b2)
    refine Ga ?_
    refine Ga ?_
    refine G_end (X_then (G_seq (G_seq (G_region ?_))))
    refine Gv (V_loadA rfl rfl (Cells.own (.head _)) rfl) ?_
    refine Gm ?_
    refine G_callv (k := 23) (.mk rfl rfl rfl rfl) rfl rfl (.none rfl) (hch _) ?_
    refine Ga ?_
    refine G_end (X_then (G_seq (G_region ?_)))
    refine Gm ?_
    refine Gv (V_neq rfl rfl rfl) ?_
    refine G_end (X_then ?_)
    refine G_cond_t rfl (decide_eq_true (by omega)) ?_
    refine G_seq (G_region ?_)
    refine Gm ?_
    refine Ga ?_
    refine Ga ?_
    refine G_end (X_then (G_ret (X_then_ret ?_)))
    refine G_leaveS (.drop _ (.nil _)) (by exact (.cons (.tmp rfl) (.cons (.tmp rfl) (.nil)))) rfl ?_ ?_
    · exact (.refl _)
    exact ⟨⟨_, ⟨_, ⟨_, ⟨rfl, ⟨(by assumption), ⟨(by omega), (by omega)⟩⟩⟩⟩⟩⟩, rfl⟩
  have h0 : chkS g l = 0 := by omega
  have h64 := chkS_64 h0
  rw [if_neg h]
  have hin := chkS_in h0
  rw [h0] at hch
  obtain ⟨tp, tc, np, nc, pp, pc, rfl, ht, hn', ⟨rows, hrows, hps, hre⟩, k1, k2, k3⟩ := hg
  have hlen : g.prods.length = rows.length := by rw [← hrows]; simp
  have q3 := hl.p
  subst en
  refine CallS.intro (l := [_, _]) _ Tryz.func17 rfl Tryz.ntmps17 rfl ?_
  refine G_seq (G_region ?_)
  (refine G_boxA rfl rfl rfl rfl (.none rfl) ?_; intro b2)
  refine Ga ?_
  refine Ga ?_
  refine G_end (X_then (G_seq (G_seq (G_region ?_))))
  refine Gv (V_loadA rfl rfl (Cells.own (.head _)) rfl) ?_
  refine Gm ?_
  refine G_callv (k := 23) (.mk rfl rfl rfl rfl) rfl rfl (.none rfl) (hch _) ?_
  refine Ga ?_
  refine G_end (X_then (G_seq (G_region ?_)))
  refine Gm ?_
  refine Gv (V_neq rfl rfl rfl) ?_
  refine G_end (X_then ?_)
  refine G_cond_f rfl (by kernel_rfl) ?_
  refine G_skip (X_then (G_seq (G_region ?_)))
  (refine G_alloc rfl rfl rfl (.none rfl) ?_; intro b7)
  refine G_end (X_then (G_seq (G_seq (G_region ?_))))
  refine Gm ?_
  refine G_call (k := 35) (.mk rfl rfl rfl rfl) rfl rfl (.none rfl) (spots_call _ _ _ _ _) ?_
  rintro r1 E2 L3 hE4 ⟨z5, ⟨rfl, ⟨rfl, rfl⟩⟩⟩
  replace hnil := hnil.mono hE4
  replace ht := ht.mono hE4
  replace hn' := hn'.mono hE4
  replace hps := hps.mono hE4
  replace hre := hre.mono hE4
  replace hs := hs.mono hE4
  refine G_end (X_then (G_block ?_))
  refine G.nilSl 3 1 ?_
  refine G.front (.tail _ (.head _ _)) ?_
  refine G_rangeI (σ := Env × Option Addr × Nat × List Int) (enc := spEnc) rfl (iter_spots E z5 p _ c l hs (by omega)) (fun v => v.1)
    (fun v => .sl 3 1 v.2.1 v.2.2.2.length v.2.2.1 (i64s v.2.2.2) :: .blk b7 (.cells #[.slice v.2.1 v.2.2.2.length v.2.2.1] 37 (0, 0)) :: GB b2 g tp tc np nc pp pc :: L)
    (fun pre v => v.2.2.2 = pre.map (fun x => leftP g.prods x.1.1)) (fun _ _ _ => False) (E, none, 0, []) rfl rfl (.refl _) rfl (fun _ => rfl) ?_ ?_ ?_
  · rintro y D tm fn M pre ⟨⟨sp, sd⟩, j⟩ ⟨E1, a, ca, ts⟩ hpre hts hE
    obtain ⟨hx, hj, hlt⟩ := zip_pre hpre
    simp only at hx hj hts hE
    simp only [List.cons_append]
    dsimp only [spEnc]
    have hno := hin (sp, sd) (List.mem_of_getElem? hx)
    obtain ⟨row, r1, r2, r3, r4, r5, r6, r7, r8⟩ := in_row hrows hno
    replace hps := hps.mono hE
    have x1 := prows_left r1
    have htl : ts.length = pre.length := by rw [hts, List.length_map]
    obtain ⟨LM, hLM⟩ : ∃ X, L ++ M = X := ⟨_, rfl⟩
    rw [hLM]
    refine G_region ?_
    (refine G_alloc rfl rfl rfl (.none rfl) ?_; intro b9)
    refine G_storeA rfl rfl rfl rfl (by simp [Value.oneCell']) rfl (.none rfl) (.head _ _ _) rfl ?_
    refine G_end (X_then ?_)
    refine G_begin (.tail _ (.head _ _ _)) ?_
    refine G_block ?_
    refine G_drawX 11 [(0, 1), (1, 0), (2, 1), (3, 0), (4, 1), (5, 1), (6, 0), (7, 1), (8, 2), (9, 4), (10, 4)] mixed (by kernel_rfl) ?_
    refine F_load rfl (.tail _ (.tail _ (.tail _ (.tail _ (.head _))))) (V_load rfl rfl (Cell.own1 (.head _))) rfl rfl (.none rfl) ?_
    refine F_pure rfl (fun _ _ => V_fieldAddr rfl rfl (by decide)) rfl rfl (.none rfl) ?_
    refine F_load rfl (.tail _ (.tail _ (.tail _ (.tail _ (.tail _ (.head _)))))) (V_load rfl rfl (Cell.own (.head _) rfl)) rfl rfl (.none rfl) ?_
    refine F_pure rfl (fun _ _ => V_fieldAddr rfl rfl (by decide)) rfl rfl (.none rfl) ?_
    refine F_load rfl (.head _) (V_load rfl rfl (Cell.own (.head _) rfl)) rfl rfl (.none rfl) ?_
    refine F_loadE rfl (V_idxAddr rfl rfl rfl (SlE.rd (by assumption)) (by omega) (by omega)) rfl rfl (.none rfl) ?_
    refine F_pure rfl (fun _ _ => V_fieldAddrX rfl rfl (by assumption) (by omega) (by decide)) rfl rfl (.none rfl) ?_
    refine F_loadE rfl (V_loadS rfl rfl (SlE.rd (by assumption)) (by assumption) (by simp)) rfl rfl (.none rfl) ?_
    (refine F_litZ rfl rfl rfl (by decide) (by simp [fillS, zeros, setLs, setL, Value.cells, List.range, List.range.loop]; rfl) (by rfl) rfl rfl (.none rfl) ?_; intro b28 E28 hE28 hs28)
    replace hps := hps.mono hE28
    (refine F_appendT rfl rfl rfl rfl (by assumption) (by simp [Value.oneCell', strs, i64s]) (by omega) (by omega) rfl rfl (.none rfl) (fun _ _ => (.tail _ (.tail _ (.tail _ (.head _ _ _))))) ?_; intro a29 c29; refine ⟨_, (.drop (by kernel_rfl) (.drop (by kernel_rfl) (.drop (by kernel_rfl) (.drop (by kernel_rfl) (.drop (by kernel_rfl) (.nil)))))), ?_⟩)
    refine F_store1 rfl rfl rfl rfl rfl rfl rfl (.none rfl) (.tail _ (.tail _ (.tail _ (.tail _ (.head _ _ _))))) (.nil) ?_
    (refine F_end (.nil _) ?_; dsimp only [List.drop])
    refine G_end (X_block ?_)
    refine G.drop ?_
    rw [← hLM, ← r2]
    have zl : (ts ++ [leftP g.prods sp]).length = ts.length + 1 := by simp
    have zs : i64s ts ++ [Value.int .i64 (leftP g.prods sp)] = i64s (ts ++ [leftP g.prods sp]) := by simp [i64s]
    rw [zs, ← zl]
    exact G_rEnd (E28, a29, c29, ts ++ [leftP g.prods sp]) (by simp only [hts, List.map_append, List.map_cons, List.map_nil]) rfl hE28 rfl
  · rintro D ⟨E1, a, ca, ts⟩ hts hE
    simp only at hts hE ⊢
    have hts2 : ts = l.map (fun s => leftP g.prods s.1) := by rw [hts]; apply List.ext_getElem <;> simp
    have htl : ts.length = l.length := by rw [hts2, List.length_map]
    rw [← hts2]
    refine G.freezeSl (.tail _ (.head _ _)) ?_
    intro E2 hE2 hts3 hca
    refine X_block (X_then (G_seq (G_region ?_)))
    refine Gv (V_load rfl rfl (Cell.own1 (.tail _ (.head _)))) ?_
    refine Ga ?_
    refine Ga ?_
    refine G_end (X_then (G_ret ?_))
    refine G_leave_ms [D] ?_
    refine G_leaveS (.drop _ (.drop _ (.nil _))) (by exact (.cons (.tmp rfl) (.cons (.tmp rfl) (.nil)))) rfl ?_ ?_
    · exact (hE.trans hE2)
    exact ⟨⟨_, ⟨_, ⟨_, ⟨rfl, ⟨(by assumption), ⟨(by assumption), (by omega)⟩⟩⟩⟩⟩⟩, rfl⟩
  · rintro D q pre v hpre hv
    exact hv.elim
end
end Go.Proofs.YtaibabmladgldaaGreatDoor
set_option linter.unusedSimpArgs false
set_option linter.unusedVariables false
set_option maxHeartbeats 2000000
set_option maxRecDepth 20000
namespace Go.Proofs.YtaibabmladgldaaGreatDoor
open Go.RowKit
/-! stack.Rest. -/
/-- What a Spot has yet to come. -/
def restS (ps : List Pr) (s : Spt) : List Int := (rightP ps s.1).drop s.2.toNat
def restM (g : Gr) (l : List Spt) : List Int × Int := if chkS g l ≠ 0 then ([], chkS g l) else (l.reverse.flatMap (restS g.prods), 0)
theorem i64s_dropN (l : List Int) (d : Nat) : (i64s l).drop (d * 1) = i64s (l.drop d) := by simp [i64s, List.map_drop]
theorem rest_len {g : Gr} (hl : Light g) {l : List Spt} (hin : ∀ s, s ∈ l → ¬ outS g.prods s) : (l.flatMap (restS g.prods)).length ≤ 8 * l.length := by
  induction l with
  | nil => simp
  | cons s l ih =>
    have h1 := ih (fun x hx => hin x (.tail _ hx))
    have h2 : (restS g.prods s).length ≤ 8 := by
      have := hin s (.head _)
      obtain ⟨q, d⟩ := s
      simp only [outS, not_or, Int.not_lt, Int.not_le] at this
      obtain ⟨qn, rfl⟩ : ∃ k : Nat, q = k := ⟨q.toNat, by omega⟩
      have hqn : g.prods[qn]? = some g.prods[qn] := List.getElem?_eq_getElem (by omega)
      have h8 := hl.ps _ (List.mem_of_getElem? hqn)
      simp only [restS, rightP_eq hqn, List.length_drop]
      omega
    simp only [List.flatMap_cons, List.length_append, List.length_cons]
    omega
section
variable (E : Env) (L : List Res) (gv : Value) (g : Gr) (hg : GrE E gv g) (hl : Light g) (p : Option Addr) (n c : Nat) (l : List Spt) (hs : SlE E 2 p n (spC l)) (hn : n ≤ 9223372036854775807)
include hg hl hs hn
theorem SRest_call : CallS Tryz.prog 16 #[gv, .slice p n c] E L (fun r E' L' => (∃ a n' c', r = .tuple #[.slice a n' c', .int .i64 (restM g l).2] ∧ SlE E' 1 a n' (i64s (restM g l).1) ∧ n' ≤ c' ∧ n' ≤ 1000) ∧ L' = L) := by
  have hch := fun L0 => SCheck_call E L0 gv g hg hl p n c l hs hn
  have hnil : SlE E 1 none 0 (i64s []) := SlE.nil
  have en := hs.nSp
  unfold restM
  by_cases h : chkS g l ≠ 0
  · rw [if_pos h]
    generalize chkS g l = r at *
    obtain ⟨tp, tc, np, nc, pp, pc, rfl, ht, hn', _, k1, k2, k3⟩ := hg
    refine CallS.intro (l := [_, _]) _ Tryz.func16 rfl Tryz.ntmps16 rfl ?_
    refine G_seq (G_region ?_)
    (refine G_boxA rfl rfl rfl rfl (.none rfl) ?_; intro b2)
    (refine G_box1 rfl rfl rfl rfl rfl (.none rfl) ?_; intro b3)
    refine Ga ?_
    refine Ga ?_
    refine G_end (X_then (G_seq (G_seq (G_region ?_))))
    refine Gv (V_loadA rfl rfl (Cells.own (.tail _ (.head _))) rfl) ?_
    refine Gv (V_load rfl rfl (Cell.own1 (.head _))) ?_
    refine G_callv (k := 23) (.mk rfl rfl rfl rfl) rfl rfl (.none rfl) (hch _) ?_
    refine Ga ?_
    refine G_end (X_then (G_seq (G_region ?_)))
    refine Gm ?_
    refine Gv (V_neq rfl rfl rfl) ?_
    refine G_end (X_then ?_)
    refine G_cond_t rfl (decide_eq_true (by omega)) ?_
    refine G_seq (G_region ?_)
    refine Gm ?_
    refine Ga ?_
    refine Ga ?_
    refine G_end (X_then (G_ret (X_then_ret ?_)))
    refine G_leaveS (.drop _ (.drop _ (.nil _))) (by exact (.cons (.tmp rfl) (.cons (.tmp rfl) (.nil)))) rfl ?_ ?_
    · exact (.refl _)
    exact ⟨⟨_, ⟨_, ⟨_, ⟨rfl, ⟨(by assumption), ⟨(by omega), (by omega)⟩⟩⟩⟩⟩⟩, rfl⟩
  have h0 : chkS g l = 0 := by omega
  have h64 := chkS_64 h0
  rw [if_neg h]
  have hin := chkS_in h0
  rw [h0] at hch
  obtain ⟨tp, tc, np, nc, pp, pc, rfl, ht, hn', ⟨rows, hrows, hps, hre⟩, k1, k2, k3⟩ := hg
  have hlen : g.prods.length = rows.length := by rw [← hrows]; simp
  have q3 := hl.p
  subst en
  refine CallS.intro (l := [_, _]) _ Tryz.func16 rfl Tryz.ntmps16 rfl ?_
  refine G_seq (G_region ?_)
  (refine G_boxA rfl rfl rfl rfl (.none rfl) ?_; intro b2)
  (refine G_box1 rfl rfl rfl rfl rfl (.none rfl) ?_; intro b3)
  refine Ga ?_
  refine Ga ?_
  refine G_end (X_then (G_seq (G_seq (G_region ?_))))
  refine Gv (V_loadA rfl rfl (Cells.own (.tail _ (.head _))) rfl) ?_
  refine Gv (V_load rfl rfl (Cell.own1 (.head _))) ?_
  refine G_callv (k := 23) (.mk rfl rfl rfl rfl) rfl rfl (.none rfl) (hch _) ?_
  refine Ga ?_
  refine G_end (X_then (G_seq (G_region ?_)))
  refine Gm ?_
  refine Gv (V_neq rfl rfl rfl) ?_
  refine G_end (X_then ?_)
  refine G_cond_f rfl (by kernel_rfl) ?_
  refine G_skip (X_then (G_seq (G_region ?_)))
  (refine G_alloc rfl rfl rfl (.none rfl) ?_; intro b7)
  refine G_end (X_then (G_seq (G_seq (G_region ?_))))
  refine Gv (V_load rfl rfl (Cell.own1 (.tail _ (.head _)))) ?_
  refine G_call (k := 35) (.mk rfl rfl rfl rfl) rfl rfl (.none rfl) (spots_call _ _ _ _ _) ?_
  rintro r1 E2 L3 hE4 ⟨z5, ⟨rfl, ⟨rfl, rfl⟩⟩⟩
  replace hnil := hnil.mono hE4
  replace ht := ht.mono hE4
  replace hn' := hn'.mono hE4
  replace hps := hps.mono hE4
  replace hre := hre.mono hE4
  replace hs := hs.mono hE4
  refine G_end (X_then (G_block ?_))
  refine G.nilSl 3 1 ?_
  refine G.front (.tail _ (.head _ _)) ?_
  refine G_rangeI (σ := Env × Option Addr × Nat × List Int) (enc := spEnc) rfl (iter_spots E z5 p _ c l hs (by omega)) (fun v => v.1)
    (fun v => .sl 3 1 v.2.1 v.2.2.2.length v.2.2.1 (i64s v.2.2.2) :: .blk b7 (.cells #[.slice v.2.1 v.2.2.2.length v.2.2.1] 37 (0, 0)) :: .blk b3 (.cells #[.slice p l.length c] 23 (0, 0)) :: GB b2 g tp tc np nc pp pc :: L)
    (fun pre v => v.2.2.2 = (l.reverse.take pre.length).flatMap (restS g.prods)) (fun _ _ _ => False) (E, none, 0, []) (by simp) rfl (.refl _) rfl (fun _ => rfl) ?_ ?_ ?_
  · rintro y D tm fn M pre ⟨x0, j⟩ ⟨E1, a, ca, ts⟩ hpre hts hE
    obtain ⟨hx, hj, hlt⟩ := zip_pre hpre
    simp only at hx hj hts hE
    simp only [List.cons_append]
    dsimp only [spEnc]
    have hidx : l.length - 1 - pre.length < l.length := by omega
    have hxl := List.getElem?_eq_getElem hidx
    have htk : (l.reverse.take (pre.length + 1)).flatMap (restS g.prods) = (l.reverse.take pre.length).flatMap (restS g.prods) ++ restS g.prods l[l.length - 1 - pre.length] := by
      rw [List.take_succ_eq_append_getElem (by simpa using hlt), List.flatMap_append]
      simp [List.getElem_reverse]
    have htl8 : ts.length ≤ 512 := by
      rw [hts]
      have h1 := rest_len hl (l := l.reverse.take pre.length) (fun s hs => hin s (by have := List.mem_of_mem_take hs; simpa using this))
      have h2 : (l.reverse.take pre.length).length ≤ 64 := by rw [List.length_take, List.length_reverse]; omega
      omega
    have hno := hin _ (List.mem_of_getElem? hxl)
    generalize l[l.length - 1 - pre.length] = sx at *
    obtain ⟨sp, sd⟩ := sx
    have y1 : ((spC l).drop (((l.length : Int) - 1 - (j : Int)).toNat * 2)).take 2 = [.int .i64 sp, .int .i64 sd] := by
      rw [show ((l.length : Int) - 1 - (j : Int)).toNat = l.length - 1 - pre.length by omega]
      exact spC_get hxl
    obtain ⟨row, r1, r2, r3, r4, r5, r6, r7, r8⟩ := in_row hrows hno
    have h8 := hl.ps _ r4
    replace hps := hps.mono hE
    replace hre := hre.mono hE
    replace hs := hs.mono hE
    have x1 := prows_right r1
    have x2 := (hre.get r1).tail (l := sd.toNat) (c := row.2.1) (by omega) (hre.cap r1)
    rw [i64s_dropN] at x2
    have hrs : restS g.prods (sp, sd) = row.2.2.2.drop sd.toNat := by simp only [restS, r3]
    have x9 := i64s_one (row.2.2.2.drop sd.toNat)
    rw [hrs] at htk
    have hdl : (row.2.2.2.drop sd.toNat).length = row.2.2.2.length - sd.toNat := List.length_drop
    obtain ⟨LM, hLM⟩ : ∃ X, L ++ M = X := ⟨_, rfl⟩
    rw [hLM]
    refine G_region ?_
    refine Ga ?_
    refine G_end (X_then ?_)
    refine G_begin (.head _ _ _) ?_
    refine G_block (G_seq (G_region ?_))
    refine Gv (V_load rfl rfl (Cell.own1 (.tail _ (.tail _ (.tail _ (.tail _ (.head _))))))) ?_
    refine Gv (V_load rfl rfl (Cell.own1 (.tail _ (.tail _ (.tail _ (.tail _ (.head _))))))) ?_
    refine Gv (V_lenS rfl rfl) ?_
    refine Gv (V_sub_i64 rfl rfl rfl (by omega) (by omega)) ?_
    refine Gm ?_
    refine Gv (V_sub_i64 rfl rfl rfl (by omega) (by omega)) ?_
    refine Gv (V_idxAddr rfl rfl rfl (SlE.rd (by assumption)) (by omega) (by omega)) ?_
    refine Gv (V_loadAS rfl rfl (SlE.rd (by assumption)) (by assumption) (by simp) (by rfl)) ?_
    (refine G_alloc rfl rfl rfl (.none rfl) ?_; intro b9)
    refine G_storeA rfl rfl rfl rfl (by simp [Value.oneCell']) rfl (.none rfl) (.head _ _ _) rfl ?_
    refine G_end (X_then ?_)
    (refine G_drawT 11 mixed (by kernel_rfl) ?_; dsimp only [List.take, List.drop])
    refine Q_val (V_load rfl rfl (Cell.own1 (.tail _ (.tail _ (.tail _ (.tail _ (.head _))))))) rfl rfl (.none rfl) ?_
    refine Q_val (V_fieldAddr rfl rfl (by decide)) rfl rfl (.none rfl) ?_
    refine Q_val (V_load rfl rfl (Cell.own (.tail _ (.tail _ (.tail _ (.tail _ (.tail _ (.tail _ (.head _))))))) rfl)) rfl rfl (.none rfl) ?_
    refine Q_val (V_fieldAddr rfl rfl (by decide)) rfl rfl (.none rfl) ?_
    refine Q_val (V_load rfl rfl (Cell.own (.head _) rfl)) rfl rfl (.none rfl) ?_
    refine Q_val (V_idxAddr rfl rfl rfl (SlE.rd (by assumption)) (by omega) (by omega)) rfl rfl (.none rfl) ?_
    refine Q_val (V_fieldAddrE rfl rfl (by assumption) (by omega) (by decide)) rfl rfl (.none rfl) ?_
    refine Q_val (V_loadS rfl rfl (SlE.rd (by assumption)) (by assumption) (by simp)) rfl rfl (.none rfl) ?_
    refine Q_val (V_fieldAddr rfl rfl (by decide)) rfl rfl (.none rfl) ?_
    refine Q_val (V_load rfl rfl (Cell.own (.head _) rfl)) rfl rfl (.none rfl) ?_
    refine Q_val (V_slTail rfl rfl rfl (by omega) (by omega)) rfl rfl (.none rfl) ?_
    refine Q_endT ?_
    (refine G_append rfl rfl rfl (SlE.rd (by assumption)) (by assumption) (by omega) (by omega) rfl rfl (.none rfl) (fun _ _ => (.tail _ (.tail _ (.tail _ (.head _ _ _))))) ?_; intro a39 c39)
    refine G_store1 rfl rfl rfl rfl rfl rfl (.none rfl) (.tail _ (.tail _ (.tail _ (.tail _ (.head _ _ _))))) ?_
    refine G_end (X_block ?_)
    refine G.drop ?_
    rw [← hLM]
    have zl : (ts ++ row.2.2.2.drop sd.toNat).length = ts.length + (row.2.2.2.length - sd.toNat) := by rw [List.length_append, hdl]
    have zs : i64s ts ++ i64s (row.2.2.2.drop sd.toNat) = i64s (ts ++ row.2.2.2.drop sd.toNat) := by simp [i64s]
    rw [zs, ← zl]
    exact G_rEnd (E1, a39, c39, ts ++ row.2.2.2.drop sd.toNat) (by simp only [List.length_append, List.length_singleton]; rw [htk, hts]) rfl (.refl _) rfl
  · rintro D ⟨E1, a, ca, ts⟩ hts hE
    simp only at hts hE ⊢
    rw [List.length_zipIdx, List.take_of_length_le (by simp)] at hts
    have htl8 : ts.length ≤ 512 := by
      rw [hts]
      have h1 := rest_len hl (l := l.reverse) (fun s hs => hin s (by simpa using hs))
      rw [List.length_reverse] at h1
      omega
    rw [← hts]
    refine G.freezeSl (.tail _ (.head _ _)) ?_
    intro E2 hE2 hts3 hca
    refine X_block (X_then (G_seq (G_region ?_)))
    refine Gv (V_load rfl rfl (Cell.own1 (.tail _ (.head _)))) ?_
    refine Ga ?_
    refine Ga ?_
    refine G_end (X_then (G_ret ?_))
    refine G_leave_ms [D] ?_
    refine G_leaveS (.drop _ (.drop _ (.drop _ (.nil _)))) (by exact (.cons (.tmp rfl) (.cons (.tmp rfl) (.nil)))) rfl ?_ ?_
    · exact (hE.trans hE2)
    exact ⟨⟨_, ⟨_, ⟨_, ⟨rfl, ⟨(by assumption), ⟨(by assumption), (by omega)⟩⟩⟩⟩⟩⟩, rfl⟩
  · rintro D q pre v hpre hv
    exact hv.elim
end
end Go.Proofs.YtaibabmladgldaaGreatDoor
namespace Go.Proofs.YtaibabmladgldaaGreatDoor
open Go.RowKit
/-! Plain law of stacks: what steps make of a right stack. -/
/-- What must begin the next Spot. -/
def lastW (ps : List Pr) (w : Int) (l : List Spt) : Int := match l.getLast? with
  | none => w
  | some t => nextS ps t
theorem lastW_cons (ps : List Pr) (w : Int) (t : Spt) (l : List Spt) : lastW ps w (t :: l) = lastW ps (nextS ps t) l := by
  cases l with
  | nil => rfl
  | cons u l =>
    unfold lastW
    rw [List.getLast?_cons_cons]
    cases h : (u :: l).getLast? with
    | none => rw [List.getLast?_eq_none_iff] at h; cases h
    | some v => rfl
theorem lastW_snoc (ps : List Pr) (w : Int) (l : List Spt) (s : Spt) : lastW ps w (l ++ [s]) = nextS ps s := by
  unfold lastW
  rw [List.getLast?_concat]
theorem stk_snoc {ps : List Pr} {s : Spt} : ∀ {l : List Spt} {w : Int}, stk ps w (l ++ [s]) = 0 ↔ stk ps w l = 0 ∧ ¬ outS ps s ∧ leftP ps s.1 = lastW ps w l := by
  intro l
  induction l with
  | nil =>
    intro w
    simp only [List.nil_append, stk, lastW, List.getLast?_nil]
    by_cases h1 : outS ps s
    · rw [if_pos h1]; simp [h1]
    · rw [if_neg h1]
      by_cases h2 : leftP ps s.1 = w
      · rw [if_neg (fun h => h h2)]; simp [h1, h2]
      · rw [if_pos h2]; simp [h2]
  | cons t l ih =>
    intro w
    rw [lastW_cons]
    simp only [List.cons_append, stk]
    by_cases h1 : outS ps t
    · rw [if_pos h1, if_pos h1]; simp
    · rw [if_neg h1, if_neg h1]
      by_cases h2 : leftP ps t.1 = w
      · rw [if_neg (fun h => h h2), if_neg (fun h => h h2)]; exact ih
      · rw [if_pos h2, if_pos h2]; simp
theorem chk_iff {g : Gr} (hg : gcheck g = 0) (l : List Spt) : chkS g l = 0 ↔ l.length ≤ 64 ∧ stk g.prods g.start l = 0 := by
  unfold chkS
  rw [if_neg (fun h => h hg)]
  by_cases h : 64 < l.length
  · rw [if_pos h]; simp; omega
  · rw [if_neg h]
    exact ⟨fun h1 => ⟨by omega, h1⟩, fun h1 => h1.2⟩
theorem awS_snoc (ps : List Pr) (l : List Spt) (q d : Int) : awS ps (l ++ [(q, d)]) = match (rightP ps q)[d.toNat]? with
    | none => (3, leftP ps q)
    | some x => if 16 ≤ x then (2, x) else (1, x) := by
  unfold awS
  rw [List.getLast?_concat]
  rfl
/-- A symbol is awaited. -/
abbrev symK (k : Int) : Prop := k = 1 ∨ k = 2
theorem awS_sym {ps : List Pr} {l : List Spt} {q d : Int} (h : symK (awS ps (l ++ [(q, d)])).1) : (rightP ps q)[d.toNat]? = some (awS ps (l ++ [(q, d)])).2 := by
  rw [awS_snoc] at h ⊢
  split at h
  · simp [symK] at h
  · rename_i x hx
    rw [hx]
    split <;> rfl
theorem awS_end {ps : List Pr} {l : List Spt} {q d : Int} (h : (awS ps (l ++ [(q, d)])).1 = 3) : (rightP ps q)[d.toNat]? = none := by
  rw [awS_snoc] at h
  split at h
  · assumption
  · split at h <;> cases h
theorem awS_of_end {ps : List Pr} {l : List Spt} {q d : Int} (h : (rightP ps q)[d.toNat]? = none) : awS ps (l ++ [(q, d)]) = (3, leftP ps q) := by
  rw [awS_snoc, h]
theorem awS_two {ps : List Pr} {l : List Spt} {q d : Int} (h : (awS ps (l ++ [(q, d)])).1 = 2) : 16 ≤ (awS ps (l ++ [(q, d)])).2 := by
  rw [awS_snoc] at h ⊢
  split at h
  · cases h
  · rename_i x hx
    split at h
    · rename_i h16; rw [if_pos h16]; exact h16
    · cases h
theorem awS_ne {ps : List Pr} {l : List Spt} (h : (awS ps l).1 ≠ 0) : ∃ l' q d, l = l' ++ [(q, d)] := by
  rcases List.eq_nil_or_concat l with rfl | ⟨l', s, rfl⟩
  · exact absurd rfl h
  · exact ⟨l', s.1, s.2, by rw [List.concat_eq_append]⟩
theorem awS_zero {ps : List Pr} {l : List Spt} (h : (awS ps l).1 = 0) : l = [] := by
  rcases List.eq_nil_or_concat l with rfl | ⟨l', s, rfl⟩
  · rfl
  · rw [List.concat_eq_append] at h
    exact absurd h (awS_some ps l' s)
theorem outS_bump {ps : List Pr} {q d : Int} {x : Int} (h : ¬ outS ps (q, d)) (hx : (rightP ps q)[d.toNat]? = some x) : ¬ outS ps (q, d + 1) ∧ nextS ps (q, d + 1) = x := by
  simp only [outS, not_or, Int.not_lt, Int.not_le] at h
  obtain ⟨h1, h2, h3, h4⟩ := h
  have hlt := (List.getElem?_eq_some_iff.1 hx).1
  constructor
  · simp only [outS, not_or, Int.not_lt, Int.not_le]
    exact ⟨h1, h2, by omega, by omega⟩
  · unfold nextS
    simp only
    rw [if_pos (by omega), show (d + 1 - 1).toNat = d.toNat by omega, hx]
    rfl
theorem bump_chk {g : Gr} (hg : gcheck g = 0) {l : List Spt} (h : chkS g l = 0) (hk : symK (awS g.prods l).1) : chkS g (bump l) = 0 ∧ lastW g.prods g.start (bump l) = (awS g.prods l).2 := by
  obtain ⟨l', q, d, rfl⟩ := awS_ne (ps := g.prods) (l := l) (by rcases hk with h | h <;> omega)
  have hx := awS_sym hk
  obtain ⟨h1, h2⟩ := (chk_iff hg _).1 h
  obtain ⟨h3, h4, h5⟩ := stk_snoc.1 h2
  obtain ⟨h6, h7⟩ := outS_bump h4 hx
  rw [bump_snoc]
  refine ⟨(chk_iff hg _).2 ⟨by simpa using h1, stk_snoc.2 ⟨h3, h6, h5⟩⟩, ?_⟩
  rw [lastW_snoc, h7]
theorem pop_chk {g : Gr} (hg : gcheck g = 0) {l : List Spt} {s : Spt} (h : chkS g (l ++ [s]) = 0) : chkS g l = 0 := by
  obtain ⟨h1, h2⟩ := (chk_iff hg _).1 h
  exact (chk_iff hg _).2 ⟨by simp at h1; omega, (stk_snoc.1 h2).1⟩
/-- The nonterminal that a production must have to be pushed. -/
def wantP (g : Gr) (l : List Spt) : Int := if (awS g.prods l).1 = 0 then g.start else (awS g.prods l).2
theorem push_ok {g : Gr} (hg : gcheck g = 0) {l : List Spt} (h : chkS g l = 0) (hk : (awS g.prods l).1 = 0 ∨ (awS g.prods l).1 = 2) (hl : l.length < 64) {p : Nat} (hp : p < g.prods.length) (hw : leftP g.prods p = wantP g l) :
    pushM g l p = (bump l ++ [((p : Int), 0)], 0) ∧ chkS g (bump l ++ [((p : Int), 0)]) = 0 := by
  constructor
  · unfold pushM
    rw [if_neg (fun h1 => h1 h), if_neg (by omega), if_neg (by
      simp only [wantP] at hw
      rw [hw]
      rcases hk with hk | hk <;> rw [hk] <;> simp), if_neg (by omega)]
  · have ho : ¬ outS g.prods ((p : Int), 0) := by simp only [outS, not_or, Int.not_lt, Int.not_le]; exact ⟨by omega, by omega, by omega, by omega⟩
    have hb := bump_len l
    rcases hk with hk | hk
    · obtain rfl := awS_zero hk
      refine (chk_iff hg _).2 ⟨by simp [bump], ?_⟩
      refine stk_snoc.2 ⟨rfl, ho, ?_⟩
      rw [hw, wantP, if_pos hk]
      rfl
    · obtain ⟨h1, h2⟩ := bump_chk hg h (.inr hk)
      refine (chk_iff hg _).2 ⟨by rw [List.length_append, hb]; simp; omega, stk_snoc.2 ⟨((chk_iff hg _).1 h1).2, ho, ?_⟩⟩
      rw [hw, h2, wantP, if_neg (by omega)]
theorem push_kind {g : Gr} {l : List Spt} (h : chkS g l = 0) (_hk : (awS g.prods l).1 = 0 ∨ (awS g.prods l).1 = 2) {p : Nat} (hp : p < g.prods.length) (hw : leftP g.prods p ≠ wantP g l) : pushM g l p = ([], 11) := by
  unfold pushM
  rw [if_neg (fun h1 => h1 h), if_neg (by omega), if_pos (.inr (.inr hw))]
theorem comp_of {g : Gr} (hg : gcheck g = 0) {x : Int} (h : 16 ≤ x ∧ x < 16 + g.names.length) : ∃ p, p < g.prods.length ∧ leftP g.prods (p : Nat) = x := by
  have hc := (gcheck_ok hg).2.2.2.2.2.2.2
  simp only [compB, List.all_eq_true, List.mem_range, List.any_eq_true, decide_eq_true_eq] at hc
  obtain ⟨q, hq, h1⟩ := hc (x - 16).toNat (by omega)
  obtain ⟨p, hp, rfl⟩ := List.getElem_of_mem hq
  refine ⟨p, hp, ?_⟩
  rw [leftP_eq (List.getElem?_eq_getElem hp), h1]
  omega
theorem right_mem {g : Gr} {q d x : Int} (h : ¬ outS g.prods (q, d)) (hx : (rightP g.prods q)[d.toNat]? = some x) : ∃ p, p ∈ g.prods ∧ x ∈ p.2 := by
  simp only [outS, not_or, Int.not_lt, Int.not_le] at h
  obtain ⟨k, rfl⟩ : ∃ k : Nat, q = k := ⟨q.toNat, by omega⟩
  have hk : g.prods[k]? = some g.prods[k] := List.getElem?_eq_getElem (by omega)
  rw [rightP_eq hk] at hx
  exact ⟨_, List.mem_of_getElem? hk, List.mem_of_getElem? hx⟩
theorem wantP_some {g : Gr} (hg : gcheck g = 0) {l : List Spt} (h : chkS g l = 0) (hk : (awS g.prods l).1 = 0 ∨ (awS g.prods l).1 = 2) : ∃ p, p < g.prods.length ∧ leftP g.prods (p : Nat) = wantP g l := by
  refine comp_of hg ?_
  have hv := valid_of hg
  unfold wantP
  rcases hk with hk | hk
  · rw [if_pos hk]; exact hv.start
  · rw [if_neg (by omega)]
    obtain ⟨l', q, d, rfl⟩ := awS_ne (ps := g.prods) (l := l) (by omega)
    have hx := awS_sym (.inr hk)
    have h16 := awS_two hk
    obtain ⟨p, hp, hm⟩ := right_mem (chkS_in h (q, d) (by simp)) hx
    have := hv.syms p hp _ hm
    have := hv.toks
    omega
theorem move_ok {g : Gr} {l : List Spt} (h : chkS g l = 0) (hk : (awS g.prods l).1 = 1) : moveM g l = (bump l, 0) := by
  unfold moveM
  rw [if_neg (fun h1 => h1 h), if_neg (fun h1 => h1 hk)]
theorem pop_ok {g : Gr} {l : List Spt} (h : chkS g l = 0) (hk : (awS g.prods l).1 = 3) : popM g l = (l.dropLast, 0) := by
  unfold popM
  rw [if_neg (fun h1 => h1 h), if_neg (fun h1 => h1 hk)]
theorem drop_chk {g : Gr} (hg : gcheck g = 0) {l : List Spt} (h : chkS g l = 0) : chkS g l.dropLast = 0 := by
  rcases List.eq_nil_or_concat l with rfl | ⟨l', s, rfl⟩
  · exact h
  · rw [List.concat_eq_append] at h ⊢
    rw [List.dropLast_concat]
    exact pop_chk hg h
/-! What is left to come. -/
def restL (ps : List Pr) (l : List Spt) : List Int := l.reverse.flatMap (restS ps)
theorem restL_snoc (ps : List Pr) (l : List Spt) (s : Spt) : restL ps (l ++ [s]) = restS ps s ++ restL ps l := by simp [restL]
theorem restM_ok {g : Gr} {l : List Spt} (h : chkS g l = 0) : restM g l = (restL g.prods l, 0) := by
  unfold restM
  rw [if_neg (fun h1 => h1 h)]
  rfl
theorem rest_bump {g : Gr} {l : List Spt} (h : chkS g l = 0) (hk : symK (awS g.prods l).1) : restL g.prods l = (awS g.prods l).2 :: restL g.prods (bump l) := by
  obtain ⟨l', q, d, rfl⟩ := awS_ne (ps := g.prods) (l := l) (by rcases hk with h | h <;> omega)
  have hx := awS_sym hk
  have ho := chkS_in h (q, d) (by simp)
  simp only [outS, not_or, Int.not_lt, Int.not_le] at ho
  rw [bump_snoc, restL_snoc, restL_snoc]
  unfold restS
  simp only
  rw [List.drop_eq_getElem_cons (List.getElem?_eq_some_iff.1 hx).1, (List.getElem?_eq_some_iff.1 hx).2, show (d + 1).toNat = d.toNat + 1 by omega]
  rfl
theorem rest_pop {g : Gr} {l : List Spt} (hk : (awS g.prods l).1 = 3) : restL g.prods l.dropLast = restL g.prods l := by
  obtain ⟨l', q, d, rfl⟩ := awS_ne (ps := g.prods) (l := l) (by omega)
  have hx := awS_end hk
  rw [List.dropLast_concat, restL_snoc]
  have : restS g.prods (q, d) = [] := List.drop_eq_nil_of_le (by simpa using hx)
  rw [this]
  rfl
theorem rest_push (ps : List Pr) (b : List Spt) (p : Int) : restL ps (b ++ [(p, 0)]) = rightP ps p ++ restL ps b := by
  rw [restL_snoc]
  rfl
theorem pathM_ok {g : Gr} {l : List Spt} (h : chkS g l = 0) : pathM g l = (l.map fun s => leftP g.prods s.1, 0) := by
  unfold pathM
  rw [if_neg (fun h1 => h1 h)]
theorem stk_left {ps : List Pr} : ∀ {l : List Spt} {w : Int}, stk ps w l = 0 → ∀ i s, l[i]? = some s → leftP ps s.1 = if i = 0 then w else ((l[i - 1]?).map (nextS ps)).getD 0 := by
  intro l
  induction l with
  | nil => intro w _ i s h; simp at h
  | cons t l ih =>
    intro w h i s hs
    simp only [stk] at h
    split at h
    · cases h
    · split at h
      · cases h
      · rename_i h2
        cases i with
        | zero =>
          cases hs
          rw [if_pos rfl]
          simpa using h2
        | succ i =>
          rw [List.getElem?_cons_succ] at hs
          have := ih h i s hs
          rw [if_neg (by omega), Nat.add_sub_cancel, this]
          cases i with
          | zero => simp
          | succ i => simp
theorem path_start {g : Gr} {l : List Spt} (h : chkS g l = 0) {s : Spt} (hs : l[0]? = some s) : leftP g.prods s.1 = g.start := stk_left (chkS_ok h).2.2 0 s hs
theorem path_below {g : Gr} {l : List Spt} (h : chkS g l = 0) {i : Nat} {s t : Spt} (hs : l[i + 1]? = some s) (ht : l[i]? = some t) : 1 ≤ t.2 ∧ (rightP g.prods t.1)[(t.2 - 1).toNat]? = some (leftP g.prods s.1) := by
  have h1 := stk_left (chkS_ok h).2.2 (i + 1) s hs
  rw [if_neg (by omega), Nat.add_sub_cancel, ht] at h1
  simp only [Option.map_some, Option.getD_some] at h1
  have ho := chkS_in h s (List.mem_of_getElem? hs)
  have hot := chkS_in h t (List.mem_of_getElem? ht)
  simp only [outS, not_or, Int.not_lt, Int.not_le] at ho hot
  obtain ⟨k, hk⟩ : ∃ k : Nat, s.1 = k := ⟨s.1.toNat, by omega⟩
  have hpk : g.prods[k]? = some g.prods[k] := List.getElem?_eq_getElem (by omega)
  have h16 := lefts16 (chkS_ok h).1 _ (List.mem_of_getElem? hpk)
  rw [hk, leftP_eq hpk] at h1 ⊢
  unfold nextS at h1
  split at h1
  · rename_i hd
    refine ⟨by omega, ?_⟩
    rw [h1]
    have hlt : (t.2 - 1).toNat < (rightP g.prods t.1).length := by omega
    rw [List.getElem?_eq_getElem hlt]
    rfl
  · omega
end Go.Proofs.YtaibabmladgldaaGreatDoor
set_option linter.unusedSimpArgs false
set_option linter.unusedVariables false
set_option maxHeartbeats 2000000
set_option maxRecDepth 20000
namespace Go.Proofs.YtaibabmladgldaaGreatDoor
open Go.RowKit
/-! Push, Move, Pop. -/
section
variable (E : Env) (L : List Res) (gv : Value) (g : Gr) (hg : GrE E gv g) (hl : Light g) (p : Option Addr) (n c : Nat) (l : List Spt) (hs : SlE E 2 p n (spC l)) (hn : n ≤ 9223372036854775807) (hc : n ≤ c)
include hg hl hs hn hc
theorem SPush_call (k : Int) : CallS Tryz.prog 11 #[gv, .slice p n c, .int .i64 k] E L (fun r E' L' => (∃ a n' c', r = .tuple #[.slice a n' c', .int .i64 (pushM g l k).2] ∧ SlE E' 2 a n' (spC (pushM g l k).1) ∧ n' ≤ c' ∧ n' ≤ 1000) ∧ L' = L) := by
  have hch := fun L0 => SCheck_call E L0 gv g hg hl p n c l hs hn
  have hnil : SlE E 2 none 0 (spC []) := SlE.nil
  have en := hs.nSp
  unfold pushM
  by_cases h : chkS g l ≠ 0
  · rw [if_pos h]
    generalize chkS g l = r at *
    obtain ⟨tp, tc, np, nc, pp, pc, rfl, ht, hn', _, k1, k2, k3⟩ := hg
    refine CallS.intro (l := [_, _, _]) _ Tryz.func11 rfl Tryz.ntmps11 rfl ?_
    refine G_seq (G_region ?_)
    (refine G_boxA rfl rfl rfl rfl (.none rfl) ?_; intro b3)
    refine Ga ?_
    refine Ga ?_
    refine G_end (X_then (G_seq (G_seq (G_region ?_))))
    refine Gv (V_loadA rfl rfl (Cells.own (.head _)) rfl) ?_
    refine Gm ?_
    refine G_callv (k := 23) (.mk rfl rfl rfl rfl) rfl rfl (.none rfl) (hch _) ?_
    refine Ga ?_
    refine G_end (X_then (G_seq (G_region ?_)))
    refine Gm ?_
    refine Gv (V_neq rfl rfl rfl) ?_
    refine G_end (X_then ?_)
    refine G_cond_t rfl (decide_eq_true (by omega)) ?_
    refine G_seq (G_region ?_)
    refine Gm ?_
    refine Ga ?_
    refine Ga ?_
    refine G_end (X_then (G_ret (X_then_ret ?_)))
    refine G_leaveS (.drop _ (.nil _)) (by exact (.cons (.tmp rfl) (.cons (.tmp rfl) (.nil)))) rfl ?_ ?_
    · exact (.refl _)
    exact ⟨⟨_, ⟨_, ⟨_, ⟨rfl, ⟨(by assumption), ⟨(by omega), (by omega)⟩⟩⟩⟩⟩⟩, rfl⟩
  have h0 : chkS g l = 0 := by omega
  have h64 := chkS_64 h0
  rw [if_neg h]
  have hin := chkS_in h0
  have ha := fun L0 => awaits_call E L0 gv g hg hl p n c l hs (by omega) hin
  rw [h0] at hch
  have hg0 := hg
  obtain ⟨tp, tc, np, nc, pp, pc, rfl, ht, hn', ⟨rows, hrows, hps, hre⟩, k1, k2, k3⟩ := hg
  have hlen : g.prods.length = rows.length := by rw [← hrows]; simp
  have q3 := hl.p
  by_cases hk : k < 0 ∨ (g.prods.length : Int) ≤ k
  · rw [if_pos hk]
    refine CallS.intro (l := [_, _, _]) _ Tryz.func11 rfl Tryz.ntmps11 rfl ?_
    refine G_seq (G_region ?_)
    (refine G_boxA rfl rfl rfl rfl (.none rfl) ?_; intro b3)
    refine Ga ?_
    refine Ga ?_
    refine G_end (X_then (G_seq (G_seq (G_region ?_))))
    refine Gv (V_loadA rfl rfl (Cells.own (.head _)) rfl) ?_
    refine Gm ?_
    refine G_callv (k := 23) (.mk rfl rfl rfl rfl) rfl rfl (.none rfl) (hch _) ?_
    by_cases hk0 : k < 0
    · refine Ga ?_
      refine G_end (X_then (G_seq (G_region ?_)))
      refine Gm ?_
      refine Gv (V_neq rfl rfl rfl) ?_
      refine G_end (X_then ?_)
      refine G_cond_f rfl (by kernel_rfl) ?_
      refine G_skip (X_then (G_seq (G_seq (G_region ?_))))
      refine Gm ?_
      refine Gv (V_lss rfl rfl rfl) ?_
      refine Gm ?_
      refine G.bool_t 19 rfl (decide_eq_true (by omega)) ?_
      refine Gn ?_
      refine Gn ?_
      refine Gn ?_
      refine Gn ?_
      refine Gn ?_
      refine Gv (V_pick_t rfl rfl rfl) ?_
      refine G_end (X_then ?_)
      refine G_cond_t rfl rfl ?_
      refine G_seq (G_region ?_)
      refine Ga ?_
      refine Ga ?_
      refine G_end (X_then (G_ret (X_then_ret ?_)))
      refine G_leaveS (.drop _ (.nil _)) (by exact (.cons (.tmp rfl) (.cons (.tmp rfl) (.nil)))) rfl ?_ ?_
      · exact (.refl _)
      exact ⟨⟨_, ⟨_, ⟨_, ⟨rfl, ⟨(by assumption), ⟨(by omega), (by omega)⟩⟩⟩⟩⟩⟩, rfl⟩
    · refine Ga ?_
      refine G_end (X_then (G_seq (G_region ?_)))
      refine Gm ?_
      refine Gv (V_neq rfl rfl rfl) ?_
      refine G_end (X_then ?_)
      refine G_cond_f rfl (by kernel_rfl) ?_
      refine G_skip (X_then (G_seq (G_seq (G_region ?_))))
      refine Gm ?_
      refine Gv (V_lss rfl rfl rfl) ?_
      refine Gm ?_
      refine G.bool_f 19 rfl (decide_eq_false (by omega)) ?_
      refine Gy (V_move rfl rfl) ?_
      refine Gy (V_fieldAddr rfl rfl (by decide)) ?_
      refine Gy (V_load rfl rfl (Cell.own (.head _) rfl)) ?_
      refine Gy (V_lenS rfl rfl) ?_
      refine Gy (V_geq rfl rfl rfl) ?_
      refine Gv (V_pick_f rfl rfl rfl) ?_
      refine G_end (X_then ?_)
      refine G_cond_t rfl (decide_eq_true (by omega)) ?_
      refine G_seq (G_region ?_)
      refine Ga ?_
      refine Ga ?_
      refine G_end (X_then (G_ret (X_then_ret ?_)))
      refine G_leaveS (.drop _ (.nil _)) (by exact (.cons (.tmp rfl) (.cons (.tmp rfl) (.nil)))) rfl ?_ ?_
      · exact (.refl _)
      exact ⟨⟨_, ⟨_, ⟨_, ⟨rfl, ⟨(by assumption), ⟨(by omega), (by omega)⟩⟩⟩⟩⟩⟩, rfl⟩
  rw [if_neg hk]
  obtain ⟨j, rfl⟩ : ∃ j : Nat, k = j := ⟨k.toNat, by omega⟩
  have hj : j < rows.length := by omega
  have hrow := List.getElem?_eq_getElem hj
  have hpj : g.prods[j]? = some rows[j].2.2 := by rw [← hrows, List.getElem?_map, hrow]; rfl
  have hlf := leftP_eq hpj
  have x1 := prows_left hrow
  rw [hlf]
  generalize rows[j].2.2.1 = lf at *
  rcases List.eq_nil_or_concat l with rfl | ⟨l', s, rfl⟩
  · obtain rfl : n = 0 := en
    rw [awS_nil] at ha ⊢
    by_cases hst : lf = g.start
    · rw [if_neg (by simp; omega), if_neg (by simp)]
      have hb : bump [] ++ [((j : Int), (0 : Int))] = [((j : Int), 0)] := rfl
      have hb2 : spC [((j : Int), (0 : Int))] = [.int .i64 (j : Int), .int .i64 0] := rfl
      rw [hb, hb2]
      refine CallS.intro (l := [_, _, _]) _ Tryz.func11 rfl Tryz.ntmps11 rfl ?_
      refine G_seq (G_region ?_)
      (refine G_boxA rfl rfl rfl rfl (.none rfl) ?_; intro b3)
      refine Ga ?_
      refine Ga ?_
      refine G_end (X_then (G_seq (G_seq (G_region ?_))))
      refine Gv (V_loadA rfl rfl (Cells.own (.head _)) rfl) ?_
      refine Gm ?_
      refine G_callv (k := 23) (.mk rfl rfl rfl rfl) rfl rfl (.none rfl) (hch _) ?_
      refine Ga ?_
      refine G_end (X_then (G_seq (G_region ?_)))
      refine Gm ?_
      refine Gv (V_neq rfl rfl rfl) ?_
      refine G_end (X_then ?_)
      refine G_cond_f rfl (by kernel_rfl) ?_
      refine G_skip (X_then (G_seq (G_seq (G_region ?_))))
      refine Gm ?_
      refine Gv (V_lss rfl rfl rfl) ?_
      refine Gm ?_
      refine G.bool_f 19 rfl (decide_eq_false (by omega)) ?_
      refine Gy (V_move rfl rfl) ?_
      refine Gy (V_fieldAddr rfl rfl (by decide)) ?_
      refine Gy (V_load rfl rfl (Cell.own (.head _) rfl)) ?_
      refine Gy (V_lenS rfl rfl) ?_
      refine Gy (V_geq rfl rfl rfl) ?_
      refine Gv (V_pick_f rfl rfl rfl) ?_
      refine G_end (X_then ?_)
      refine G_cond_f rfl (decide_eq_false (by omega)) ?_
      refine G_skip (X_then (G_seq (G_region ?_)))
      refine Gv (V_loadA rfl rfl (Cells.own (.head _)) rfl) ?_
      refine Gm ?_
      refine G_callv (k := 32) (.mk rfl rfl rfl rfl) rfl rfl (.none rfl) (ha _) ?_
      refine Gm ?_
      refine Gv (V_extract rfl rfl rfl) ?_
      refine Gv (V_extract rfl rfl rfl) ?_
      refine Ga ?_
      refine Ga ?_
      refine G_end (X_then (G_seq (G_seq (G_region ?_))))
      refine Gm ?_
      refine Gv (V_eql rfl rfl rfl) ?_
      refine G_end (X_then ?_)
      refine G_cond_t rfl (by kernel_rfl) ?_
      refine G_draw mixed (by kernel_rfl) ?_
      refine Q_val (V_fieldAddr rfl rfl (by decide)) rfl rfl (.none rfl) ?_
      refine Q_val (V_load rfl rfl (Cell.own (.head _) rfl)) rfl rfl (.none rfl) ?_
      refine Q_val (V_assign rfl rfl) rfl rfl (.none rfl) ?_
      refine Q_val (V_assign rfl rfl) rfl rfl (.none rfl) ?_
      refine Q_end ?_
      refine X_then (G_seq (G_block (G_seq (G_region ?_))))
      refine Gm ?_
      refine Gv (V_neq rfl rfl rfl) ?_
      refine Gm ?_
      refine G.bool_f 39 rfl (by kernel_rfl) ?_
      refine Gy (V_fieldAddr rfl rfl (by decide)) ?_
      refine Gy (V_load rfl rfl (Cell.own (.head _) rfl)) ?_
      refine Gy (V_move rfl rfl) ?_
      refine Gy (V_idxAddr rfl rfl rfl (SlE.rd (by assumption)) (by omega) (by omega)) ?_
      refine Gy (V_fieldAddrE rfl rfl (by assumption) (by omega) (by decide)) ?_
      refine Gy (V_loadS rfl rfl (SlE.rd (by assumption)) (by assumption) (by simp)) ?_
      refine Gy (V_move rfl rfl) ?_
      refine Gy (V_neq rfl rfl rfl) ?_
      refine Gv (V_pick_f rfl rfl rfl) ?_
      refine Ga ?_
      refine G_end (X_then ?_)
      refine G_cond_f rfl (decide_eq_false (by omega)) ?_
      refine G_seq (G_region ?_)
      refine Gm ?_
      refine Gv (V_lenS rfl rfl) ?_
      refine Gv (V_eql rfl rfl rfl) ?_
      refine Ga ?_
      refine G_end (X_then ?_)
      refine G_cond_f rfl (by kernel_rfl) ?_
      refine G_skip (X_block (X_then (G_seq (G_seq (G_region ?_)))))
      refine Gm ?_
      refine Gv (V_lenS rfl rfl) ?_
      refine Gv (V_gtr rfl rfl rfl) ?_
      refine G_end (X_then ?_)
      refine G_cond_f rfl (by kernel_rfl) ?_
      refine G_skip (X_then (G_seq (G_region ?_)))
      refine Gm ?_
      refine Gm ?_
      refine Gv (V_lenS rfl rfl) ?_
      refine Gm ?_
      refine Gv (V_lenS rfl rfl) ?_
      refine Gv (V_sl3n rfl rfl rfl rfl (by omega) (by omega)) ?_
      refine Gm ?_
      refine Gv (V_build rfl rfl (by simp [fillV, setLs, setL, Value.cells]; rfl)) ?_
      (refine G_lit rfl rfl (by decide) (by simp [fillS, zeros, setLs, setL, Value.cells, List.range, List.range.loop]; rfl) rfl rfl (.none rfl) ?_; intro b66)
      refine G.freeze (.head _ _) ?_
      intro E8 hE8 hok
      have hlit : SlE E8 2 (some ⟨b66, 0, none⟩) 1 [.int .i64 (j : Int), .int .i64 0] := SlE.lit (l := [.int .i64 (j : Int), .int .i64 0]) hok rfl
      refine G_appendZ rfl rfl rfl (hs.mono hE8) hlit (by omega) (by omega) rfl rfl (.none rfl) ?_
      intro a' c' E9 hE9 hap' hc'
      rw [show spC [] ++ [Value.int .i64 (j : Int), .int .i64 0] = [Value.int .i64 (j : Int), .int .i64 0] from rfl] at hap'
      refine Ga ?_
      refine Ga ?_
      refine G_end (X_then (G_ret ?_))
      refine G_leaveS (.drop _ (.nil _)) (by exact (.cons (.tmp rfl) (.cons (.tmp rfl) (.nil)))) rfl ?_ ?_
      · exact (hE8.trans hE9)
      exact ⟨⟨_, ⟨_, ⟨_, ⟨rfl, ⟨(by assumption), ⟨(by assumption), (by omega)⟩⟩⟩⟩⟩⟩, rfl⟩
    · rw [if_pos (by simp; omega)]
      refine CallS.intro (l := [_, _, _]) _ Tryz.func11 rfl Tryz.ntmps11 rfl ?_
      refine G_seq (G_region ?_)
      (refine G_boxA rfl rfl rfl rfl (.none rfl) ?_; intro b3)
      refine Ga ?_
      refine Ga ?_
      refine G_end (X_then (G_seq (G_seq (G_region ?_))))
      refine Gv (V_loadA rfl rfl (Cells.own (.head _)) rfl) ?_
      refine Gm ?_
      refine G_callv (k := 23) (.mk rfl rfl rfl rfl) rfl rfl (.none rfl) (hch _) ?_
      refine Ga ?_
      refine G_end (X_then (G_seq (G_region ?_)))
      refine Gm ?_
      refine Gv (V_neq rfl rfl rfl) ?_
      refine G_end (X_then ?_)
      refine G_cond_f rfl (by kernel_rfl) ?_
      refine G_skip (X_then (G_seq (G_seq (G_region ?_))))
      refine Gm ?_
      refine Gv (V_lss rfl rfl rfl) ?_
      refine Gm ?_
      refine G.bool_f 19 rfl (decide_eq_false (by omega)) ?_
      refine Gy (V_move rfl rfl) ?_
      refine Gy (V_fieldAddr rfl rfl (by decide)) ?_
      refine Gy (V_load rfl rfl (Cell.own (.head _) rfl)) ?_
      refine Gy (V_lenS rfl rfl) ?_
      refine Gy (V_geq rfl rfl rfl) ?_
      refine Gv (V_pick_f rfl rfl rfl) ?_
      refine G_end (X_then ?_)
      refine G_cond_f rfl (decide_eq_false (by omega)) ?_
      refine G_skip (X_then (G_seq (G_region ?_)))
      refine Gv (V_loadA rfl rfl (Cells.own (.head _)) rfl) ?_
      refine Gm ?_
      refine G_callv (k := 32) (.mk rfl rfl rfl rfl) rfl rfl (.none rfl) (ha _) ?_
      refine Gm ?_
      refine Gv (V_extract rfl rfl rfl) ?_
      refine Gv (V_extract rfl rfl rfl) ?_
      refine Ga ?_
      refine Ga ?_
      refine G_end (X_then (G_seq (G_seq (G_region ?_))))
      refine Gm ?_
      refine Gv (V_eql rfl rfl rfl) ?_
      refine G_end (X_then ?_)
      refine G_cond_t rfl (by kernel_rfl) ?_
      refine G_draw mixed (by kernel_rfl) ?_
      refine Q_val (V_fieldAddr rfl rfl (by decide)) rfl rfl (.none rfl) ?_
      refine Q_val (V_load rfl rfl (Cell.own (.head _) rfl)) rfl rfl (.none rfl) ?_
      refine Q_val (V_assign rfl rfl) rfl rfl (.none rfl) ?_
      refine Q_val (V_assign rfl rfl) rfl rfl (.none rfl) ?_
      refine Q_end ?_
      refine X_then (G_seq (G_block (G_seq (G_region ?_))))
      refine Gm ?_
      refine Gv (V_neq rfl rfl rfl) ?_
      refine Gm ?_
      refine G.bool_f 39 rfl (by kernel_rfl) ?_
      refine Gy (V_fieldAddr rfl rfl (by decide)) ?_
      refine Gy (V_load rfl rfl (Cell.own (.head _) rfl)) ?_
      refine Gy (V_move rfl rfl) ?_
      refine Gy (V_idxAddr rfl rfl rfl (SlE.rd (by assumption)) (by omega) (by omega)) ?_
      refine Gy (V_fieldAddrE rfl rfl (by assumption) (by omega) (by decide)) ?_
      refine Gy (V_loadS rfl rfl (SlE.rd (by assumption)) (by assumption) (by simp)) ?_
      refine Gy (V_move rfl rfl) ?_
      refine Gy (V_neq rfl rfl rfl) ?_
      refine Gv (V_pick_f rfl rfl rfl) ?_
      refine Ga ?_
      refine G_end (X_then ?_)
      refine G_cond_t rfl (decide_eq_true (by omega)) ?_
      refine G_seq (G_region ?_)
      refine Ga ?_
      refine Ga ?_
      refine G_end (X_then (G_ret (X_block_ret (X_then_ret ?_))))
      refine G_leaveS (.drop _ (.nil _)) (by exact (.cons (.tmp rfl) (.cons (.tmp rfl) (.nil)))) rfl ?_ ?_
      · exact (.refl _)
      exact ⟨⟨_, ⟨_, ⟨_, ⟨rfl, ⟨(by assumption), ⟨(by omega), (by omega)⟩⟩⟩⟩⟩⟩, rfl⟩
  rw [List.concat_eq_append] at *
  obtain ⟨q, d⟩ := s
  have hq := hin (q, d) (by simp)
  simp only [outS, not_or, Int.not_lt, Int.not_le] at hq
  obtain ⟨q1, q2, q4, q5⟩ := hq
  have hr8 : (rightP g.prods q).length ≤ 8 := by
    obtain ⟨qn, rfl⟩ : ∃ k : Nat, q = k := ⟨q.toNat, by omega⟩
    have hqn : g.prods[qn]? = some g.prods[qn] := List.getElem?_eq_getElem (by omega)
    rw [rightP_eq hqn]
    exact hl.ps _ (List.mem_of_getElem? hqn)
  have hne := awS_some g.prods l' (q, d)
  have hkd := awS_kind g.prods (l' ++ [(q, d)])
  rw [bump_snoc]
  generalize awS g.prods (l' ++ [(q, d)]) = r at *
  rw [if_neg hne]
  by_cases h1 : r.1 = 1 ∨ r.1 = 3 ∨ lf ≠ r.2
  · rw [if_pos h1]
    refine CallS.intro (l := [_, _, _]) _ Tryz.func11 rfl Tryz.ntmps11 rfl ?_
    refine G_seq (G_region ?_)
    (refine G_boxA rfl rfl rfl rfl (.none rfl) ?_; intro b3)
    refine Ga ?_
    refine Ga ?_
    refine G_end (X_then (G_seq (G_seq (G_region ?_))))
    refine Gv (V_loadA rfl rfl (Cells.own (.head _)) rfl) ?_
    refine Gm ?_
    refine G_callv (k := 23) (.mk rfl rfl rfl rfl) rfl rfl (.none rfl) (hch _) ?_
    refine Ga ?_
    refine G_end (X_then (G_seq (G_region ?_)))
    refine Gm ?_
    refine Gv (V_neq rfl rfl rfl) ?_
    refine G_end (X_then ?_)
    refine G_cond_f rfl (by kernel_rfl) ?_
    refine G_skip (X_then (G_seq (G_seq (G_region ?_))))
    refine Gm ?_
    refine Gv (V_lss rfl rfl rfl) ?_
    refine Gm ?_
    refine G.bool_f 19 rfl (decide_eq_false (by omega)) ?_
    refine Gy (V_move rfl rfl) ?_
    refine Gy (V_fieldAddr rfl rfl (by decide)) ?_
    refine Gy (V_load rfl rfl (Cell.own (.head _) rfl)) ?_
    refine Gy (V_lenS rfl rfl) ?_
    refine Gy (V_geq rfl rfl rfl) ?_
    refine Gv (V_pick_f rfl rfl rfl) ?_
    refine G_end (X_then ?_)
    refine G_cond_f rfl (decide_eq_false (by omega)) ?_
    refine G_skip (X_then (G_seq (G_region ?_)))
    refine Gv (V_loadA rfl rfl (Cells.own (.head _)) rfl) ?_
    refine Gm ?_
    refine G_callv (k := 32) (.mk rfl rfl rfl rfl) rfl rfl (.none rfl) (ha _) ?_
    by_cases h2 : r.1 = 2
    · refine Gm ?_
      refine Gv (V_extract rfl rfl rfl) ?_
      refine Gv (V_extract rfl rfl rfl) ?_
      refine Ga ?_
      refine Ga ?_
      refine G_end (X_then (G_seq (G_seq (G_region ?_))))
      refine Gm ?_
      refine Gv (V_eql rfl rfl rfl) ?_
      refine G_end (X_then ?_)
      refine G_cond_f rfl (decide_eq_false (by omega)) ?_
      refine G_skip (X_then (G_seq (G_block (G_seq (G_region ?_)))))
      refine Gm ?_
      refine Gv (V_neq rfl rfl rfl) ?_
      refine Gm ?_
      refine G.bool_f 39 rfl (decide_eq_false (by omega)) ?_
      refine Gy (V_fieldAddr rfl rfl (by decide)) ?_
      refine Gy (V_load rfl rfl (Cell.own (.head _) rfl)) ?_
      refine Gy (V_move rfl rfl) ?_
      refine Gy (V_idxAddr rfl rfl rfl (SlE.rd (by assumption)) (by omega) (by omega)) ?_
      refine Gy (V_fieldAddrE rfl rfl (by assumption) (by omega) (by decide)) ?_
      refine Gy (V_loadS rfl rfl (SlE.rd (by assumption)) (by assumption) (by simp)) ?_
      refine Gy (V_move rfl rfl) ?_
      refine Gy (V_neq rfl rfl rfl) ?_
      refine Gv (V_pick_f rfl rfl rfl) ?_
      refine Ga ?_
      refine G_end (X_then ?_)
      refine G_cond_t rfl (decide_eq_true (by omega)) ?_
      refine G_seq (G_region ?_)
      refine Ga ?_
      refine Ga ?_
      refine G_end (X_then (G_ret (X_block_ret (X_then_ret ?_))))
      refine G_leaveS (.drop _ (.nil _)) (by exact (.cons (.tmp rfl) (.cons (.tmp rfl) (.nil)))) rfl ?_ ?_
      · exact (.refl _)
      exact ⟨⟨_, ⟨_, ⟨_, ⟨rfl, ⟨(by assumption), ⟨(by omega), (by omega)⟩⟩⟩⟩⟩⟩, rfl⟩
    · refine Gm ?_
      refine Gv (V_extract rfl rfl rfl) ?_
      refine Gv (V_extract rfl rfl rfl) ?_
      refine Ga ?_
      refine Ga ?_
      refine G_end (X_then (G_seq (G_seq (G_region ?_))))
      refine Gm ?_
      refine Gv (V_eql rfl rfl rfl) ?_
      refine G_end (X_then ?_)
      refine G_cond_f rfl (decide_eq_false (by omega)) ?_
      refine G_skip (X_then (G_seq (G_block (G_seq (G_region ?_)))))
      refine Gm ?_
      refine Gv (V_neq rfl rfl rfl) ?_
      refine Gm ?_
      refine G.bool_t 39 rfl (decide_eq_true (by omega)) ?_
      refine Gn ?_
      refine Gn ?_
      refine Gn ?_
      refine Gn ?_
      refine Gn ?_
      refine Gn ?_
      refine Gn ?_
      refine Gn ?_
      refine Gv (V_pick_t rfl rfl rfl) ?_
      refine Ga ?_
      refine G_end (X_then ?_)
      refine G_cond_t rfl rfl ?_
      refine G_seq (G_region ?_)
      refine Ga ?_
      refine Ga ?_
      refine G_end (X_then (G_ret (X_block_ret (X_then_ret ?_))))
      refine G_leaveS (.drop _ (.nil _)) (by exact (.cons (.tmp rfl) (.cons (.tmp rfl) (.nil)))) rfl ?_ ?_
      · exact (.refl _)
      exact ⟨⟨_, ⟨_, ⟨_, ⟨rfl, ⟨(by assumption), ⟨(by omega), (by omega)⟩⟩⟩⟩⟩⟩, rfl⟩
  rw [if_neg h1]
  have h2 : r.1 = 2 := by omega
  have h3 : lf = r.2 := by omega
  by_cases h6 : (l' ++ [(q, d)]).length = 64
  · rw [if_pos h6]
    refine CallS.intro (l := [_, _, _]) _ Tryz.func11 rfl Tryz.ntmps11 rfl ?_
    refine G_seq (G_region ?_)
    (refine G_boxA rfl rfl rfl rfl (.none rfl) ?_; intro b3)
    refine Ga ?_
    refine Ga ?_
    refine G_end (X_then (G_seq (G_seq (G_region ?_))))
    refine Gv (V_loadA rfl rfl (Cells.own (.head _)) rfl) ?_
    refine Gm ?_
    refine G_callv (k := 23) (.mk rfl rfl rfl rfl) rfl rfl (.none rfl) (hch _) ?_
    refine Ga ?_
    refine G_end (X_then (G_seq (G_region ?_)))
    refine Gm ?_
    refine Gv (V_neq rfl rfl rfl) ?_
    refine G_end (X_then ?_)
    refine G_cond_f rfl (by kernel_rfl) ?_
    refine G_skip (X_then (G_seq (G_seq (G_region ?_))))
    refine Gm ?_
    refine Gv (V_lss rfl rfl rfl) ?_
    refine Gm ?_
    refine G.bool_f 19 rfl (decide_eq_false (by omega)) ?_
    refine Gy (V_move rfl rfl) ?_
    refine Gy (V_fieldAddr rfl rfl (by decide)) ?_
    refine Gy (V_load rfl rfl (Cell.own (.head _) rfl)) ?_
    refine Gy (V_lenS rfl rfl) ?_
    refine Gy (V_geq rfl rfl rfl) ?_
    refine Gv (V_pick_f rfl rfl rfl) ?_
    refine G_end (X_then ?_)
    refine G_cond_f rfl (decide_eq_false (by omega)) ?_
    refine G_skip (X_then (G_seq (G_region ?_)))
    refine Gv (V_loadA rfl rfl (Cells.own (.head _)) rfl) ?_
    refine Gm ?_
    refine G_callv (k := 32) (.mk rfl rfl rfl rfl) rfl rfl (.none rfl) (ha _) ?_
    refine Gm ?_
    refine Gv (V_extract rfl rfl rfl) ?_
    refine Gv (V_extract rfl rfl rfl) ?_
    refine Ga ?_
    refine Ga ?_
    refine G_end (X_then (G_seq (G_seq (G_region ?_))))
    refine Gm ?_
    refine Gv (V_eql rfl rfl rfl) ?_
    refine G_end (X_then ?_)
    refine G_cond_f rfl (decide_eq_false (by omega)) ?_
    refine G_skip (X_then (G_seq (G_block (G_seq (G_region ?_)))))
    refine Gm ?_
    refine Gv (V_neq rfl rfl rfl) ?_
    refine Gm ?_
    refine G.bool_f 39 rfl (decide_eq_false (by omega)) ?_
    refine Gy (V_fieldAddr rfl rfl (by decide)) ?_
    refine Gy (V_load rfl rfl (Cell.own (.head _) rfl)) ?_
    refine Gy (V_move rfl rfl) ?_
    refine Gy (V_idxAddr rfl rfl rfl (SlE.rd (by assumption)) (by omega) (by omega)) ?_
    refine Gy (V_fieldAddrE rfl rfl (by assumption) (by omega) (by decide)) ?_
    refine Gy (V_loadS rfl rfl (SlE.rd (by assumption)) (by assumption) (by simp)) ?_
    refine Gy (V_move rfl rfl) ?_
    refine Gy (V_neq rfl rfl rfl) ?_
    refine Gv (V_pick_f rfl rfl rfl) ?_
    refine Ga ?_
    refine G_end (X_then ?_)
    refine G_cond_f rfl (decide_eq_false (by omega)) ?_
    refine G_seq (G_region ?_)
    refine Gm ?_
    refine Gv (V_lenS rfl rfl) ?_
    refine Gv (V_eql rfl rfl rfl) ?_
    refine Ga ?_
    refine G_end (X_then ?_)
    refine G_cond_t rfl (decide_eq_true (by omega)) ?_
    refine G_seq (G_region ?_)
    refine Ga ?_
    refine Ga ?_
    refine G_end (X_then (G_ret (X_block_ret (X_then_ret ?_))))
    refine G_leaveS (.drop _ (.nil _)) (by exact (.cons (.tmp rfl) (.cons (.tmp rfl) (.nil)))) rfl ?_ ?_
    · exact (.refl _)
    exact ⟨⟨_, ⟨_, ⟨_, ⟨rfl, ⟨(by assumption), ⟨(by omega), (by omega)⟩⟩⟩⟩⟩⟩, rfl⟩
  · rw [if_neg h6]
    have hap := spC_append (l' ++ [(q, d + 1)]) [((j : Int), 0)]
    have h2' : 0 < n := by rw [en]; simp
    rw [hap]
    refine CallS.intro (l := [_, _, _]) _ Tryz.func11 rfl Tryz.ntmps11 rfl ?_
    refine G_seq (G_region ?_)
    (refine G_boxA rfl rfl rfl rfl (.none rfl) ?_; intro b3)
    refine Ga ?_
    refine Ga ?_
    refine G_end (X_then (G_seq (G_seq (G_region ?_))))
    refine Gv (V_loadA rfl rfl (Cells.own (.head _)) rfl) ?_
    refine Gm ?_
    refine G_callv (k := 23) (.mk rfl rfl rfl rfl) rfl rfl (.none rfl) (hch _) ?_
    refine Ga ?_
    refine G_end (X_then (G_seq (G_region ?_)))
    refine Gm ?_
    refine Gv (V_neq rfl rfl rfl) ?_
    refine G_end (X_then ?_)
    refine G_cond_f rfl (by kernel_rfl) ?_
    refine G_skip (X_then (G_seq (G_seq (G_region ?_))))
    refine Gm ?_
    refine Gv (V_lss rfl rfl rfl) ?_
    refine Gm ?_
    refine G.bool_f 19 rfl (decide_eq_false (by omega)) ?_
    refine Gy (V_move rfl rfl) ?_
    refine Gy (V_fieldAddr rfl rfl (by decide)) ?_
    refine Gy (V_load rfl rfl (Cell.own (.head _) rfl)) ?_
    refine Gy (V_lenS rfl rfl) ?_
    refine Gy (V_geq rfl rfl rfl) ?_
    refine Gv (V_pick_f rfl rfl rfl) ?_
    refine G_end (X_then ?_)
    refine G_cond_f rfl (decide_eq_false (by omega)) ?_
    refine G_skip (X_then (G_seq (G_region ?_)))
    refine Gv (V_loadA rfl rfl (Cells.own (.head _)) rfl) ?_
    refine Gm ?_
    refine G_callv (k := 32) (.mk rfl rfl rfl rfl) rfl rfl (.none rfl) (ha _) ?_
    refine Gm ?_
    refine Gv (V_extract rfl rfl rfl) ?_
    refine Gv (V_extract rfl rfl rfl) ?_
    refine Ga ?_
    refine Ga ?_
    refine G_end (X_then (G_seq (G_seq (G_region ?_))))
    refine Gm ?_
    refine Gv (V_eql rfl rfl rfl) ?_
    refine G_end (X_then ?_)
    refine G_cond_f rfl (decide_eq_false (by omega)) ?_
    refine G_skip (X_then (G_seq (G_block (G_seq (G_region ?_)))))
    refine Gm ?_
    refine Gv (V_neq rfl rfl rfl) ?_
    refine Gm ?_
    refine G.bool_f 39 rfl (decide_eq_false (by omega)) ?_
    refine Gy (V_fieldAddr rfl rfl (by decide)) ?_
    refine Gy (V_load rfl rfl (Cell.own (.head _) rfl)) ?_
    refine Gy (V_move rfl rfl) ?_
    refine Gy (V_idxAddr rfl rfl rfl (SlE.rd (by assumption)) (by omega) (by omega)) ?_
    refine Gy (V_fieldAddrE rfl rfl (by assumption) (by omega) (by decide)) ?_
    refine Gy (V_loadS rfl rfl (SlE.rd (by assumption)) (by assumption) (by simp)) ?_
    refine Gy (V_move rfl rfl) ?_
    refine Gy (V_neq rfl rfl rfl) ?_
    refine Gv (V_pick_f rfl rfl rfl) ?_
    refine Ga ?_
    refine G_end (X_then ?_)
    refine G_cond_f rfl (decide_eq_false (by omega)) ?_
    refine G_seq (G_region ?_)
    refine Gm ?_
    refine Gv (V_lenS rfl rfl) ?_
    refine Gv (V_eql rfl rfl rfl) ?_
    refine Ga ?_
    refine G_end (X_then ?_)
    refine G_cond_f rfl (decide_eq_false (by omega)) ?_
    refine G_skip (X_block (X_then (G_seq (G_seq (G_region ?_)))))
    refine Gm ?_
    refine Gv (V_lenS rfl rfl) ?_
    refine Gv (V_gtr rfl rfl rfl) ?_
    refine G_end (X_then ?_)
    refine G_cond_t rfl (decide_eq_true (by omega)) ?_
    refine G_region ?_
    refine Gm ?_
    refine G_call (k := 33) (.mk rfl rfl rfl rfl) rfl rfl (.none rfl) (moved_call _ _ _ _ _ _ _ _ (by assumption) (by omega) (by assumption) (by omega)) ?_
    rintro r1 E2 L3 hE4 ⟨z5, ⟨z6, ⟨rfl, ⟨Z7, ⟨Z8, rfl⟩⟩⟩⟩⟩
    replace hnil := hnil.mono hE4
    replace hg0 := hg0.mono hE4
    replace ht := ht.mono hE4
    replace hn' := hn'.mono hE4
    replace hps := hps.mono hE4
    replace hre := hre.mono hE4
    replace hs := hs.mono hE4
    refine Ga ?_
    refine G_end (X_then (G_seq (G_region ?_)))
    refine Gm ?_
    refine Gm ?_
    refine Gv (V_lenS rfl rfl) ?_
    refine Gm ?_
    refine Gv (V_lenS rfl rfl) ?_
    refine Gv (V_sl3n rfl rfl rfl rfl (by omega) (by omega)) ?_
    refine Gm ?_
    refine Gv (V_build rfl rfl (by simp [fillV, setLs, setL, Value.cells]; rfl)) ?_
    (refine G_lit rfl rfl (by decide) (by simp [fillS, zeros, setLs, setL, Value.cells, List.range, List.range.loop]; rfl) rfl rfl (.none rfl) ?_; intro b66)
    refine G.freeze (.head _ _) ?_
    intro E8 hE8 hok
    have hlit : SlE E8 2 (some ⟨b66, 0, none⟩) 1 [.int .i64 (j : Int), .int .i64 0] := SlE.lit (l := [.int .i64 (j : Int), .int .i64 0]) hok rfl
    refine G_appendZ rfl rfl rfl (SlE.mono (by assumption) hE8) hlit (by omega) (by omega) rfl rfl (.none rfl) ?_
    intro a' c' E9 hE9 hap' hc'
    refine Ga ?_
    refine Ga ?_
    refine G_end (X_then (G_ret ?_))
    refine G_leaveS (.drop _ (.nil _)) (by exact (.cons (.tmp rfl) (.cons (.tmp rfl) (.nil)))) rfl ?_ ?_
    · exact ((hE4.trans hE8).trans hE9)
    exact ⟨⟨_, ⟨_, ⟨_, ⟨rfl, ⟨(by assumption), ⟨(by assumption), (by omega)⟩⟩⟩⟩⟩⟩, rfl⟩
theorem SMove_call : CallS Tryz.prog 14 #[gv, .slice p n c] E L (fun r E' L' => (∃ a n' c', r = .tuple #[.slice a n' c', .int .i64 (moveM g l).2] ∧ SlE E' 2 a n' (spC (moveM g l).1) ∧ n' ≤ c' ∧ n' ≤ 1000) ∧ L' = L) := by
  have hch := fun L0 => SCheck_call E L0 gv g hg hl p n c l hs hn
  have hnil : SlE E 2 none 0 (spC []) := SlE.nil
  have en := hs.nSp
  unfold moveM
  by_cases h : chkS g l ≠ 0
  · rw [if_pos h]
    generalize chkS g l = r at *
    obtain ⟨tp, tc, np, nc, pp, pc, rfl, ht, hn', _, k1, k2, k3⟩ := hg
    refine CallS.intro (l := [_, _]) _ Tryz.func14 rfl Tryz.ntmps14 rfl ?_
    refine G_seq (G_region ?_)
    (refine G_boxA rfl rfl rfl rfl (.none rfl) ?_; intro b2)
    refine Ga ?_
    refine Ga ?_
    refine G_end (X_then (G_seq (G_seq (G_region ?_))))
    refine Gv (V_loadA rfl rfl (Cells.own (.head _)) rfl) ?_
    refine Gm ?_
    refine G_callv (k := 23) (.mk rfl rfl rfl rfl) rfl rfl (.none rfl) (hch _) ?_
    refine Ga ?_
    refine G_end (X_then (G_seq (G_region ?_)))
    refine Gm ?_
    refine Gv (V_neq rfl rfl rfl) ?_
    refine G_end (X_then ?_)
    refine G_cond_t rfl (decide_eq_true (by omega)) ?_
    refine G_seq (G_region ?_)
    refine Gm ?_
    refine Ga ?_
    refine Ga ?_
    refine G_end (X_then (G_ret (X_then_ret ?_)))
    refine G_leaveS (.drop _ (.nil _)) (by exact (.cons (.tmp rfl) (.cons (.tmp rfl) (.nil)))) rfl ?_ ?_
    · exact (.refl _)
    exact ⟨⟨_, ⟨_, ⟨_, ⟨rfl, ⟨(by assumption), ⟨(by omega), (by omega)⟩⟩⟩⟩⟩⟩, rfl⟩
  have h0 : chkS g l = 0 := by omega
  have h64 := chkS_64 h0
  rw [if_neg h]
  have hin := chkS_in h0
  have ha := fun L0 => awaits_call E L0 gv g hg hl p n c l hs (by omega) hin
  rw [h0] at hch
  rcases List.eq_nil_or_concat l with rfl | ⟨l', s, rfl⟩
  · rw [awS_nil] at ha ⊢
    rw [if_pos (by simp)]
    obtain ⟨tp, tc, np, nc, pp, pc, rfl, ht, hn', _, k1, k2, k3⟩ := hg
    refine CallS.intro (l := [_, _]) _ Tryz.func14 rfl Tryz.ntmps14 rfl ?_
    refine G_seq (G_region ?_)
    (refine G_boxA rfl rfl rfl rfl (.none rfl) ?_; intro b2)
    refine Ga ?_
    refine Ga ?_
    refine G_end (X_then (G_seq (G_seq (G_region ?_))))
    refine Gv (V_loadA rfl rfl (Cells.own (.head _)) rfl) ?_
    refine Gm ?_
    refine G_callv (k := 23) (.mk rfl rfl rfl rfl) rfl rfl (.none rfl) (hch _) ?_
    refine Ga ?_
    refine G_end (X_then (G_seq (G_region ?_)))
    refine Gm ?_
    refine Gv (V_neq rfl rfl rfl) ?_
    refine G_end (X_then ?_)
    refine G_cond_f rfl (by kernel_rfl) ?_
    refine G_skip (X_then (G_seq (G_seq (G_region ?_))))
    refine Gv (V_loadA rfl rfl (Cells.own (.head _)) rfl) ?_
    refine Gm ?_
    refine G_callv (k := 32) (.mk rfl rfl rfl rfl) rfl rfl (.none rfl) (ha _) ?_
    refine Gm ?_
    refine Gv (V_extract rfl rfl rfl) ?_
    refine Gv (V_extract rfl rfl rfl) ?_
    refine Ga ?_
    refine Ga ?_
    refine G_end (X_then (G_seq (G_region ?_)))
    refine Gm ?_
    refine Gv (V_neq rfl rfl rfl) ?_
    refine G_end (X_then ?_)
    refine G_cond_t rfl (by kernel_rfl) ?_
    refine G_seq (G_region ?_)
    refine Ga ?_
    refine Ga ?_
    refine G_end (X_then (G_ret (X_then_ret ?_)))
    refine G_leaveS (.drop _ (.nil _)) (by exact (.cons (.tmp rfl) (.cons (.tmp rfl) (.nil)))) rfl ?_ ?_
    · exact (.refl _)
    exact ⟨⟨_, ⟨_, ⟨_, ⟨rfl, ⟨(by assumption), ⟨(by omega), (by omega)⟩⟩⟩⟩⟩⟩, rfl⟩
  rw [List.concat_eq_append] at *
  obtain ⟨q, d⟩ := s
  have hq := hin (q, d) (by simp)
  simp only [outS, not_or, Int.not_lt, Int.not_le] at hq
  obtain ⟨q1, q2, q4, q5⟩ := hq
  have hr8 : (rightP g.prods q).length ≤ 8 := by
    obtain ⟨qn, rfl⟩ : ∃ k : Nat, q = k := ⟨q.toNat, by omega⟩
    have hqn : g.prods[qn]? = some g.prods[qn] := List.getElem?_eq_getElem (by omega)
    rw [rightP_eq hqn]
    exact hl.ps _ (List.mem_of_getElem? hqn)
  rw [bump_snoc]
  generalize awS g.prods (l' ++ [(q, d)]) = r at *
  obtain ⟨tp, tc, np, nc, pp, pc, rfl, ht, hn', _, k1, k2, k3⟩ := hg
  by_cases h1 : r.1 ≠ 1
  · rw [if_pos h1]
    refine CallS.intro (l := [_, _]) _ Tryz.func14 rfl Tryz.ntmps14 rfl ?_
    refine G_seq (G_region ?_)
    (refine G_boxA rfl rfl rfl rfl (.none rfl) ?_; intro b2)
    refine Ga ?_
    refine Ga ?_
    refine G_end (X_then (G_seq (G_seq (G_region ?_))))
    refine Gv (V_loadA rfl rfl (Cells.own (.head _)) rfl) ?_
    refine Gm ?_
    refine G_callv (k := 23) (.mk rfl rfl rfl rfl) rfl rfl (.none rfl) (hch _) ?_
    refine Ga ?_
    refine G_end (X_then (G_seq (G_region ?_)))
    refine Gm ?_
    refine Gv (V_neq rfl rfl rfl) ?_
    refine G_end (X_then ?_)
    refine G_cond_f rfl (by kernel_rfl) ?_
    refine G_skip (X_then (G_seq (G_seq (G_region ?_))))
    refine Gv (V_loadA rfl rfl (Cells.own (.head _)) rfl) ?_
    refine Gm ?_
    refine G_callv (k := 32) (.mk rfl rfl rfl rfl) rfl rfl (.none rfl) (ha _) ?_
    refine Gm ?_
    refine Gv (V_extract rfl rfl rfl) ?_
    refine Gv (V_extract rfl rfl rfl) ?_
    refine Ga ?_
    refine Ga ?_
    refine G_end (X_then (G_seq (G_region ?_)))
    refine Gm ?_
    refine Gv (V_neq rfl rfl rfl) ?_
    refine G_end (X_then ?_)
    refine G_cond_t rfl (decide_eq_true (by omega)) ?_
    refine G_seq (G_region ?_)
    refine Ga ?_
    refine Ga ?_
    refine G_end (X_then (G_ret (X_then_ret ?_)))
    refine G_leaveS (.drop _ (.nil _)) (by exact (.cons (.tmp rfl) (.cons (.tmp rfl) (.nil)))) rfl ?_ ?_
    · exact (.refl _)
    exact ⟨⟨_, ⟨_, ⟨_, ⟨rfl, ⟨(by assumption), ⟨(by omega), (by omega)⟩⟩⟩⟩⟩⟩, rfl⟩
  · rw [if_neg h1]
    refine CallS.intro (l := [_, _]) _ Tryz.func14 rfl Tryz.ntmps14 rfl ?_
    refine G_seq (G_region ?_)
    (refine G_boxA rfl rfl rfl rfl (.none rfl) ?_; intro b2)
    refine Ga ?_
    refine Ga ?_
    refine G_end (X_then (G_seq (G_seq (G_region ?_))))
    refine Gv (V_loadA rfl rfl (Cells.own (.head _)) rfl) ?_
    refine Gm ?_
    refine G_callv (k := 23) (.mk rfl rfl rfl rfl) rfl rfl (.none rfl) (hch _) ?_
    refine Ga ?_
    refine G_end (X_then (G_seq (G_region ?_)))
    refine Gm ?_
    refine Gv (V_neq rfl rfl rfl) ?_
    refine G_end (X_then ?_)
    refine G_cond_f rfl (by kernel_rfl) ?_
    refine G_skip (X_then (G_seq (G_seq (G_region ?_))))
    refine Gv (V_loadA rfl rfl (Cells.own (.head _)) rfl) ?_
    refine Gm ?_
    refine G_callv (k := 32) (.mk rfl rfl rfl rfl) rfl rfl (.none rfl) (ha _) ?_
    refine Gm ?_
    refine Gv (V_extract rfl rfl rfl) ?_
    refine Gv (V_extract rfl rfl rfl) ?_
    refine Ga ?_
    refine Ga ?_
    refine G_end (X_then (G_seq (G_region ?_)))
    refine Gm ?_
    refine Gv (V_neq rfl rfl rfl) ?_
    refine G_end (X_then ?_)
    refine G_cond_f rfl (decide_eq_false (by omega)) ?_
    refine G_skip (X_then (G_seq (G_region ?_)))
    refine Gm ?_
    refine G_call (k := 33) (.mk rfl rfl rfl rfl) rfl rfl (.none rfl) (moved_call _ _ _ _ _ _ _ _ (by assumption) (by omega) (by assumption) (by omega)) ?_
    rintro r1 E2 L3 hE4 ⟨z5, ⟨z6, ⟨rfl, ⟨Z7, ⟨Z8, rfl⟩⟩⟩⟩⟩
    replace hnil := hnil.mono hE4
    replace hs := hs.mono hE4
    replace ht := ht.mono hE4
    replace hn' := hn'.mono hE4
    refine Ga ?_
    refine Ga ?_
    refine G_end (X_then (G_ret ?_))
    refine G_leaveS (.drop _ (.nil _)) (by exact (.cons (.tmp rfl) (.cons (.tmp rfl) (.nil)))) rfl ?_ ?_
    · exact hE4
    exact ⟨⟨_, ⟨_, ⟨_, ⟨rfl, ⟨(by assumption), ⟨(by assumption), (by omega)⟩⟩⟩⟩⟩⟩, rfl⟩
theorem SPop_call : CallS Tryz.prog 15 #[gv, .slice p n c] E L (fun r E' L' => (∃ a n' c', r = .tuple #[.slice a n' c', .int .i64 (popM g l).2] ∧ SlE E' 2 a n' (spC (popM g l).1) ∧ n' ≤ c' ∧ n' ≤ 1000) ∧ L' = L) := by
  have hch := fun L0 => SCheck_call E L0 gv g hg hl p n c l hs hn
  have hnil : SlE E 2 none 0 (spC []) := SlE.nil
  have en := hs.nSp
  unfold popM
  by_cases h : chkS g l ≠ 0
  · rw [if_pos h]
    generalize chkS g l = r at *
    obtain ⟨tp, tc, np, nc, pp, pc, rfl, ht, hn', _, k1, k2, k3⟩ := hg
    refine CallS.intro (l := [_, _]) _ Tryz.func15 rfl Tryz.ntmps15 rfl ?_
    refine G_seq (G_region ?_)
    (refine G_boxA rfl rfl rfl rfl (.none rfl) ?_; intro b2)
    refine Ga ?_
    refine Ga ?_
    refine G_end (X_then (G_seq (G_seq (G_region ?_))))
    refine Gv (V_loadA rfl rfl (Cells.own (.head _)) rfl) ?_
    refine Gm ?_
    refine G_callv (k := 23) (.mk rfl rfl rfl rfl) rfl rfl (.none rfl) (hch _) ?_
    refine Ga ?_
    refine G_end (X_then (G_seq (G_region ?_)))
    refine Gm ?_
    refine Gv (V_neq rfl rfl rfl) ?_
    refine G_end (X_then ?_)
    refine G_cond_t rfl (decide_eq_true (by omega)) ?_
    refine G_seq (G_region ?_)
    refine Gm ?_
    refine Ga ?_
    refine Ga ?_
    refine G_end (X_then (G_ret (X_then_ret ?_)))
    refine G_leaveS (.drop _ (.nil _)) (by exact (.cons (.tmp rfl) (.cons (.tmp rfl) (.nil)))) rfl ?_ ?_
    · exact (.refl _)
    exact ⟨⟨_, ⟨_, ⟨_, ⟨rfl, ⟨(by assumption), ⟨(by omega), (by omega)⟩⟩⟩⟩⟩⟩, rfl⟩
  have h0 : chkS g l = 0 := by omega
  have h64 := chkS_64 h0
  rw [if_neg h]
  have hin := chkS_in h0
  have ha := fun L0 => awaits_call E L0 gv g hg hl p n c l hs (by omega) hin
  rw [h0] at hch
  rcases List.eq_nil_or_concat l with rfl | ⟨l', s, rfl⟩
  · rw [awS_nil] at ha ⊢
    rw [if_pos (by simp)]
    obtain ⟨tp, tc, np, nc, pp, pc, rfl, ht, hn', _, k1, k2, k3⟩ := hg
    refine CallS.intro (l := [_, _]) _ Tryz.func15 rfl Tryz.ntmps15 rfl ?_
    refine G_seq (G_region ?_)
    (refine G_boxA rfl rfl rfl rfl (.none rfl) ?_; intro b2)
    refine Ga ?_
    refine Ga ?_
    refine G_end (X_then (G_seq (G_seq (G_region ?_))))
    refine Gv (V_loadA rfl rfl (Cells.own (.head _)) rfl) ?_
    refine Gm ?_
    refine G_callv (k := 23) (.mk rfl rfl rfl rfl) rfl rfl (.none rfl) (hch _) ?_
    refine Ga ?_
    refine G_end (X_then (G_seq (G_region ?_)))
    refine Gm ?_
    refine Gv (V_neq rfl rfl rfl) ?_
    refine G_end (X_then ?_)
    refine G_cond_f rfl (by kernel_rfl) ?_
    refine G_skip (X_then (G_seq (G_seq (G_region ?_))))
    refine Gv (V_loadA rfl rfl (Cells.own (.head _)) rfl) ?_
    refine Gm ?_
    refine G_callv (k := 32) (.mk rfl rfl rfl rfl) rfl rfl (.none rfl) (ha _) ?_
    refine Gm ?_
    refine Gv (V_extract rfl rfl rfl) ?_
    refine Gv (V_extract rfl rfl rfl) ?_
    refine Ga ?_
    refine Ga ?_
    refine G_end (X_then (G_seq (G_region ?_)))
    refine Gm ?_
    refine Gv (V_neq rfl rfl rfl) ?_
    refine G_end (X_then ?_)
    refine G_cond_t rfl (by kernel_rfl) ?_
    refine G_seq (G_region ?_)
    refine Ga ?_
    refine Ga ?_
    refine G_end (X_then (G_ret (X_then_ret ?_)))
    refine G_leaveS (.drop _ (.nil _)) (by exact (.cons (.tmp rfl) (.cons (.tmp rfl) (.nil)))) rfl ?_ ?_
    · exact (.refl _)
    exact ⟨⟨_, ⟨_, ⟨_, ⟨rfl, ⟨(by assumption), ⟨(by omega), (by omega)⟩⟩⟩⟩⟩⟩, rfl⟩
  rw [List.concat_eq_append] at *
  rw [List.length_append, List.length_singleton] at en
  subst en
  generalize awS g.prods (l' ++ [s]) = r at *
  obtain ⟨tp, tc, np, nc, pp, pc, rfl, ht, hn', _, k1, k2, k3⟩ := hg
  by_cases h1 : r.1 ≠ 3
  · rw [if_pos h1]
    refine CallS.intro (l := [_, _]) _ Tryz.func15 rfl Tryz.ntmps15 rfl ?_
    refine G_seq (G_region ?_)
    (refine G_boxA rfl rfl rfl rfl (.none rfl) ?_; intro b2)
    refine Ga ?_
    refine Ga ?_
    refine G_end (X_then (G_seq (G_seq (G_region ?_))))
    refine Gv (V_loadA rfl rfl (Cells.own (.head _)) rfl) ?_
    refine Gm ?_
    refine G_callv (k := 23) (.mk rfl rfl rfl rfl) rfl rfl (.none rfl) (hch _) ?_
    refine Ga ?_
    refine G_end (X_then (G_seq (G_region ?_)))
    refine Gm ?_
    refine Gv (V_neq rfl rfl rfl) ?_
    refine G_end (X_then ?_)
    refine G_cond_f rfl (by kernel_rfl) ?_
    refine G_skip (X_then (G_seq (G_seq (G_region ?_))))
    refine Gv (V_loadA rfl rfl (Cells.own (.head _)) rfl) ?_
    refine Gm ?_
    refine G_callv (k := 32) (.mk rfl rfl rfl rfl) rfl rfl (.none rfl) (ha _) ?_
    refine Gm ?_
    refine Gv (V_extract rfl rfl rfl) ?_
    refine Gv (V_extract rfl rfl rfl) ?_
    refine Ga ?_
    refine Ga ?_
    refine G_end (X_then (G_seq (G_region ?_)))
    refine Gm ?_
    refine Gv (V_neq rfl rfl rfl) ?_
    refine G_end (X_then ?_)
    refine G_cond_t rfl (decide_eq_true (by omega)) ?_
    refine G_seq (G_region ?_)
    refine Ga ?_
    refine Ga ?_
    refine G_end (X_then (G_ret (X_then_ret ?_)))
    refine G_leaveS (.drop _ (.nil _)) (by exact (.cons (.tmp rfl) (.cons (.tmp rfl) (.nil)))) rfl ?_ ?_
    · exact (.refl _)
    exact ⟨⟨_, ⟨_, ⟨_, ⟨rfl, ⟨(by assumption), ⟨(by omega), (by omega)⟩⟩⟩⟩⟩⟩, rfl⟩
  · rw [if_neg h1, List.dropLast_concat]
    have hs0 : SlE E 2 p l'.length (spC l') := by
      have := hs.head (i := l'.length) (by omega)
      rw [spC_append, show l'.length * 2 = (spC l').length by rw [spC_len], List.take_left] at this
      exact this
    refine CallS.intro (l := [_, _]) _ Tryz.func15 rfl Tryz.ntmps15 rfl ?_
    refine G_seq (G_region ?_)
    (refine G_boxA rfl rfl rfl rfl (.none rfl) ?_; intro b2)
    refine Ga ?_
    refine Ga ?_
    refine G_end (X_then (G_seq (G_seq (G_region ?_))))
    refine Gv (V_loadA rfl rfl (Cells.own (.head _)) rfl) ?_
    refine Gm ?_
    refine G_callv (k := 23) (.mk rfl rfl rfl rfl) rfl rfl (.none rfl) (hch _) ?_
    refine Ga ?_
    refine G_end (X_then (G_seq (G_region ?_)))
    refine Gm ?_
    refine Gv (V_neq rfl rfl rfl) ?_
    refine G_end (X_then ?_)
    refine G_cond_f rfl (by kernel_rfl) ?_
    refine G_skip (X_then (G_seq (G_seq (G_region ?_))))
    refine Gv (V_loadA rfl rfl (Cells.own (.head _)) rfl) ?_
    refine Gm ?_
    refine G_callv (k := 32) (.mk rfl rfl rfl rfl) rfl rfl (.none rfl) (ha _) ?_
    refine Gm ?_
    refine Gv (V_extract rfl rfl rfl) ?_
    refine Gv (V_extract rfl rfl rfl) ?_
    refine Ga ?_
    refine Ga ?_
    refine G_end (X_then (G_seq (G_region ?_)))
    refine Gm ?_
    refine Gv (V_neq rfl rfl rfl) ?_
    refine G_end (X_then ?_)
    refine G_cond_f rfl (decide_eq_false (by omega)) ?_
    refine G_skip (X_then (G_seq (G_region ?_)))
    refine Gm ?_
    refine Gm ?_
    refine Gv (V_lenS rfl rfl) ?_
    refine Gv (V_sub_i64 rfl rfl rfl (by omega) (by omega)) ?_
    refine Gv (V_slHead rfl rfl rfl (by omega) (by omega)) ?_
    rw [show (((l'.length + 1 : Nat) : Int) - 1).toNat = l'.length by omega]
    have h65 : l'.length ≤ 64 := by rw [List.length_append, List.length_singleton] at h64; omega
    refine G_call (k := 34) (.mk rfl rfl rfl rfl) rfl rfl (.none rfl) (CloneSp_call _ _ _ _ _ (by assumption) (by omega)) ?_
    rintro r1 E2 L3 hE4 ⟨z5, ⟨z6, ⟨rfl, ⟨Z7, ⟨Z8, rfl⟩⟩⟩⟩⟩
    replace hnil := hnil.mono hE4
    replace hs := hs.mono hE4
    replace ht := ht.mono hE4
    replace hn' := hn'.mono hE4
    replace hs0 := hs0.mono hE4
    refine Ga ?_
    refine Ga ?_
    refine G_end (X_then (G_ret ?_))
    refine G_leaveS (.drop _ (.nil _)) (by exact (.cons (.tmp rfl) (.cons (.tmp rfl) (.nil)))) rfl ?_ ?_
    · exact hE4
    exact ⟨⟨_, ⟨_, ⟨_, ⟨rfl, ⟨(by assumption), ⟨(by assumption), (by omega)⟩⟩⟩⟩⟩⟩, rfl⟩
end
end Go.Proofs.YtaibabmladgldaaGreatDoor
set_option linter.unusedSimpArgs false
set_option linter.unusedVariables false
set_option maxHeartbeats 2000000
set_option maxRecDepth 20000
namespace Go.Proofs.YtaibabmladgldaaGreatDoor
open Go.RowKit
section
variable (E : Env) (L : List Res)
end
end Go.Proofs.YtaibabmladgldaaGreatDoor
namespace Go.Proofs.YtaibabmladgldaaGreatDoor
open Go.RowKit
theorem i64s_snoc (l : List Int) (n : Int) : i64s (l ++ [n]) = i64s l ++ [.int .i64 n] := by simp [i64s]
section
variable (E : Env) (L : List Res)
end
end Go.Proofs.YtaibabmladgldaaGreatDoor
set_option linter.unusedSimpArgs false
set_option linter.unusedVariables false
set_option maxHeartbeats 2000000
set_option maxRecDepth 20000
namespace Go.Proofs.YtaibabmladgldaaGreatDoor
open Go.RowKit
def tokL : List (List UInt8) := [[97], [98]]
def namL : List (List UInt8) := [[83], [84], [85]]
structure Made (nt many i top : Nat) (ps : List Pr) : Prop where
  left : ∀ p, p ∈ ps → 16 ≤ p.1 ∧ p.1 < 16 + (top : Int)
  syms : ∀ p, p ∈ ps → ∀ s, s ∈ p.2 → (0 ≤ s ∧ s < nt) ∨ (16 ≤ s ∧ s < 16 + (many : Int))
  right : ∀ p, p ∈ ps → p.2.length ≤ 3
  ord : ps.Pairwise fun a b => a.1 ≤ b.1
  comp : ∀ k, k < i → ∃ p, p ∈ ps ∧ p.1 = 16 + (k : Int)
theorem Made.nil (nt many : Nat) : Made nt many 0 0 [] := ⟨fun _ h => (by cases h), fun _ h => (by cases h), fun _ h => (by cases h), .nil, fun _ h => (by omega)⟩
theorem Made.up {nt many i top : Nat} {ps : List Pr} (h : Made nt many i top ps) {top' : Nat} (ht : top ≤ top') : Made nt many i top' ps := ⟨fun p hp => by have := h.left p hp; omega, h.syms, h.right, h.ord, h.comp⟩
theorem Made.snoc {nt many i : Nat} {ps : List Pr} (h : Made nt many i (i + 1) ps) {r : List Int} (hr : r.length ≤ 3) (hs : ∀ s, s ∈ r → (0 ≤ s ∧ s < nt) ∨ (16 ≤ s ∧ s < 16 + (many : Int))) : Made nt many i (i + 1) (ps ++ [(16 + (i : Int), r)]) := by
  refine ⟨fun p hp => ?_, fun p hp => ?_, fun p hp => ?_, ?_, fun k hk => ?_⟩
  · rcases List.mem_append.1 hp with hp | hp
    · exact h.left p hp
    · rw [List.mem_singleton.1 hp]; simp only; omega
  · rcases List.mem_append.1 hp with hp | hp
    · exact h.syms p hp
    · rw [List.mem_singleton.1 hp]; exact hs
  · rcases List.mem_append.1 hp with hp | hp
    · exact h.right p hp
    · rw [List.mem_singleton.1 hp]; exact hr
  · refine List.pairwise_append.2 ⟨h.ord, List.pairwise_singleton _ _, fun a ha b hb => ?_⟩
    rw [List.mem_singleton.1 hb]
    have := h.left a ha
    simp only; omega
  · obtain ⟨p, hp, he⟩ := h.comp k hk
    exact ⟨p, List.mem_append.2 (.inl hp), he⟩
theorem Made.next {nt many i : Nat} {ps : List Pr} (h : Made nt many i (i + 1) ps) (hc : ∃ p, p ∈ ps ∧ p.1 = 16 + (i : Int)) : Made nt many (i + 1) (i + 1) ps :=
  ⟨h.left, h.syms, h.right, h.ord, fun k hk => by
    by_cases he : k = i
    · rw [he]; exact hc
    · exact h.comp k (by omega)⟩
theorem made_check {k : Int} {nt many : Nat} {ps : List Pr} (h : Made nt many many many ps) (hk : 1 ≤ k ∧ k ≤ 2) (hn : 1 ≤ nt ∧ nt ≤ 2) (hm : 1 ≤ many ∧ many ≤ 3) (hl : ps.length ≤ 7) : Light ⟨k, tokL.take nt, [122], namL.take many, 16, ps⟩ ∧ gcheck ⟨k, tokL.take nt, [122], namL.take many, 16, ps⟩ = 0 := by
  have h1 : (tokL.take nt).length = nt := by rw [List.length_take]; simp [tokL]; omega
  have h2 : (namL.take many).length = many := by rw [List.length_take]; simp [namL]; omega
  have hsm : shortB ⟨k, tokL.take nt, [122], namL.take many, 16, ps⟩ = false ∧ smallsB ⟨k, tokL.take nt, [122], namL.take many, 16, ps⟩ = true ∧ dupB (tokL.take nt ++ [[122]] ++ namL.take many) = false := by
    obtain rfl | rfl : nt = 1 ∨ nt = 2 := by omega
    all_goals obtain rfl | rfl | rfl : many = 1 ∨ many = 2 ∨ many = 3 := by omega
    all_goals exact ⟨by kernel_rfl, by kernel_rfl, by kernel_rfl⟩
  refine ⟨⟨by simp only [h1]; omega, by simp only [h2]; omega, by simp only; omega, Nat.le_of_ble_eq_true rfl, fun s hs => ?_, fun s hs => ?_, fun p hp => by have := h.right p hp; omega⟩, ?_⟩
  · have h := List.mem_of_mem_take hs; simp only [tokL, List.mem_cons, List.not_mem_nil, or_false] at h; rcases h with rfl | rfl <;> decide
  · have h := List.mem_of_mem_take hs; simp only [namL, List.mem_cons, List.not_mem_nil, or_false] at h; rcases h with rfl | rfl | rfl <;> decide
  have hfull : fullB ⟨k, tokL.take nt, [122], namL.take many, 16, ps⟩ = false := by
    simp only [fullB, h1, h2, Bool.or_eq_false_iff, decide_eq_false_iff_not, List.any_eq_false, decide_eq_true_eq]
    exact ⟨⟨⟨by omega, by omega⟩, by omega⟩, fun p hp => by have := h.right p hp; omega⟩
  have hsym : symB ⟨k, tokL.take nt, [122], namL.take many, 16, ps⟩ = true := by
    simp only [symB, ntB, termB, h1, h2, Bool.and_eq_true, decide_eq_true_eq, List.all_eq_true, Bool.not_eq_true', List.any_eq_false]
    refine ⟨⟨by omega, by omega⟩, fun p hp => ⟨⟨(h.left p hp).1, (h.left p hp).2⟩, fun s hs => ?_⟩⟩
    have := h.syms p hp s hs
    simp
    omega
  have hord : ordsB ps = true := by
    refine List.all_eq_true.2 fun i hi => ?_
    have hi := List.mem_range.1 hi
    by_cases h0 : i = 0
    · simp [h0]
    · have hi1 : i - 1 < ps.length := by omega
      have := List.pairwise_iff_getElem.1 h.ord (i - 1) i hi1 hi (by omega)
      simp [List.getElem?_eq_getElem hi1, List.getElem?_eq_getElem hi, h0, this]
  have hcomp : compB ⟨k, tokL.take nt, [122], namL.take many, 16, ps⟩ = true := by
    refine List.all_eq_true.2 fun i hi => ?_
    have hi := List.mem_range.1 hi
    simp only [h2] at hi
    obtain ⟨p, hp, he⟩ := h.comp i hi
    exact List.any_eq_true.2 ⟨p, hp, decide_eq_true he⟩
  have h3 := hsm.2.2
  rw [gcheck, if_neg (by simp only; omega), gc0, hfull, gc1, hsm.1, hsm.2.1, gc2, gc3, hsym, gc4, hord, gc5, hcomp]
  simp only [h3]
  rfl
section
variable (E : Env) (L : List Res)
theorem At_call (p : Option Addr) (c : Nat) (xs : List Int) (hx : SlE E 1 p xs.length (i64s xs)) (hn : xs.length ≤ 9223372036854775807) (hb : ∀ n, n ∈ xs → -9223372036854775808 ≤ n ∧ n ≤ 9223372036854775807) (i : Int) :
    CallS Tryz.prog 36 #[.slice p xs.length c, .int .i64 i] E L (fun r E' L' => ∃ n : Int, r = .int .i64 n ∧ (-9223372036854775808 ≤ n ∧ n ≤ 9223372036854775807) ∧ E = E' ∧ L' = L) := by
  refine CallS.intro (l := [_, _]) _ Tryz.func36 rfl Tryz.ntmps36 rfl ?_
  by_cases h : i < 0 ∨ (xs.length : Int) ≤ i
  · refine G_seq ?_
    refine G_region ?_
    refine Ga ?_
    refine G_end (X_then (G_seq (G_seq (G_region ?_))))
    refine Gm ?_
    refine Gv (V_lss rfl rfl rfl) ?_
    refine Gm ?_
    apply G_joinOr 5 7 12 rfl
    · intro H1
      dsimp only [List.take]
      simp only [Bool.and_eq_true, Bool.or_eq_true, Bool.not_eq_true', Bool.not_eq_false', Bool.and_eq_false_iff, Bool.or_eq_false_iff, Bool.not_not, decide_eq_true_eq, decide_eq_false_iff_not, ne_eq, Decidable.not_not, Bool.decide_eq_true] at H1
      refine Gn ?_
      refine Gn ?_
      refine Gn ?_
      refine Gn ?_
      refine Gv (V_pick_t rfl rfl rfl) ?_
      refine G_end ?_
      exact JQ_end 5 rfl rfl (by kernel_rfl)
    · intro H2
      dsimp only [List.take]
      simp only [Bool.and_eq_true, Bool.or_eq_true, Bool.not_eq_true', Bool.not_eq_false', Bool.and_eq_false_iff, Bool.or_eq_false_iff, Bool.not_not, decide_eq_true_eq, decide_eq_false_iff_not, ne_eq, Decidable.not_not, Bool.decide_eq_true] at H2
      refine Gy (V_move rfl rfl) ?_
      refine Gy (V_move rfl rfl) ?_
      refine Gy (V_lenS rfl rfl) ?_
      refine Gy (V_geq rfl rfl rfl) ?_
      refine Gv (V_pick_f rfl rfl rfl) ?_
      refine G_end ?_
      exact JQ_end 5 rfl rfl (by kernel_rfl)
    dsimp only [List.drop]
    refine G_end (X_then ?_)
    refine G_cond_t rfl (by simp [*]; done) ?_
    refine G_seq (G_region ?_)
    refine Ga ?_
    refine G_end (X_then (G_ret (X_then_ret ?_)))
    refine G_leaveS (.nil _) (by exact (.cons (.tmp rfl) (.nil))) rfl ?_ ?_
    · exact (.refl _)
    exact ⟨_, ⟨rfl, ⟨⟨(by omega), (by omega)⟩, ⟨rfl, rfl⟩⟩⟩⟩
  · have h1 : i.toNat < xs.length := by omega
    have h2 := i64s_at h1
    have h3 := hb _ (List.getElem_mem h1)
    refine G_seq (G_region ?_)
    refine Ga ?_
    refine G_end (X_then (G_seq (G_seq (G_region ?_))))
    refine Gm ?_
    refine Gv (V_lss rfl rfl rfl) ?_
    refine Gm ?_
    refine G.bool_f 7 rfl (decide_eq_false (by omega)) ?_
    refine Gy (V_move rfl rfl) ?_
    refine Gy (V_move rfl rfl) ?_
    refine Gy (V_lenS rfl rfl) ?_
    refine Gy (V_geq rfl rfl rfl) ?_
    refine Gv (V_pick_f rfl rfl rfl) ?_
    refine G_end (X_then ?_)
    refine G_cond_f rfl (decide_eq_false (by omega)) ?_
    refine G_skip (X_then (G_seq (G_region ?_)))
    refine Gm ?_
    refine Gm ?_
    refine Gv (V_idxAddr rfl rfl rfl (SlE.rd (by assumption)) (by omega) (by omega)) ?_
    refine Gv (V_loadS rfl rfl (SlE.rd (by assumption)) (by assumption) (by simp)) ?_
    refine Ga ?_
    refine G_end (X_then (G_ret ?_))
    refine G_leaveS (.nil _) (by exact (.cons (.tmp rfl) (.nil))) rfl ?_ ?_
    · exact (.refl _)
    exact ⟨_, ⟨rfl, ⟨⟨(by omega), (by omega)⟩, ⟨rfl, rfl⟩⟩⟩⟩
theorem Mod_call'' (a m : Int) (ha : -9223372036854775808 ≤ a ∧ a ≤ 9223372036854775807) (hm : 1 ≤ m ∧ m ≤ 9223372036854775807) :
    CallS Tryz.prog 25 #[.int .i64 a, .int .i64 m] E L (fun r E' L' => ∃ n : Nat, r = .int .i64 n ∧ (n : Int) < m ∧ E = E' ∧ L' = L) := by
  have h1 := Int.emod_nonneg a (b := m) (by omega)
  have h2 := Int.emod_lt_of_pos a (b := m) (by omega)
  refine (CallS.ofV (Mod_call' E L a m ha hm)).mono fun r E' L' _ h => ⟨(a % m).toNat, ?_, by omega, h.2.1.symm, h.2.2⟩
  rw [h.1, Int.toNat_of_nonneg h1]
theorem Any_call (p : Option Addr) (c : Nat) (xs : List Int) (hx : SlE E 1 p xs.length (i64s xs)) (hn : xs.length ≤ 9223372036854775807) (hb : ∀ n, n ∈ xs → -9223372036854775808 ≤ n ∧ n ≤ 9223372036854775807) :
    CallS Tryz.prog 21 #[.slice p xs.length c] E L (fun r E' L' => ∃ g, GrE E' r g ∧ Light g ∧ gcheck g = 0 ∧ L' = L) := by
  refine CallS.intro (l := [_]) _ Tryz.func21 rfl Tryz.ntmps21 rfl ?_
  refine G_seq (G_region ?_)
  (refine G_alloc rfl rfl rfl (.none rfl) ?_; intro b2)
  refine G_end (X_then (G_seq (G_region ?_)))
  refine Gm ?_
  refine G_call (k := 36) (.mk rfl rfl rfl rfl) rfl rfl (.none rfl) (At_call _ _ _ _ _ (by assumption) (by assumption) (by assumption) _) ?_
  rintro r1 E2 L3 hE4 ⟨z5, ⟨rfl, ⟨⟨Z6, Z7⟩, ⟨rfl, rfl⟩⟩⟩⟩
  replace hx := hx.mono hE4
  refine G_call (k := 25) (.mk rfl rfl rfl rfl) rfl rfl (.none rfl) (Mod_call'' _ _ _ _ (by omega) (by omega)) ?_
  rintro r8 E9 L10 hE11 ⟨z12, ⟨rfl, ⟨Z13, ⟨rfl, rfl⟩⟩⟩⟩
  replace hx := hx.mono hE11
  refine Ga ?_
  refine G_end (X_then (G_seq (G_region ?_)))
  refine Gm ?_
  refine Gv (V_rem_n rfl rfl rfl (by omega) (by omega)) ?_
  refine Gv (V_add_i64 rfl rfl rfl (by omega) (by omega)) ?_
  (refine G_lit2 rfl rfl rfl rfl rfl rfl rfl (.none rfl) ?_; intro b19)
  refine Gm ?_
  refine Gv (V_quo_n rfl rfl rfl (by omega) (by omega) (by simp [IntKind.max, IntKind.signed, IntKind.bits]; omega)) ?_
  refine Gv (V_rem_n rfl rfl rfl (by omega) (by omega)) ?_
  refine Gv (V_add_i64 rfl rfl rfl (by omega) (by omega)) ?_
  refine Gv (V_slHead rfl rfl rfl (by omega) (by omega)) ?_
  refine Gv (V_build rfl rfl (by simp [fillV, setLs, setL, Value.cells]; rfl)) ?_
  (refine G_alloc rfl rfl rfl (.none rfl) ?_; intro b4)
  refine G_storeA rfl rfl rfl rfl (by simp [Value.oneCell']) rfl (.none rfl) (.head _ _ _) rfl ?_
  refine G_end (X_then (G_seq (G_region ?_)))
  refine Gm ?_
  refine Gv (V_quo_n rfl rfl rfl (by omega) (by omega) (by simp [IntKind.max, IntKind.signed, IntKind.bits]; omega)) ?_
  refine Gv (V_rem_n rfl rfl rfl (by omega) (by omega)) ?_
  refine Gv (V_add_i64 rfl rfl rfl (by omega) (by omega)) ?_
  refine Ga ?_
  refine G_end (X_then (G_seq (G_seq (G_region ?_))))
  refine Ga ?_
  refine G_end (X_then (G_block ?_))
  have hk : (1 : Int) ≤ 1 + (z12 : Int) % 2 ∧ 1 + (z12 : Int) % 2 ≤ 2 := by omega
  generalize (1 + (z12 : Int) % 2) = k at hk ⊢
  generalize hm : (1 + (z12 : Int) / 4 % 3) = mi
  have hm2 : 1 ≤ mi ∧ mi ≤ 3 := by omega
  obtain ⟨many, rfl⟩ := Int.eq_ofNat_of_zero_le (show 0 ≤ mi by omega)
  generalize hnt : (1 + (z12 : Int) / 2 % 2).toNat = nt
  have hnt2 : 1 ≤ nt ∧ nt ≤ 2 := by omega
  clear hm hnt
  refine G.freeze (.tail _ (.head _ _)) ?_
  intro E1 hE1 hok
  have htk : SlE E1 1 (some ⟨b19, 0, none⟩) nt (strs (tokL.take nt)) := by
    have := (SlE.lit (l := strs tokL) (n := 2) (sz := 1) hok rfl).head (i := nt) hnt2.2
    rw [Nat.mul_one, strs, ← List.map_take] at this
    exact this
  replace hx := hx.mono hE1
  refine G.nilSl 50 2 ?_
  refine G.nilSl 9 1 ?_
  refine G_loop (α := Nat × Env × (Option Addr × Nat) × (Option Addr × Nat × List Row)) (fun x => [(0, .slice p xs.length c), (2, .pointer (some ⟨b2, 0, none⟩)), (4, .pointer (some ⟨b4, 0, none⟩)), (5, .int .i64 many), (6, .int .i64 x.1)]) (fun x => x.2.1)
    (fun x => .sl 9 1 x.2.2.1.1 x.1 x.2.2.1.2 (strs (namL.take x.1)) :: .sl 50 2 x.2.2.2.1 x.2.2.2.2.2.length x.2.2.2.2.1 (prows x.2.2.2.2.2) ::
      .blk b4 (.cells #[.int .i64 k, .slice (some ⟨b19, 0, none⟩) nt 2, .string (S [122]), .slice x.2.2.1.1 x.1 x.2.2.1.2, .int .i64 16, .slice x.2.2.2.1 x.2.2.2.2.2.length x.2.2.2.2.1] 33 (0, 0)) ::
      .blk b2 (.cells #[.int .i64 0, .slice none 0 0, .string (S []), .slice none 0 0, .int .i64 0, .slice none 0 0] 33 (0, 0)) :: L)
    (fun x => E1.Le x.2.1 ∧ x.1 ≤ many ∧ Made nt many x.1 x.1 (x.2.2.2.2.2.map (·.2.2)) ∧ RowsE x.2.1 x.2.2.2.2.2 ∧ x.2.2.2.2.2.length ≤ 3 * x.1 ∧ x.2.2.2.2.2.length ≤ 7) (fun x => many - x.1) (0, E1, (none, 0), (none, 0, []))
    ⟨.refl _, Nat.zero_le _, Made.nil _ _, fun r hr => (by cases hr), Nat.zero_le _, Nat.zero_le _⟩ ⟨rfl, rfl, rfl, rfl, rfl, trivial⟩ rfl rfl ?_
  rintro ⟨i, E, ⟨na, nc⟩, ⟨pa, pc, rows⟩⟩ ⟨hE, hi, hmade, hrE, hl1, hl2⟩
  simp only at hE hi hmade hrE hl1 hl2 ⊢
  replace hx := hx.mono hE
  replace htk := htk.mono hE
  by_cases hlt : i < many
  · have hprl := prows_len rows
    have hnl : (strs (namL.take i)).length = i := by rw [strs, List.length_map, List.length_take]; simp [namL]; omega
    refine G_seq (G_seq (G_region ?_))
    refine Gm ?_
    refine Gm ?_
    refine Gv (V_lss rfl rfl rfl) ?_
    refine G_end (X_then ?_)
    refine G_cond_t rfl (decide_eq_true (by omega)) ?_
    refine G_skip (X_then (G_seq (G_block (G_seq (G_region ?_)))))
    refine Gv (V_fieldAddr rfl rfl (by decide)) ?_
    refine Gv (V_load rfl rfl (Cell.own (.tail _ (.tail _ (.head _))) rfl)) ?_
    refine Gm ?_
    refine Gv (V_add_i64 rfl rfl rfl (by omega) (by omega)) ?_
    refine Gv (V_conv_u8 rfl rfl (by omega) (by omega)) ?_
    (refine G_lit1 rfl rfl rfl rfl rfl (.none rfl) ?_; intro b40)
    refine G.freeze (.head _ _) ?_
    intro E2 hE2 hok2
    have hbs : SlE E2 1 (some ⟨b40, 0, none⟩) 1 ([UInt8.ofNat (83 + i)].map fun b => .int .u8 b.toNat) := by
      have e : ((UInt8.ofNat (83 + i)).toNat : Int) = 83 + i := by
        obtain rfl | rfl | rfl : i = 0 ∨ i = 1 ∨ i = 2 := by omega
        all_goals rfl
      rw [List.map_cons, List.map_nil, e]; exact SlE.lit hok2 rfl
    have hne : strs (namL.take (i + 1)) = strs (namL.take i) ++ [.string (S [UInt8.ofNat (83 + i)])] := by
      obtain rfl | rfl | rfl : i = 0 ∨ i = 1 ∨ i = 2 := by omega
      all_goals rfl
    replace hx := hx.mono hE2
    replace htk := htk.mono hE2
    replace hrE := hrE.mono hE2
    replace hE := hE.trans hE2
    refine Gv (V_b2s rfl rfl (SlE.rd (by assumption))) ?_
    (refine G_lit1 rfl rfl rfl rfl rfl (.none rfl) ?_; intro b42)
    (refine G_append rfl rfl rfl (Rd.lit (.head _) rfl) (by simp [Value.oneCell']) (by omega) (by omega) rfl rfl (.none rfl) (fun _ _ => (.tail _ (.head _ _ _))) ?_; intro a43 c43; refine G.rm (.head _ _) ?_)
    refine Gv (V_fieldAddr rfl rfl (by decide)) ?_
    refine G_storeAt rfl rfl rfl rfl rfl rfl (.none rfl) (.tail _ (.tail _ (.head _ _ _))) (Nat.le_of_ble_eq_true rfl) (by simp only [putAll, Nat.zero_add, Nat.reduceAdd, List.setIfInBounds_toArray, List.set_cons_succ, List.set_cons_zero]; rfl) ?_
    refine G_end (X_then (G_seq (G_region ?_)))
    refine Gm ?_
    refine Gm ?_
    refine Gv (V_add_i64 rfl rfl rfl (by omega) (by omega)) ?_
    refine G_call (k := 36) (.mk rfl rfl rfl rfl) rfl rfl (.none rfl) (At_call _ _ _ _ _ (by assumption) (by assumption) (by assumption) _) ?_
    rintro r1 E3 L4 hE5 ⟨z6, ⟨rfl, ⟨⟨Z8, Z9⟩, ⟨rfl, rfl⟩⟩⟩⟩
    replace hbs := hbs.mono hE5
    replace hx := hx.mono hE5
    replace htk := htk.mono hE5
    replace hrE := hrE.mono hE5
    refine G_call (k := 25) (.mk rfl rfl rfl rfl) rfl rfl (.none rfl) (Mod_call'' _ _ _ _ (by omega) (by omega)) ?_
    rintro r10 E11 L12 hE13 ⟨z14, ⟨rfl, ⟨Z15, ⟨rfl, rfl⟩⟩⟩⟩
    replace hbs := hbs.mono hE13
    replace hx := hx.mono hE13
    replace htk := htk.mono hE13
    replace hrE := hrE.mono hE13
    refine Ga ?_
    refine G_end (X_then (G_seq (G_region ?_)))
    refine Ga ?_
    refine G_end (X_then (G_block ?_))
    rw [← hne]
    refine G_loop (α := Nat × Env × Option Addr × Nat × List Row) (fun y => [(0, .slice p xs.length c), (2, .pointer (some ⟨b2, 0, none⟩)), (4, .pointer (some ⟨b4, 0, none⟩)), (5, .int .i64 many), (6, .int .i64 i), (7, .int .i64 z14), (8, .int .i64 y.1)]) (fun y => y.2.1)
      (fun y => .sl 9 1 a43 (i + 1) c43 (strs (namL.take (i + 1))) :: .sl 50 2 y.2.2.1 y.2.2.2.2.length y.2.2.2.1 (prows y.2.2.2.2) ::
        .blk b4 (.cells #[.int .i64 k, .slice (some ⟨b19, 0, none⟩) nt 2, .string (S [122]), .slice a43 (i + 1) c43, .int .i64 16, .slice y.2.2.1 y.2.2.2.2.length y.2.2.2.1] 33 (0, 0)) ::
        .blk b2 (.cells #[.int .i64 0, .slice none 0 0, .string (S []), .slice none 0 0, .int .i64 0, .slice none 0 0] 33 (0, 0)) :: L)
      (fun y => E2.Le y.2.1 ∧ y.1 ≤ z14 % 3 + 1 ∧ Made nt many i (i + 1) (y.2.2.2.2.map (·.2.2)) ∧ (0 < y.1 → ∃ q, q ∈ y.2.2.2.2.map (·.2.2) ∧ q.1 = 16 + (i : Int)) ∧ RowsE y.2.1 y.2.2.2.2 ∧ y.2.2.2.2.length ≤ 3 * i + y.1 ∧ y.2.2.2.2.length ≤ 7) (fun y => z14 % 3 + 1 - y.1) (0, E2, pa, pc, rows)
      ⟨.refl _, Nat.zero_le _, hmade.up (Nat.le_succ _), fun h => (by cases h), hrE, hl1, hl2⟩ ⟨rfl, rfl, rfl, rfl, rfl, rfl, rfl, trivial⟩ rfl rfl ?_
    rintro ⟨j, E3, pa, pc, rows⟩ ⟨hE3, hj, hmade, hcomp, hrE, hl1, hl2⟩
    simp only at hE3 hj hmade hcomp hrE hl1 hl2 ⊢
    replace hx := hx.mono hE3
    replace htk := htk.mono hE3
    have hprl := prows_len rows
    by_cases hgo : j ≤ z14 % 3 ∧ rows.length < 7
    · obtain ⟨hgo1, hgo2⟩ := hgo
      refine G_seq (G_seq (G_region ?_))
      refine Gm ?_
      refine Gm ?_
      refine Gv (V_rem_n rfl rfl rfl (by omega) (by omega)) ?_
      refine Gv (V_leq rfl rfl rfl) ?_
      refine Gm ?_
      refine G.bool_t 54 rfl (decide_eq_true (by omega)) ?_
      refine Gy (V_fieldAddr rfl rfl (by decide)) ?_
      refine Gy (V_load rfl rfl (Cell.own (.tail _ (.tail _ (.head _))) rfl)) ?_
      refine Gy (V_lenS rfl rfl) ?_
      refine Gy (V_lss rfl rfl rfl) ?_
      refine Gv (V_pick_t rfl rfl rfl) ?_
      refine G_end (X_then ?_)
      refine G_cond_t rfl (decide_eq_true (by omega)) ?_
      refine G_skip (X_then (G_seq (G_block (G_seq (G_region ?_)))))
      refine Gm ?_
      refine Gv (V_add_i64 rfl rfl rfl (by omega) (by omega)) ?_
      refine Gv (V_build rfl rfl (by simp [fillV, setLs, setL, Value.cells]; rfl)) ?_
      (refine G_alloc rfl rfl rfl (.none rfl) ?_; intro b9)
      refine G_storeA rfl rfl rfl rfl (by simp [Value.oneCell']) rfl (.none rfl) (.head _ _ _) rfl ?_
      refine G_end (X_then (G_seq (G_region ?_)))
      refine Gm ?_
      refine Gm ?_
      refine Gv (V_mul_i64 rfl rfl rfl (by omega) (by omega)) ?_
      refine Gv (V_add_i64 rfl rfl rfl (by omega) (by omega)) ?_
      refine Gm ?_
      refine Gv (V_add_i64 rfl rfl rfl (by omega) (by omega)) ?_
      refine G_call (k := 36) (.mk rfl rfl rfl rfl) rfl rfl (.none rfl) (At_call _ _ _ _ _ (by assumption) (by assumption) (by assumption) _) ?_
      rintro r1 E4 L5 hE6 ⟨z7, ⟨rfl, ⟨⟨Z10, Z11⟩, ⟨rfl, rfl⟩⟩⟩⟩
      replace hrE := hrE.mono hE6
      replace hx := hx.mono hE6
      replace htk := htk.mono hE6
      refine G_call (k := 25) (.mk rfl rfl rfl rfl) rfl rfl (.none rfl) (Mod_call'' _ _ _ _ (by omega) (by omega)) ?_
      rintro r12 E13 L14 hE15 ⟨z16, ⟨rfl, ⟨Z17, ⟨rfl, rfl⟩⟩⟩⟩
      replace hrE := hrE.mono hE15
      replace hx := hx.mono hE15
      replace htk := htk.mono hE15
      refine Ga ?_
      refine G_end (X_then (G_seq (G_seq (G_region ?_))))
      refine Ga ?_
      refine G_end (X_then (G_block ?_))
      refine G.nilSl 3 1 ?_
      refine G_loop (α := Nat × Env × Option Addr × Nat × List Int) (fun y => [(0, .slice p xs.length c), (2, .pointer (some ⟨b2, 0, none⟩)), (4, .pointer (some ⟨b4, 0, none⟩)), (5, .int .i64 many), (6, .int .i64 i), (7, .int .i64 z14), (8, .int .i64 j), (9, .pointer (some ⟨b9, 0, none⟩)), (10, .int .i64 z16), (11, .int .i64 y.1)]) (fun y => y.2.1)
        (fun y => .sl 3 1 y.2.2.1 y.1 y.2.2.2.1 (i64s y.2.2.2.2) :: .blk b9 (.cells #[.int .i64 (16 + (i : Int)), .slice y.2.2.1 y.1 y.2.2.2.1] 50 (0, 0)) :: .sl 9 1 a43 (i + 1) c43 (strs (namL.take (i + 1))) :: .sl 50 2 pa rows.length pc (prows rows) ::
          .blk b4 (.cells #[.int .i64 k, .slice (some ⟨b19, 0, none⟩) nt 2, .string (S [122]), .slice a43 (i + 1) c43, .int .i64 16, .slice pa rows.length pc] 33 (0, 0)) ::
          .blk b2 (.cells #[.int .i64 0, .slice none 0 0, .string (S []), .slice none 0 0, .int .i64 0, .slice none 0 0] 33 (0, 0)) :: L)
        (fun y => E3.Le y.2.1 ∧ y.1 ≤ z16 % 4 ∧ y.2.2.2.2.length = y.1 ∧ ∀ s, s ∈ y.2.2.2.2 → (0 ≤ s ∧ s < nt) ∨ (16 ≤ s ∧ s < 16 + (many : Int))) (fun y => z16 % 4 - y.1) (0, E3, none, 0, [])
        ⟨.refl _, Nat.zero_le _, rfl, fun s hs => (by cases hs)⟩ ⟨rfl, rfl, rfl, rfl, rfl, rfl, rfl, rfl, rfl, rfl, trivial⟩ rfl rfl ?_
      rintro ⟨k2, E4, ra, rc, r⟩ ⟨hE4, hk2, hrl, hrs⟩
      simp only at hE4 hk2 hrl hrs ⊢
      replace hx := hx.mono hE4
      replace htk := htk.mono hE4
      replace hrE := hrE.mono hE4
      have hrl2 : (i64s r).length = k2 := by rw [i64s, List.length_map]; exact hrl
      by_cases hlt2 : k2 < z16 % 4
      · have hsh : 0 ≤ shrI .i64 ((z16 : Int) / 4) (4 * (k2 : Int)) := Int.fdiv_nonneg (by omega) (Int.le_of_lt (Int.pow_pos (by decide)))
        have h16 : 0 ≤ shrI .i64 ((z16 : Int) / 4) (4 * (k2 : Int)) % 16 := by omega
        have hm1 := Int.emod_nonneg (shrI .i64 ((z16 : Int) / 4) (4 * (k2 : Int)) % 16) (b := many) (by omega)
        have hm3 := Int.emod_lt_of_pos (shrI .i64 ((z16 : Int) / 4) (4 * (k2 : Int)) % 16) (b := many) (by omega)
        have hm4 := Int.emod_nonneg (shrI .i64 ((z16 : Int) / 4) (4 * (k2 : Int)) % 16) (b := nt) (by omega)
        have hm5 := Int.emod_lt_of_pos (shrI .i64 ((z16 : Int) / 4) (4 * (k2 : Int)) % 16) (b := nt) (by omega)
        by_cases h3 : shrI .i64 ((z16 : Int) / 4) (4 * (k2 : Int)) % 16 % 5 < 3
        · refine G_seq ?_
          refine G_seq (G_region ?_)
          refine Gm ?_
          refine Gm ?_
          refine Gv (V_rem_n rfl rfl rfl (by omega) (by omega)) ?_
          refine Gv (V_lss rfl rfl rfl) ?_
          refine G_end (X_then ?_)
          refine G_cond_t rfl (decide_eq_true (by omega)) ?_
          refine G_skip (X_then (G_seq (G_block (G_seq (G_region ?_)))))
          refine Gm ?_
          refine Gv (V_quo_n rfl rfl rfl (by omega) (by omega) (by simp [IntKind.max, IntKind.signed, IntKind.bits]; omega)) ?_
          refine Gm ?_
          refine Gv (V_mul_i64 rfl rfl rfl (by omega) (by omega)) ?_
          refine Gv (V_conv_u64 rfl rfl (by omega) (by omega)) ?_
          refine Gv (V_shr rfl rfl rfl (by omega)) ?_
          refine Gv (V_rem_n rfl rfl rfl (by omega) (by omega)) ?_
          refine Ga ?_
          refine G_end (X_then (G_seq (G_region ?_)))
          refine Gm ?_
          refine Gv (V_rem_n rfl rfl rfl (by omega) (by omega)) ?_
          refine Gv (V_lss rfl rfl rfl) ?_
          refine G_end (X_then ?_)
          refine G_cond_t rfl (decide_eq_true (by omega)) ?_
          refine G_drawX 8 [(0, 0), (1, 1), (2, 0), (3, 0), (4, 1), (5, 0), (6, 0), (7, 2)] mixed (by kernel_rfl) ?_
          refine F_pure rfl (fun _ _ => V_fieldAddr rfl rfl (by decide)) rfl rfl (.none rfl) ?_
          refine F_load rfl (.tail _ (.head _)) (V_load rfl rfl (Cell.own (.head _) rfl)) rfl rfl (.none rfl) ?_
          refine F_pure rfl (fun _ _ => V_move rfl rfl) rfl rfl (.none rfl) ?_
          refine F_pure rfl (fun _ _ => V_fieldAddr rfl rfl (by decide)) rfl rfl (.none rfl) ?_
          refine F_load rfl (.tail _ (.tail _ (.tail _ (.tail _ (.head _))))) (V_load rfl rfl (Cell.own (.head _) rfl)) rfl rfl (.none rfl) ?_
          refine F_pure rfl (fun _ _ => V_lenS rfl rfl) rfl rfl (.none rfl) ?_
          refine F_pure rfl (fun _ _ => V_rem_n rfl rfl rfl (by omega) (by omega)) rfl rfl (.none rfl) ?_
          (refine F_litZ rfl rfl rfl (by decide) (by simp [fillS, zeros, setLs, setL, Value.cells, List.range, List.range.loop]; rfl) (by rfl) rfl rfl (.none rfl) ?_; intro b96 E96 hE96 hs96)
          replace hx := hx.mono hE96
          replace htk := htk.mono hE96
          replace hrE := hrE.mono hE96
          (refine F_end (.nil _) ?_; dsimp only [List.drop])
          (refine G_append rfl rfl rfl (SlE.rd (by assumption)) (by simp [Value.oneCell']) (by omega) (by omega) rfl rfl (.none rfl) (fun _ _ => (.head _ _ _)) ?_; intro a97 c97)
          refine Gv (V_fieldAddr rfl rfl (by decide)) ?_
          refine G_storeAt rfl rfl rfl rfl rfl rfl (.none rfl) (.tail _ (.head _ _ _)) (Nat.le_of_ble_eq_true rfl) (by simp only [putAll, Nat.zero_add, Nat.reduceAdd, List.setIfInBounds_toArray, List.set_cons_succ, List.set_cons_zero]; rfl) ?_
          refine G_end (X_block (X_then (G_region ?_)))
          refine Gm ?_
          refine Gv (V_add_i64 rfl rfl rfl (by omega) (by omega)) ?_
          refine Ga ?_
          refine G_end (X_then ?_)
          refine G_again (k2 + 1, E96, a97, c97, r ++ [shrI .i64 ((z16 : Int) / 4) (4 * (k2 : Int)) % 16 % nt]) ⟨hE4.trans hE96, hlt2, by rw [List.length_append, hrl]; rfl, fun s hs => ?_⟩ (by simp only; omega) ⟨rfl, rfl, rfl, rfl, rfl, rfl, rfl, rfl, rfl, rfl, trivial⟩ rfl (by rw [i64s_snoc])
          rcases List.mem_append.1 hs with hs | hs
          · exact hrs s hs
          · rw [List.mem_singleton.1 hs]; exact .inl ⟨hm4, hm5⟩
        · refine G_seq ?_
          refine G_seq (G_region ?_)
          refine Gm ?_
          refine Gm ?_
          refine Gv (V_rem_n rfl rfl rfl (by omega) (by omega)) ?_
          refine Gv (V_lss rfl rfl rfl) ?_
          refine G_end (X_then ?_)
          refine G_cond_t rfl (decide_eq_true (by omega)) ?_
          refine G_skip (X_then (G_seq (G_block (G_seq (G_region ?_)))))
          refine Gm ?_
          refine Gv (V_quo_n rfl rfl rfl (by omega) (by omega) (by simp [IntKind.max, IntKind.signed, IntKind.bits]; omega)) ?_
          refine Gm ?_
          refine Gv (V_mul_i64 rfl rfl rfl (by omega) (by omega)) ?_
          refine Gv (V_conv_u64 rfl rfl (by omega) (by omega)) ?_
          refine Gv (V_shr rfl rfl rfl (by omega)) ?_
          refine Gv (V_rem_n rfl rfl rfl (by omega) (by omega)) ?_
          refine Ga ?_
          refine G_end (X_then (G_seq (G_region ?_)))
          refine Gm ?_
          refine Gv (V_rem_n rfl rfl rfl (by omega) (by omega)) ?_
          refine Gv (V_lss rfl rfl rfl) ?_
          refine G_end (X_then ?_)
          refine G_cond_f rfl (decide_eq_false (by omega)) ?_
          refine G_drawX 7 [(0, 0), (1, 1), (2, 0), (3, 0), (4, 0), (5, 0), (6, 2)] mixed (by kernel_rfl) ?_
          refine F_pure rfl (fun _ _ => V_fieldAddr rfl rfl (by decide)) rfl rfl (.none rfl) ?_
          refine F_load rfl (.tail _ (.head _)) (V_load rfl rfl (Cell.own (.head _) rfl)) rfl rfl (.none rfl) ?_
          refine F_pure rfl (fun _ _ => V_move rfl rfl) rfl rfl (.none rfl) ?_
          refine F_pure rfl (fun _ _ => V_move rfl rfl) rfl rfl (.none rfl) ?_
          refine F_pure rfl (fun _ _ => V_rem_n rfl rfl rfl (by omega) (by omega)) rfl rfl (.none rfl) ?_
          refine F_pure rfl (fun _ _ => V_add_i64 rfl rfl rfl (by omega) (by omega)) rfl rfl (.none rfl) ?_
          (refine F_litZ rfl rfl rfl (by decide) (by simp [fillS, zeros, setLs, setL, Value.cells, List.range, List.range.loop]; rfl) (by rfl) rfl rfl (.none rfl) ?_; intro b105 E105 hE105 hs105)
          replace hx := hx.mono hE105
          replace htk := htk.mono hE105
          replace hrE := hrE.mono hE105
          (refine F_end (.nil _) ?_; dsimp only [List.drop])
          (refine G_append rfl rfl rfl (SlE.rd (by assumption)) (by simp [Value.oneCell']) (by omega) (by omega) rfl rfl (.none rfl) (fun _ _ => (.head _ _ _)) ?_; intro a106 c106)
          refine Gv (V_fieldAddr rfl rfl (by decide)) ?_
          refine G_storeAt rfl rfl rfl rfl rfl rfl (.none rfl) (.tail _ (.head _ _ _)) (Nat.le_of_ble_eq_true rfl) (by simp only [putAll, Nat.zero_add, Nat.reduceAdd, List.setIfInBounds_toArray, List.set_cons_succ, List.set_cons_zero]; rfl) ?_
          refine G_end (X_block (X_then (G_region ?_)))
          refine Gm ?_
          refine Gv (V_add_i64 rfl rfl rfl (by omega) (by omega)) ?_
          refine Ga ?_
          refine G_end (X_then ?_)
          refine G_again (k2 + 1, E105, a106, c106, r ++ [16 + shrI .i64 ((z16 : Int) / 4) (4 * (k2 : Int)) % 16 % many]) ⟨hE4.trans hE105, hlt2, by rw [List.length_append, hrl]; rfl, fun s hs => ?_⟩ (by simp only; omega) ⟨rfl, rfl, rfl, rfl, rfl, rfl, rfl, rfl, rfl, rfl, trivial⟩ rfl (by rw [i64s_snoc])
          rcases List.mem_append.1 hs with hs | hs
          · exact hrs s hs
          · rw [List.mem_singleton.1 hs]; exact .inr ⟨by omega, by omega⟩
      · refine G.freezeSl (.head _ _) ?_
        intro E5 hE5 hra hrc
        replace hx := hx.mono hE5
        replace htk := htk.mono hE5
        replace hrE := hrE.mono hE5
        refine G_seq (G_seq (G_region ?_))
        refine Gm ?_
        refine Gm ?_
        refine Gv (V_rem_n rfl rfl rfl (by omega) (by omega)) ?_
        refine Gv (V_lss rfl rfl rfl) ?_
        refine G_end (X_then ?_)
        refine G_cond_f rfl (decide_eq_false (by omega)) ?_
        refine G_exit (X_then_exit (X_then_exit (X_block_hit (X_then (G_region ?_)))))
        refine Gv (V_fieldAddr rfl rfl (by decide)) ?_
        refine Gv (V_load rfl rfl (Cell.own (.tail _ (.tail _ (.tail _ (.head _)))) rfl)) ?_
        refine Gv (V_loadA rfl rfl (Cells.own (.head _)) rfl) ?_
        (refine G_lit rfl rfl (by decide) (by simp [fillS, zeros, setLs, setL, Value.cells, List.range, List.range.loop]; rfl) rfl rfl (.none rfl) ?_; intro b111)
        (refine G_append rfl rfl rfl (Rd.lit (.head _) rfl) (by simp [Value.oneCell']) (by omega) (by omega) rfl rfl (.none rfl) (fun _ _ => (.tail _ (.tail _ (.tail _ (.head _ _ _))))) ?_; intro a112 c112; refine G.rm (.head _ _) ?_)
        refine Gv (V_fieldAddr rfl rfl (by decide)) ?_
        refine G_storeAt rfl rfl rfl rfl rfl rfl (.none rfl) (.tail _ (.tail _ (.tail _ (.head _ _ _)))) (Nat.le_of_ble_eq_true rfl) (by simp only [putAll, Nat.zero_add, Nat.reduceAdd, List.setIfInBounds_toArray, List.set_cons_succ, List.set_cons_zero]; rfl) ?_
        refine G_end (X_block (X_then (G_region ?_)))
        refine Gm ?_
        refine Gv (V_add_i64 rfl rfl rfl (by omega) (by omega)) ?_
        refine Ga ?_
        refine G_end (X_then ?_)
        have hap := prows_append rows [(ra, rc, (16 + (i : Int), r))]
        subst hrl
        have hsn := hmade.snoc (r := r) (by omega) hrs
        refine G.drop ?_
        refine G_again (j + 1, E5, a112, c112, rows ++ [(ra, rc, (16 + (i : Int), r))]) ⟨(hE3.trans hE4).trans hE5, by simp only; omega, by rw [List.map_append]; exact hsn, fun _ => ⟨(16 + (i : Int), r), List.mem_map.2 ⟨_, List.mem_append.2 (.inr (.head _)), rfl⟩, rfl⟩, fun y hy => ?_, by rw [List.length_append]; simp only [List.length_singleton]; omega, by rw [List.length_append]; simp only [List.length_singleton]; omega⟩
          (by simp only; omega) ⟨rfl, rfl, rfl, rfl, rfl, rfl, rfl, trivial⟩ rfl (by rw [List.length_append, hap]; rfl)
        rcases List.mem_append.1 hy with h | h
        · exact hrE y h
        · rw [List.mem_singleton.1 h]; exact ⟨hra, hrc⟩
    · have hj0 : 0 < j := by omega
      refine G_seq (G_seq (G_region ?_))
      refine Gm ?_
      refine Gm ?_
      refine Gv (V_rem_n rfl rfl rfl (by omega) (by omega)) ?_
      refine Gv (V_leq rfl rfl rfl) ?_
      refine Gm ?_
      apply G_joinAnd 5 54 59 rfl
      · intro H1
        dsimp only [List.take]
        simp only [Bool.and_eq_true, Bool.or_eq_true, Bool.not_eq_true', Bool.not_eq_false', Bool.and_eq_false_iff, Bool.or_eq_false_iff, Bool.not_not, decide_eq_true_eq, decide_eq_false_iff_not, ne_eq, Decidable.not_not, Bool.decide_eq_true] at H1
        refine Gy (V_fieldAddr rfl rfl (by decide)) ?_
        refine Gy (V_load rfl rfl (Cell.own (.tail _ (.tail _ (.head _))) rfl)) ?_
        refine Gy (V_lenS rfl rfl) ?_
        refine Gy (V_lss rfl rfl rfl) ?_
        refine Gv (V_pick_t rfl rfl rfl) ?_
        refine G_end ?_
        exact JQ_end 5 rfl rfl (by kernel_rfl)
      · intro H2
        dsimp only [List.take]
        simp only [Bool.and_eq_true, Bool.or_eq_true, Bool.not_eq_true', Bool.not_eq_false', Bool.and_eq_false_iff, Bool.or_eq_false_iff, Bool.not_not, decide_eq_true_eq, decide_eq_false_iff_not, ne_eq, Decidable.not_not, Bool.decide_eq_true] at H2
        refine Gn ?_
        refine Gn ?_
        refine Gn ?_
        refine Gn ?_
        refine Gv (V_pick_f rfl rfl rfl) ?_
        refine G_end ?_
        exact JQ_end 5 rfl rfl (by kernel_rfl)
      dsimp only [List.drop]
      refine G_end (X_then ?_)
      refine G_cond rfl (fun H3 => ?_) (fun H3 => ?_)
      · simp only [Bool.and_eq_true, Bool.or_eq_true, Bool.not_eq_true', Bool.not_eq_false', Bool.and_eq_false_iff, Bool.or_eq_false_iff, Bool.not_not, decide_eq_true_eq, decide_eq_false_iff_not, ne_eq, Decidable.not_not, Bool.decide_eq_true] at H3
        (exfalso; omega)
      simp only [Bool.and_eq_true, Bool.or_eq_true, Bool.not_eq_true', Bool.not_eq_false', Bool.and_eq_false_iff, Bool.or_eq_false_iff, Bool.not_not, decide_eq_true_eq, decide_eq_false_iff_not, ne_eq, Decidable.not_not, Bool.decide_eq_true] at H3
      refine G_exit (X_then_exit (X_then_exit (X_block_hit (X_block (X_then (G_region ?_))))))
      refine Gm ?_
      refine Gv (V_add_i64 rfl rfl rfl (by omega) (by omega)) ?_
      refine Ga ?_
      refine G_end (X_then ?_)
      exact G_again (i + 1, E3, (a43, c43), (pa, pc, rows)) ⟨hE.trans hE3, hlt, hmade.next (hcomp hj0), hrE, by simp only; omega, hl2⟩ (by simp only; omega) ⟨rfl, rfl, rfl, rfl, rfl, trivial⟩ rfl rfl
  · have hi2 : i = many := by omega
    subst hi2
    have hall := made_check hmade hk hnt2 (by omega) (by rw [List.length_map]; exact hl2)
    refine G.freezeSl (.head _ _) ?_
    intro E2 hE2 hna hnc
    refine G.freezeSl (.head _ _) ?_
    intro E3 hE3 hpa hpc
    have hgr : GrE E3 (.agg #[.int .i64 k, .slice (some ⟨b19, 0, none⟩) nt 2, .string (S [122]), .slice na i nc, .int .i64 16, .slice pa rows.length pc]) ⟨k, tokL.take nt, [122], namL.take i, 16, rows.map (·.2.2)⟩ := by
      have e1 : (tokL.take nt).length = nt := by rw [List.length_take]; simp [tokL]; omega
      have e2 : (namL.take i).length = i := by rw [List.length_take]; simp [namL]; omega
      have e3 : (rows.map (·.2.2)).length = rows.length := List.length_map _
      have := GrE.mk (E := E3) (g := ⟨k, tokL.take nt, [122], namL.take i, 16, rows.map (·.2.2)⟩) (tp := some ⟨b19, 0, none⟩) (np := na) (pp := pa) (tc := 2) (nc := nc) (pc := pc)
        (by simp only [e1]; exact (htk.mono hE2).mono hE3) (by simp only [e2]; exact hna.mono hE3) ⟨rows, rfl, by simp only [e3]; exact hpa, (hrE.mono hE2).mono hE3⟩ (by simp only [e1]; omega) (by simp only [e2]; exact hnc) (by simp only [e3]; exact hpc)
      simp only [e1, e2, e3] at this
      exact this
    have h1 := hall.1
    have h2 := hall.2
    refine G_seq (G_seq (G_region ?_))
    refine Gm ?_
    refine Gm ?_
    refine Gv (V_lss rfl rfl rfl) ?_
    refine G_end (X_then ?_)
    refine G_cond_f rfl (decide_eq_false (by omega)) ?_
    refine G_exit (X_then_exit (X_then_exit (X_block_hit (X_then (G_seq (G_region ?_))))))
    refine Gv (V_loadA rfl rfl (Cells.own (.head _)) rfl) ?_
    refine G_storeA rfl rfl rfl rfl (by simp [Value.oneCell']) rfl (.none rfl) (.tail _ (.head _ _ _)) rfl ?_
    refine G_end (X_then (G_ret ?_))
    refine G_leaveS (.drop _ (.drop _ (.nil _))) (by exact (.cons (.cellA rfl (Cells.own (.tail _ (.head _))) rfl) (.nil))) rfl ?_ ?_
    · exact (((hE1.trans hE).trans hE2).trans hE3)
    exact ⟨_, ⟨(by assumption), ⟨(by assumption), ⟨(by (simp [resVal, *]; done)), (by rfl)⟩⟩⟩⟩
end
end Go.Proofs.YtaibabmladgldaaGreatDoor
namespace Go.Proofs.YtaibabmladgldaaGreatDoor
open Go.RowKit
section
variable {n : Nat} {ds : List Deferred} {fs : List (Nat × Value)} {E : Env} {L : List Res} {X : Act → World → Prop}
theorem G_ways {β : Type} {J : β → Prop} {fs' : β → List (Nat × Value)} {E' : β → Env} {L' : β → List Res} {Y : Act → World → Prop} (h1 : (∀ x, J x → G n ds (fs' x) (E' x) (L' x) Y) → G n ds fs E L X) (h2 : ∀ x, J x → G n ds (fs' x) (E' x) (L' x) Y) : G n ds fs E L X := h1 h2
end
end Go.Proofs.YtaibabmladgldaaGreatDoor
