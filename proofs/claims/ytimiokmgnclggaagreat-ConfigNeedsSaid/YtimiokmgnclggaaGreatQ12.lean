/-
  Rules and contracts, packed: B14, B15, B16, B17, B23, B24.
-/
import Derived.Test.YtimiokmgnclggaaGreatQ11
set_option maxHeartbeats 1000000
set_option linter.unusedSimpArgs false
set_option linter.unusedVariables false
set_option maxHeartbeats 2000000
set_option maxRecDepth 20000
namespace Go.Proofs.YtimiokmgnclggaaGreat
open Go.RowKit
/-! Symbols of names. -/
def fndF : List (List UInt8) → List UInt8 → Nat → Int
  | [], _, _ => -1
  | x :: l, s, k => if x = s then k else fndF l s (k + 1)
def fndM (l : List (List UInt8)) (s : List UInt8) : Int := fndF l s 0
theorem fndF_skip : ∀ (l : List (List UInt8)) (s : List UInt8) (k i : Nat), i ≤ l.length → (∀ j, j < i → (h : j < l.length) → l[j] ≠ s) → fndF l s k = fndF (l.drop i) s (k + i) := by
  intro l
  induction l with
  | nil => intro s k i hi _; obtain rfl : i = 0 := by simpa using hi
           rfl
  | cons x l ih =>
    intro s k i hi h
    cases i with
    | zero => rfl
    | succ i =>
      have h0 : x ≠ s := h 0 (by omega) (by simp)
      simp only [fndF, if_neg h0, List.drop_succ_cons]
      rw [ih s (k + 1) i (by simpa using hi) (fun j hj hl => h (j + 1) (by omega) (by simpa using hl))]
      congr 1
      omega
theorem fndM_at {l : List (List UInt8)} {s : List UInt8} {i : Nat} (hi : i < l.length) (h : ∀ j, j < i → (hj : j < l.length) → l[j] ≠ s) (he : l[i] = s) : fndM l s = i := by
  rw [fndM, fndF_skip l s 0 i (by omega) h, List.drop_eq_getElem_cons hi, fndF, if_pos he]
  omega
theorem fndM_no {l : List (List UInt8)} {s : List UInt8} (h : ∀ j, (hj : j < l.length) → l[j] ≠ s) : fndM l s = -1 := by
  rw [fndM, fndF_skip l s 0 l.length (Nat.le_refl _) (fun j _ hj => h j hj), List.drop_length]
  rfl
theorem fndM_range (l : List (List UInt8)) (s : List UInt8) : -1 ≤ fndM l s ∧ fndM l s < l.length := by
  by_cases h : s ∈ l
  · have key : ∀ (l : List (List UInt8)) (k : Nat), s ∈ l → (k : Int) ≤ fndF l s k ∧ fndF l s k < (k + l.length : Nat) := by
      intro l
      induction l with
      | nil => intro k h; cases h
      | cons x l ih =>
        intro k h
        simp only [fndF]
        split
        · simp only [List.length_cons]; omega
        · rename_i hne
          have := ih (k + 1) ((List.mem_cons.1 h).resolve_left fun e => hne e.symm)
          simp only [List.length_cons]
          omega
    have := key l 0 h
    rw [fndM]
    omega
  · rw [fndM_no fun j hj e => h (by rw [← e]; exact List.getElem_mem hj)]
    omega
def symM (names ts : List (List UInt8)) (w : List UInt8) : Int := if 0 ≤ fndM names w then 16 + fndM names w else fndM ts w
section
variable (E : Env) (L : List Res)
theorem find9_call (p : Option Addr) (n c : Nat) (l : List (List UInt8)) (hl : SlE E 1 p n (strs l)) (hn : n ≤ 1000000) (t : List UInt8) : CallV Tryz.prog 85 #[.slice p n c, .string (S t)] E L (.int .i64 (fndM l t)) := by
  have en : n = l.length := by have := hl.1; simp [strs] at this; omega
  subst en
  refine CallS.toV (CallS.intro (l := [_, _]) _ Tryz.func85 rfl Tryz.ntmps85 rfl ?_)
  refine G_seq (G_region ?_)
  refine Ga ?_
  refine G_end (X_then (G_seq (G_seq (G_region ?_))))
  refine Ga ?_
  refine G_end (X_then (G_block ?_))
  refine G_loop (α := Nat) (fun i => [(0, .slice p l.length c), (1, .string (S t)), (5, .int .i64 (i : Nat))]) (fun _ => E) (fun _ => L) (fun i => i ≤ l.length ∧ ∀ k, k < i → (hk : k < l.length) → l[k] ≠ t) (fun i => l.length - i) 0 ⟨Nat.zero_le _, fun k h => by omega⟩ ⟨rfl, rfl, rfl, trivial⟩ rfl rfl ?_
  rintro i ⟨hi, hall⟩
  by_cases hlt : i < l.length
  · have hx := strs_get (List.getElem?_eq_getElem hlt)
    by_cases he : l[i] = t
    · rw [fndM_at hlt hall he]
      refine G_seq (G_seq (G_region ?_))
      refine Gm ?_
      refine Gm ?_
      refine Gv (V_lenS rfl rfl) ?_
      refine Gv (V_lss rfl rfl rfl) ?_
      refine G_end (X_then ?_)
      refine G_cond_t rfl (decide_eq_true (by omega)) ?_
      refine G_skip (X_then (G_seq (G_block (G_seq (G_region ?_)))))
      refine Gm ?_
      refine Gm ?_
      refine Gv (V_idxAddr rfl rfl rfl (SlE.rd (by assumption)) (by omega) (by omega)) ?_
      refine Gv (V_loadS rfl rfl (SlE.rd (by assumption)) (by assumption) (by simp)) ?_
      refine Gm ?_
      refine Gv (V_seql rfl rfl rfl) ?_
      refine G_end (X_then ?_)
      refine G_cond_t rfl (decide_eq_true (by omega)) ?_
      refine G_seq (G_region ?_)
      refine Gm ?_
      refine Ga ?_
      refine G_end (X_then (G_ret (X_block_ret (X_then_ret (X_then_ret (X_block_ret (X_then_ret ?_)))))))
      refine G_leaveS (.nil _) (by exact (.cons (.tmp rfl) (.nil))) rfl ?_ ?_
      · exact (.refl _)
      exact ⟨rfl, rfl⟩
    · refine G_seq ?_
      refine G_seq (G_region ?_)
      refine Gm ?_
      refine Gm ?_
      refine Gv (V_lenS rfl rfl) ?_
      refine Gv (V_lss rfl rfl rfl) ?_
      refine G_end (X_then ?_)
      refine G_cond_t rfl (decide_eq_true (by omega)) ?_
      refine G_skip (X_then (G_seq (G_block (G_seq (G_region ?_)))))
      refine Gm ?_
      refine Gm ?_
      refine Gv (V_idxAddr rfl rfl rfl (SlE.rd (by assumption)) (by omega) (by omega)) ?_
      refine Gv (V_loadS rfl rfl (SlE.rd (by assumption)) (by assumption) (by simp)) ?_
      refine Gm ?_
      refine Gv (V_seql rfl rfl rfl) ?_
      refine G_end (X_then ?_)
      refine G_cond_f rfl (decide_eq_false (by omega)) ?_
      refine G_skip (X_block (X_then (G_region ?_)))
      refine Gm ?_
      refine Gv (V_add_i64 rfl rfl rfl (by omega) (by omega)) ?_
      refine Ga ?_
      refine G_end (X_then ?_)
      refine G_again (i + 1) ⟨hlt, fun k hk hk2 => ?_⟩ (by omega) ⟨rfl, rfl, rfl, trivial⟩ rfl rfl
      by_cases e : k = i
      · subst e; exact he
      · exact hall k (by omega) hk2
  · rw [fndM_no fun j hj => hall j (by omega) hj]
    refine G_seq (G_seq (G_region ?_))
    refine Gm ?_
    refine Gm ?_
    refine Gv (V_lenS rfl rfl) ?_
    refine Gv (V_lss rfl rfl rfl) ?_
    refine G_end (X_then ?_)
    refine G_cond_f rfl (decide_eq_false (by omega)) ?_
    refine G_exit (X_then_exit (X_then_exit (X_block_hit (X_then (G_seq (G_region ?_))))))
    refine Ga ?_
    refine G_end (X_then (G_ret ?_))
    refine G_leaveS (.nil _) (by exact (.cons (.tmp rfl) (.nil))) rfl ?_ ?_
    · exact (.refl _)
    exact ⟨(by kernel_rfl), rfl⟩
theorem symbol9_call (k st : Int) (sep : List UInt8) (tp : Option Addr) (tn tc : Nat) (np : Option Addr) (nn nc : Nat) (pp : Option Addr) (pn pc : Nat) (ts names : List (List UInt8)) (ht : SlE E 1 tp tn (strs ts)) (hnm : SlE E 1 np nn (strs names)) (h1 : tn ≤ 1000) (h2 : nn ≤ 1000) (w : List UInt8) :
    CallV Tryz.prog 47 #[.agg #[.int .i64 k, .slice tp tn tc, .string (S sep), .slice np nn nc, .int .i64 st, .slice pp pn pc], .string (S w)] E L (.int .i64 (symM names ts w)) := by
  have e1 : nn = names.length := by have := hnm.1; simp [strs] at this; omega
  have e2 : tn = ts.length := by have := ht.1; simp [strs] at this; omega
  have r1 := fndM_range names w
  have r2 := fndM_range ts w
  have c1 := fun L0 => find9_call E L0 np nn nc names hnm (by omega) w
  have c2 := fun L0 => find9_call E L0 tp tn tc ts ht (by omega) w
  unfold symM
  by_cases h : 0 ≤ fndM names w
  · rw [if_pos h]
    generalize fndM names w = x at *
    refine CallS.toV (CallS.intro (l := [_, _]) _ Tryz.func47 rfl Tryz.ntmps47 rfl ?_)
    refine G_seq (G_region ?_)
    (refine G_boxA rfl rfl rfl rfl (.none rfl) ?_; intro b2)
    refine Ga ?_
    refine G_end (X_then (G_seq (G_region ?_)))
    refine Gv (V_fieldAddr rfl rfl (by decide)) ?_
    refine Gv (V_load rfl rfl (Cell.own (.head _) rfl)) ?_
    refine Gm ?_
    refine G_callv (k := 85) (.mk rfl rfl rfl rfl) rfl rfl (.none rfl) (c1 _) ?_
    refine Ga ?_
    refine G_end (X_then (G_seq (G_seq (G_region ?_))))
    refine Gm ?_
    refine Gv (V_geq rfl rfl rfl) ?_
    refine G_end (X_then ?_)
    refine G_cond_t rfl (decide_eq_true (by omega)) ?_
    refine G_seq (G_region ?_)
    refine Gm ?_
    refine Gv (V_add_i64 rfl rfl rfl (by omega) (by omega)) ?_
    refine Ga ?_
    refine G_end (X_then (G_ret (X_then_ret ?_)))
    refine G_leaveS (.drop _ (.nil _)) (by exact (.cons (.tmp rfl) (.nil))) rfl ?_ ?_
    · exact (.refl _)
    exact ⟨rfl, rfl⟩
  · rw [if_neg h]
    generalize fndM names w = x at *
    generalize fndM ts w = y at *
    refine CallS.toV (CallS.intro (l := [_, _]) _ Tryz.func47 rfl Tryz.ntmps47 rfl ?_)
    refine G_seq (G_region ?_)
    (refine G_boxA rfl rfl rfl rfl (.none rfl) ?_; intro b2)
    refine Ga ?_
    refine G_end (X_then (G_seq (G_region ?_)))
    refine Gv (V_fieldAddr rfl rfl (by decide)) ?_
    refine Gv (V_load rfl rfl (Cell.own (.head _) rfl)) ?_
    refine Gm ?_
    refine G_callv (k := 85) (.mk rfl rfl rfl rfl) rfl rfl (.none rfl) (c1 _) ?_
    refine Ga ?_
    refine G_end (X_then (G_seq (G_seq (G_region ?_))))
    refine Gm ?_
    refine Gv (V_geq rfl rfl rfl) ?_
    refine G_end (X_then ?_)
    refine G_cond_f rfl (decide_eq_false (by omega)) ?_
    refine G_skip (X_then (G_seq (G_region ?_)))
    refine Gv (V_fieldAddr rfl rfl (by decide)) ?_
    refine Gv (V_load rfl rfl (Cell.own (.head _) rfl)) ?_
    refine Gm ?_
    refine G_callv (k := 85) (.mk rfl rfl rfl rfl) rfl rfl (.none rfl) (c2 _) ?_
    refine Ga ?_
    refine G_end (X_then (G_ret ?_))
    refine G_leaveS (.drop _ (.nil _)) (by exact (.cons (.tmp rfl) (.nil))) rfl ?_ ?_
    · exact (.refl _)
    exact ⟨rfl, rfl⟩
end
end Go.Proofs.YtimiokmgnclggaaGreat
set_option linter.unusedSimpArgs false
set_option linter.unusedVariables false
set_option maxHeartbeats 2000000
set_option maxRecDepth 20000
namespace Go.Proofs.YtimiokmgnclggaaGreat
open Go.RowKit
/-! The grammar of a text. -/
def prF (names ts : List (List UInt8)) : Nat → List (List UInt8 × List (List (List UInt8))) → List Pr
  | _, [] => []
  | i, r :: rs => r.2.map (fun a => ((16 + i : Int), a.map (symM names ts))) ++ prF names ts (i + 1) rs
def grM (s : Src) : Gr := ⟨s.k, s.toks, s.sep, s.rules.map Prod.fst, symM (s.rules.map Prod.fst) s.toks s.start, prF (s.rules.map Prod.fst) s.toks 0 s.rules⟩
theorem prF_len (names ts : List (List UInt8)) : ∀ (i : Nat) (l : List (List UInt8 × List (List (List UInt8)))), (prF names ts i l).length = (l.map fun x => x.2.length).sum := by
  intro i l
  induction l generalizing i with
  | nil => rfl
  | cons x l ih => simp only [prF, List.length_append, List.length_map, List.map_cons, List.sum_cons, ih]
def altP (names ts : List (List UInt8)) (i : Nat) (l : List AltRow) : List Pr := l.map fun x => ((16 + i : Int), x.2.2.map (symM names ts))
theorem prF_drop (names ts : List (List UInt8)) {rows : List RulRow} {i : Nat} (h : i < rows.length) : prF names ts i (rulC0 (rows.drop i)) = altP names ts i rows[i].2.2.2 ++ prF names ts (i + 1) (rulC0 (rows.drop (i + 1))) := by
  rw [List.drop_eq_getElem_cons h]
  show ((rows[i].2.2.2.map (·.2.2)).map fun a => ((16 + i : Int), a.map (symM names ts))) ++ prF names ts (i + 1) (rulC0 (rows.drop (i + 1))) = _
  rw [List.map_map]
  rfl
section
variable (E : Env) (L : List Res) (s : Src) (hg : SrcGood s) (tp : Option Addr) (tc : Nat) (rp : Option Addr) (rc : Nat) (rows : List RulRow) (ht : SlE E 1 tp s.toks.length (strs s.toks)) (hr : rulC0 rows = s.rules) (hs : SlE E 2 rp rows.length (rulC rows)) (hw : RulsE E rows)
include hg ht hr hs hw
theorem Of9_call : CallS Tryz.prog 21 #[.agg #[.int .i64 s.k, .slice tp s.toks.length tc, .string (S s.sep), .string (S s.start), .slice rp rows.length rc]] E L (fun r E' L' => ∃ v, r = .tuple #[v, .int .i64 0] ∧ GrE E' v (grM s) ∧ L' = L) := by
  have hrl : rows.length = s.rules.length := by rw [← hr, rulC0_len]
  have g1 := hg.t0; have g2 := hg.r0; have g3 := hg.r8; have g4 := hg.t8
  have hnm : s.rules.map Prod.fst = rows.map (·.1) := by rw [← hr, rulC0_fst]
  refine CallS.intro (l := [_]) _ Tryz.func21 rfl Tryz.ntmps21 rfl ?_
  refine G_seq (G_region ?_)
  (refine G_boxA rfl rfl rfl rfl (.none rfl) ?_; intro b1)
  (refine G_alloc rfl rfl rfl (.none rfl) ?_; intro b2)
  refine Ga ?_
  refine G_end (X_then (G_seq (G_region ?_)))
  refine Gv (V_loadA rfl rfl (Cells.own (.tail _ (.head _))) rfl) ?_
  refine G_call (k := 46) (.mk rfl rfl rfl rfl) rfl rfl (.none rfl) (Check8_call _ _ _ (by assumption) _ _ _ _ _ (by assumption) (by assumption) (by assumption) (by assumption)) ?_
  rintro r1 E2 L3 hE4 ⟨rfl, rfl⟩
  replace ht := ht.mono hE4
  replace hs := hs.mono hE4
  replace hw := hw.mono hE4
  refine Ga ?_
  refine G_end (X_then (G_seq (G_seq (G_region ?_))))
  refine Gm ?_
  refine Gv (V_neq rfl rfl rfl) ?_
  refine G_end (X_then ?_)
  refine G_cond_f rfl (by kernel_rfl) ?_
  refine G_skip (X_then (G_seq ?_))
  refine G_drawX 10 [(0, 0), (1, 1), (3, 0), (4, 1), (6, 0), (7, 1), (2, 2), (5, 3), (8, 0), (9, 2)] mixed (by kernel_rfl) ?_
  refine F_pure rfl (fun _ _ => V_fieldAddr rfl rfl (by decide)) rfl rfl (.none rfl) ?_
  refine F_load rfl (.tail _ (.head _)) (V_load rfl rfl (Cell.own (.head _) rfl)) rfl rfl (.none rfl) ?_
  refine F_pure rfl (fun _ _ => V_fieldAddr rfl rfl (by decide)) rfl rfl (.none rfl) ?_
  refine F_load rfl (.tail _ (.head _)) (V_load rfl rfl (Cell.own (.head _) rfl)) rfl rfl (.none rfl) ?_
  refine F_pure rfl (fun _ _ => V_fieldAddr rfl rfl (by decide)) rfl rfl (.none rfl) ?_
  refine F_load rfl (.tail _ (.head _)) (V_load rfl rfl (Cell.own (.head _) rfl)) rfl rfl (.none rfl) ?_
  (refine F_lit0Z rfl rfl rfl rfl (.none rfl) ?_; intro b20 E20 hE20 hs20)
  replace ht := ht.mono hE20
  replace hs := hs.mono hE20
  replace hw := hw.mono hE20
  (refine F_appendZ rfl rfl rfl rfl (by assumption) (by assumption) (by omega) (by omega) (by omega) rfl rfl (.none rfl) ?_; intro b23 c23 E23 hE23 hs23 hc23)
  replace hs20 := hs20.mono hE23
  replace ht := ht.mono hE23
  replace hs := hs.mono hE23
  replace hw := hw.mono hE23
  refine F_pure rfl (fun _ _ => V_build rfl rfl (by simp [fillV, setLs, setL, Value.cells]; rfl)) rfl rfl (.none rfl) ?_
  (refine F_alloc rfl rfl rfl rfl (.none rfl) ?_; intro b5)
  (refine F_end (.nil _) ?_; dsimp only [List.drop])
  refine G_storeA rfl rfl rfl rfl (by simp [Value.oneCell']) rfl (.none rfl) (.head _ _ _) rfl ?_
  refine G_end (X_then (G_seq (G_seq (G_region ?_))))
  refine Ga ?_
  refine G_end (X_then (G_block ?_))
  refine G.nilSl 9 1 ?_
  have hnl : (rows.map (·.1)).length = rows.length := List.length_map _
  refine G_loop (α := Nat × Env × Option Addr × Nat) (fun x => [(1, .pointer (some ⟨b1, 0, none⟩)), (2, .pointer (some ⟨b2, 0, none⟩)), (5, .pointer (some ⟨b5, 0, none⟩)), (6, .int .i64 (x.1 : Nat))]) (fun x => x.2.1)
    (fun x => .sl 9 1 x.2.2.1 x.1 x.2.2.2 (strs ((rows.map (·.1)).take x.1)) :: .blk b5 (.cells #[.int .i64 s.k, .slice (some ⟨b23, 0, none⟩) s.toks.length c23, .string (S s.sep), .slice x.2.2.1 x.1 x.2.2.2, .int .i64 0, .slice none 0 0] 26 (0, 0)) ::
      .blk b2 (.cells #[.int .i64 0, .slice none 0 0, .string (S []), .slice none 0 0, .int .i64 0, .slice none 0 0] 26 (0, 0)) :: SRB b1 s.k tp s.toks.length tc s.sep s.start rp rows.length rc :: L)
    (fun x => E23.Le x.2.1 ∧ x.1 ≤ rows.length) (fun x => rows.length - x.1) (0, E23, none, 0) ⟨.refl _, Nat.zero_le _⟩ ⟨rfl, rfl, rfl, rfl, trivial⟩ rfl rfl ?_
  rintro ⟨i, E0, p, c⟩ ⟨hE, hi⟩
  simp only at hE hi ⊢
  replace ht := ht.mono hE
  replace hs := hs.mono hE
  replace hw := hw.mono hE
  replace hs23 := hs23.mono hE
  by_cases hlt : i < rows.length
  · have x1 := rulC_name (List.getElem?_eq_getElem hlt)
    refine G_seq (G_seq (G_region ?_))
    refine Gm ?_
    refine Gv (V_fieldAddr rfl rfl (by decide)) ?_
    refine Gv (V_load rfl rfl (Cell.own (.tail _ (.tail _ (.tail _ (.head _)))) rfl)) ?_
    refine Gv (V_lenS rfl rfl) ?_
    refine Gv (V_lss rfl rfl rfl) ?_
    refine G_end (X_then ?_)
    refine G_cond_t rfl (decide_eq_true (by omega)) ?_
    refine G_skip (X_then (G_seq (G_block ?_)))
    refine G_drawX 12 [(0, 0), (1, 1), (2, 0), (3, 1), (4, 0), (5, 1), (6, 0), (7, 1), (8, 2), (9, 4), (10, 0), (11, 4)] mixed (by kernel_rfl) ?_
    refine F_pure rfl (fun _ _ => V_fieldAddr rfl rfl (by decide)) rfl rfl (.none rfl) ?_
    refine F_load rfl (.tail _ (.head _)) (V_load rfl rfl (Cell.own (.head _) rfl)) rfl rfl (.none rfl) ?_
    refine F_pure rfl (fun _ _ => V_fieldAddr rfl rfl (by decide)) rfl rfl (.none rfl) ?_
    refine F_load rfl (.tail _ (.tail _ (.tail _ (.head _)))) (V_load rfl rfl (Cell.own (.head _) rfl)) rfl rfl (.none rfl) ?_
    refine F_pure rfl (fun _ _ => V_move rfl rfl) rfl rfl (.none rfl) ?_
    refine F_loadE rfl (V_idxAddr rfl rfl rfl (SlE.rd (by assumption)) (by omega) (by omega)) rfl rfl (.none rfl) ?_
    refine F_pure rfl (fun _ _ => V_fieldAddrX rfl rfl (by assumption) (by omega) (by decide)) rfl rfl (.none rfl) ?_
    refine F_loadE rfl (V_loadS rfl rfl (SlE.rd (by assumption)) (by assumption) (by simp)) rfl rfl (.none rfl) ?_
    (refine F_litZ rfl rfl rfl (by decide) (by simp [fillS, zeros, setLs, setL, Value.cells, List.range, List.range.loop]; rfl) (by rfl) rfl rfl (.none rfl) ?_; intro b42 E42 hE42 hs42)
    replace ht := ht.mono hE42
    replace hs := hs.mono hE42
    replace hw := hw.mono hE42
    replace hs23 := hs23.mono hE42
    (refine F_appendT rfl rfl rfl rfl (by assumption) (by simp [Value.oneCell', strs, i64s]) (by omega) (by omega) rfl rfl (.none rfl) (fun _ _ => (.head _ _ _)) ?_; intro a43 c43; refine ⟨_, (.drop (by kernel_rfl) (.drop (by kernel_rfl) (.drop (by kernel_rfl) (.drop (by kernel_rfl) (.nil))))), ?_⟩)
    refine F_pure rfl (fun _ _ => V_fieldAddr rfl rfl (by decide)) rfl rfl (.none rfl) ?_
    refine F_storeAt rfl rfl rfl rfl rfl rfl rfl (.none rfl) (.tail _ (.head _ _ _)) (Nat.le_of_ble_eq_true rfl) (by simp only [putAll, Nat.zero_add, Nat.reduceAdd, List.setIfInBounds_toArray, List.set_cons_succ, List.set_cons_zero]; rfl) (.nil) ?_
    (refine F_end (.nil _) ?_; dsimp only [List.drop])
    refine G_end (X_block (X_then (G_region ?_)))
    refine Gm ?_
    refine Gv (V_add_i64 rfl rfl rfl (by omega) (by omega)) ?_
    refine Ga ?_
    refine G_end (X_then ?_)
    have ht1 : strs ((rows.map (·.1)).take i) ++ [.string (S rows[i].1)] = strs ((rows.map (·.1)).take (i + 1)) := by rw [List.take_add_one, List.getElem?_eq_getElem (by rw [hnl]; exact hlt)]; simp [strs]
    rw [ht1]
    exact G_again (i + 1, E42, a43, c43) ⟨hE.trans hE42, hlt⟩ (by simp only; omega) ⟨rfl, rfl, rfl, rfl, trivial⟩ rfl rfl
  · obtain rfl : i = rows.length := by omega
    refine G.freezeSl (.head _ _) ?_
    intro E1 hE1 hs1 hc1
    rw [List.take_of_length_le (by rw [hnl]; exact Nat.le_refl _)] at hs1
    have hs24 : SlE E1 1 (some ⟨b23, 0, none⟩) s.toks.length (strs s.toks) := by simpa using hs23.mono hE1
    have hc24 : s.toks.length ≤ c23 := by omega
    clear hs23 hc23
    refine G_seq (G_seq (G_region ?_))
    refine Gm ?_
    refine Gv (V_fieldAddr rfl rfl (by decide)) ?_
    refine Gv (V_load rfl rfl (Cell.own (.tail _ (.tail _ (.head _))) rfl)) ?_
    refine Gv (V_lenS rfl rfl) ?_
    refine Gv (V_lss rfl rfl rfl) ?_
    refine G_end (X_then ?_)
    refine G_cond_f rfl (decide_eq_false (by omega)) ?_
    refine G_exit (X_then_exit (X_then_exit (X_block_hit (X_then (G_seq (G_region ?_))))))
    refine Gv (V_loadA rfl rfl (Cells.own (.head _)) rfl) ?_
    refine Gv (V_fieldAddr rfl rfl (by decide)) ?_
    refine Gv (V_load rfl rfl (Cell.own (.tail _ (.tail _ (.head _))) rfl)) ?_
    refine G_callv (k := 47) (.mk rfl rfl rfl rfl) rfl rfl (.none rfl) (symbol9_call _ _ _ _ _ _ _ _ _ _ _ _ _ _ _ _ (by assumption) (by assumption) (by omega) (by omega) _) ?_
    refine Gv (V_fieldAddr rfl rfl (by decide)) ?_
    refine G_storeAt rfl rfl rfl rfl rfl rfl (.none rfl) (.head _ _ _) (Nat.le_of_ble_eq_true rfl) (by simp only [putAll, Nat.zero_add, Nat.reduceAdd, List.setIfInBounds_toArray, List.set_cons_succ, List.set_cons_zero]; rfl) ?_
    refine G_end (X_then (G_seq (G_seq (G_region ?_))))
    refine Ga ?_
    refine G_end (X_then (G_block ?_))
    have htot : prF (rows.map (·.1)) s.toks 0 (rulC0 rows) = (grM s).prods := by rw [hr, grM, hnm]
    have hcnt : (grM s).prods.length ≤ 24 := by rw [← htot, prF_len, hr]; exact hg.a24
    refine G.nilSl 69 2 ?_
    refine G_loop (α := Nat × List Row × Env × Option Addr × Nat) (fun x => [(1, .pointer (some ⟨b1, 0, none⟩)), (2, .pointer (some ⟨b2, 0, none⟩)), (5, .pointer (some ⟨b5, 0, none⟩)), (7, .int .i64 (x.1 : Nat))]) (fun x => x.2.2.1)
      (fun x => .sl 69 2 x.2.2.2.1 x.2.1.length x.2.2.2.2 (prows x.2.1) :: .blk b5 (.cells #[.int .i64 s.k, .slice (some ⟨b23, 0, none⟩) s.toks.length c23, .string (S s.sep), .slice p rows.length c, .int .i64 (symM (rows.map (·.1)) s.toks s.start), .slice x.2.2.2.1 x.2.1.length x.2.2.2.2] 26 (0, 0)) ::
        .blk b2 (.cells #[.int .i64 0, .slice none 0 0, .string (S []), .slice none 0 0, .int .i64 0, .slice none 0 0] 26 (0, 0)) :: SRB b1 s.k tp s.toks.length tc s.sep s.start rp rows.length rc :: L)
      (fun x => E1.Le x.2.2.1 ∧ x.1 ≤ rows.length ∧ RowsE x.2.2.1 x.2.1 ∧ x.2.1.map (·.2.2) ++ prF (rows.map (·.1)) s.toks x.1 (rulC0 (rows.drop x.1)) = (grM s).prods) (fun x => rows.length - x.1)
      (0, [], E1, none, 0) ⟨.refl _, Nat.zero_le _, (fun x hx => by cases hx), htot⟩ ⟨rfl, rfl, rfl, rfl, trivial⟩ rfl rfl ?_
    rintro ⟨i, rws, E3, pp, pc⟩ ⟨hE3, hi3, hrw, hq⟩
    simp only at hE3 hi3 hrw hq ⊢
    replace hs := (hs.mono hE1).mono hE3
    replace hw := (hw.mono hE1).mono hE3
    replace hs1 := hs1.mono hE3
    replace hs24 := hs24.mono hE3
    clear ht hs20
    by_cases hlt3 : i < rows.length
    · have x1 := rulC_alts (List.getElem?_eq_getElem hlt3)
      have hrm : (rows[i].1, rows[i].2.2.2.map (·.2.2)) ∈ s.rules := by rw [← hr]; exact rulC0_mem hlt3
      have x4 := alts_le hg hr hlt3
      have x5 := (hw _ (List.getElem_mem hlt3)).1
      rw [prF_drop _ _ hlt3] at hq
      obtain ⟨rest, hrest⟩ : ∃ r, prF (rows.map (·.1)) s.toks (i + 1) (rulC0 (rows.drop (i + 1))) = r := ⟨_, rfl⟩
      rw [hrest] at hq
      refine G_seq (G_seq (G_region ?_))
      refine Gm ?_
      refine Gv (V_fieldAddr rfl rfl (by decide)) ?_
      refine Gv (V_load rfl rfl (Cell.own (.tail _ (.tail _ (.tail _ (.head _)))) rfl)) ?_
      refine Gv (V_lenS rfl rfl) ?_
      refine Gv (V_lss rfl rfl rfl) ?_
      refine G_end (X_then ?_)
      refine G_cond_t rfl (decide_eq_true (by omega)) ?_
      refine G_skip (X_then (G_seq (G_block (G_seq (G_region ?_)))))
      refine Ga ?_
      refine G_end (X_then (G_block ?_))
      refine G_loop (α := Nat × List Row × Env × Option Addr × Nat) (fun x => [(1, .pointer (some ⟨b1, 0, none⟩)), (2, .pointer (some ⟨b2, 0, none⟩)), (5, .pointer (some ⟨b5, 0, none⟩)), (7, .int .i64 (i : Nat)), (8, .int .i64 (x.1 : Nat))]) (fun x => x.2.2.1)
        (fun x => .sl 69 2 x.2.2.2.1 x.2.1.length x.2.2.2.2 (prows x.2.1) :: .blk b5 (.cells #[.int .i64 s.k, .slice (some ⟨b23, 0, none⟩) s.toks.length c23, .string (S s.sep), .slice p rows.length c, .int .i64 (symM (rows.map (·.1)) s.toks s.start), .slice x.2.2.2.1 x.2.1.length x.2.2.2.2] 26 (0, 0)) ::
          .blk b2 (.cells #[.int .i64 0, .slice none 0 0, .string (S []), .slice none 0 0, .int .i64 0, .slice none 0 0] 26 (0, 0)) :: SRB b1 s.k tp s.toks.length tc s.sep s.start rp rows.length rc :: L)
        (fun x => E3.Le x.2.2.1 ∧ x.1 ≤ rows[i].2.2.2.length ∧ RowsE x.2.2.1 x.2.1 ∧ x.2.1.map (·.2.2) ++ (altP (rows.map (·.1)) s.toks i (rows[i].2.2.2.drop x.1) ++ rest) = (grM s).prods) (fun x => rows[i].2.2.2.length - x.1)
        (0, rws, E3, pp, pc) ⟨.refl _, Nat.zero_le _, hrw, hq⟩ ⟨rfl, rfl, rfl, rfl, rfl, trivial⟩ rfl rfl ?_
      clear hrw hq
      rintro ⟨j, rws, E4, pp, pc⟩ ⟨hE4, hj, hrw, hq⟩
      simp only at hE4 hj hrw hq ⊢
      replace hs := hs.mono hE4
      replace hw := hw.mono hE4
      replace hs1 := hs1.mono hE4
      replace hs24 := hs24.mono hE4
      replace x5 := x5.mono hE4
      by_cases hlt4 : j < rows[i].2.2.2.length
      · have y1 := altC_get (List.getElem?_eq_getElem hlt4)
        have y2 := hg.a6 _ hrm _ (alt_mem hlt4)
        have y3 := (hw _ (List.getElem_mem hlt3)).2 _ (List.getElem_mem hlt4)
        have y4 : rws.length < 24 := by
          have := congrArg List.length hq
          rw [List.drop_eq_getElem_cons hlt4] at this
          simp only [List.length_append, List.length_map, altP, List.map_cons, List.length_cons] at this
          omega
        rw [List.drop_eq_getElem_cons hlt4] at hq
        refine G_seq (G_seq (G_region ?_))
        refine Gm ?_
        refine Gv (V_fieldAddr rfl rfl (by decide)) ?_
        refine Gv (V_load rfl rfl (Cell.own (.tail _ (.tail _ (.tail _ (.head _)))) rfl)) ?_
        refine Gm ?_
        refine Gv (V_idxAddr rfl rfl rfl (SlE.rd (by assumption)) (by omega) (by omega)) ?_
        refine Gv (V_fieldAddrE rfl rfl (by assumption) (by omega) (by decide)) ?_
        refine Gv (V_loadS rfl rfl (SlE.rd (by assumption)) (by assumption) (by simp)) ?_
        refine Gv (V_lenS rfl rfl) ?_
        refine Gv (V_lss rfl rfl rfl) ?_
        refine G_end (X_then ?_)
        refine G_cond_t rfl (decide_eq_true (by omega)) ?_
        refine G_skip (X_then (G_seq (G_block (G_seq (G_region ?_)))))
        refine Gm ?_
        refine Gv (V_add_i64 rfl rfl rfl (by omega) (by omega)) ?_
        refine Gv (V_build rfl rfl (by simp [fillV, setLs, setL, Value.cells]; rfl)) ?_
        (refine G_alloc rfl rfl rfl (.none rfl) ?_; intro b9)
        refine G_storeA rfl rfl rfl rfl (by simp [Value.oneCell']) rfl (.none rfl) (.head _ _ _) rfl ?_
        refine G_end (X_then (G_seq (G_region ?_)))
        refine Gv (V_fieldAddr rfl rfl (by decide)) ?_
        refine Gv (V_load rfl rfl (Cell.own (.tail _ (.tail _ (.tail _ (.tail _ (.head _))))) rfl)) ?_
        refine Gm ?_
        refine Gv (V_idxAddr rfl rfl rfl (SlE.rd (by assumption)) (by omega) (by omega)) ?_
        refine Gv (V_fieldAddrE rfl rfl (by assumption) (by omega) (by decide)) ?_
        refine Gv (V_loadS rfl rfl (SlE.rd (by assumption)) (by assumption) (by simp)) ?_
        refine Gm ?_
        refine Gv (V_idxAddr rfl rfl rfl (SlE.rd (by assumption)) (by omega) (by omega)) ?_
        refine Gv (V_loadS rfl rfl (SlE.rd (by assumption)) (by assumption) (by simp)) ?_
        refine Ga ?_
        refine G_end (X_then (G_seq (G_seq (G_region ?_))))
        refine Ga ?_
        refine G_end (X_then (G_block ?_))
        refine G.nilSl 3 1 ?_
        generalize hal : rows[i].2.2.2[j] = al at *
        obtain ⟨ap, ac, ws⟩ := al
        simp only at y1 y2 y3 ⊢
        refine G_loop (α := Nat × Env × Option Addr × Nat) (fun x => [(1, .pointer (some ⟨b1, 0, none⟩)), (2, .pointer (some ⟨b2, 0, none⟩)), (5, .pointer (some ⟨b5, 0, none⟩)), (7, .int .i64 (i : Nat)), (8, .int .i64 (j : Nat)), (9, .pointer (some ⟨b9, 0, none⟩)), (10, .slice ap ws.length ac), (11, .int .i64 (x.1 : Nat))]) (fun x => x.2.1)
          (fun x => .sl 3 1 x.2.2.1 x.1 x.2.2.2 (i64s ((ws.map (symM (rows.map (·.1)) s.toks)).take x.1)) :: .blk b9 (.cells #[.int .i64 (16 + (i : Int)), .slice x.2.2.1 x.1 x.2.2.2] 69 (0, 0)) ::
            .sl 69 2 pp rws.length pc (prows rws) :: .blk b5 (.cells #[.int .i64 s.k, .slice (some ⟨b23, 0, none⟩) s.toks.length c23, .string (S s.sep), .slice p rows.length c, .int .i64 (symM (rows.map (·.1)) s.toks s.start), .slice pp rws.length pc] 26 (0, 0)) ::
            .blk b2 (.cells #[.int .i64 0, .slice none 0 0, .string (S []), .slice none 0 0, .int .i64 0, .slice none 0 0] 26 (0, 0)) :: SRB b1 s.k tp s.toks.length tc s.sep s.start rp rows.length rc :: L)
          (fun x => E4.Le x.2.1 ∧ x.1 ≤ ws.length) (fun x => ws.length - x.1)
          (0, E4, none, 0) ⟨.refl _, Nat.zero_le _⟩ ⟨rfl, rfl, rfl, rfl, rfl, rfl, rfl, rfl, trivial⟩ rfl rfl ?_
        rintro ⟨q, E5, qp, qc⟩ ⟨hE5, hq5⟩
        simp only at hE5 hq5 ⊢
        replace hs := hs.mono hE5
        replace hw := hw.mono hE5
        replace hs1 := hs1.mono hE5
        replace hs24 := hs24.mono hE5
        replace x5 := x5.mono hE5
        replace y3 := y3.mono hE5
        replace hrw := hrw.mono hE5
        by_cases hlt5 : q < ws.length
        · have w1 := strs_get (List.getElem?_eq_getElem hlt5)
          refine G_seq (G_seq (G_region ?_))
          refine Gm ?_
          refine Gm ?_
          refine Gv (V_lenS rfl rfl) ?_
          refine Gv (V_lss rfl rfl rfl) ?_
          refine G_end (X_then ?_)
          refine G_cond_t rfl (decide_eq_true (by omega)) ?_
          refine G_skip (X_then (G_seq (G_block ?_)))
          refine G_drawX 12 [(0, 0), (1, 1), (2, 1), (3, 0), (4, 0), (5, 1), (6, 1), (7, 3), (8, 2), (9, 4), (10, 0), (11, 4)] mixed (by kernel_rfl) ?_
          refine F_pure rfl (fun _ _ => V_fieldAddr rfl rfl (by decide)) rfl rfl (.none rfl) ?_
          refine F_load rfl (.tail _ (.head _)) (V_load rfl rfl (Cell.own (.head _) rfl)) rfl rfl (.none rfl) ?_
          refine F_load rfl (.tail _ (.tail _ (.tail _ (.head _)))) (V_loadA rfl rfl (Cells.own (.head _)) rfl) rfl rfl (.none rfl) ?_
          refine F_pure rfl (fun _ _ => V_move rfl rfl) rfl rfl (.none rfl) ?_
          refine F_pure rfl (fun _ _ => V_move rfl rfl) rfl rfl (.none rfl) ?_
          refine F_loadE rfl (V_idxAddr rfl rfl rfl (SlE.rd (by assumption)) (by omega) (by omega)) rfl rfl (.none rfl) ?_
          refine F_loadE rfl (V_loadS rfl rfl (SlE.rd (by assumption)) (by assumption) (by simp)) rfl rfl (.none rfl) ?_
          refine F_callv (k := 47) rfl (.mk rfl rfl rfl rfl) rfl rfl (.none rfl) (fun _ => symbol9_call _ _ _ _ _ _ _ _ _ _ _ _ _ _ _ _ (by assumption) (by assumption) (by omega) (by omega) _) ?_
          (refine F_litZ rfl rfl rfl (by decide) (by simp [fillS, zeros, setLs, setL, Value.cells, List.range, List.range.loop]; rfl) (by rfl) rfl rfl (.none rfl) ?_; intro b94 E94 hE94 hs94)
          replace hs := hs.mono hE94
          replace hw := hw.mono hE94
          replace hs1 := hs1.mono hE94
          replace hs24 := hs24.mono hE94
          replace x5 := x5.mono hE94
          replace y3 := y3.mono hE94
          replace hrw := hrw.mono hE94
          (refine F_appendT rfl rfl rfl rfl (by assumption) (by simp [Value.oneCell', strs, i64s]) (by omega) (by omega) rfl rfl (.none rfl) (fun _ _ => (.head _ _ _)) ?_; intro a95 c95; refine ⟨_, (.drop (by kernel_rfl) (.drop (by kernel_rfl) (.drop (by kernel_rfl) (.drop (by kernel_rfl) (.nil))))), ?_⟩)
          refine F_pure rfl (fun _ _ => V_fieldAddr rfl rfl (by decide)) rfl rfl (.none rfl) ?_
          refine F_storeAt rfl rfl rfl rfl rfl rfl rfl (.none rfl) (.tail _ (.head _ _ _)) (Nat.le_of_ble_eq_true rfl) (by simp only [putAll, Nat.zero_add, Nat.reduceAdd, List.setIfInBounds_toArray, List.set_cons_succ, List.set_cons_zero]; rfl) (.nil) ?_
          (refine F_end (.nil _) ?_; dsimp only [List.drop])
          refine G_end (X_block (X_then (G_region ?_)))
          refine Gm ?_
          refine Gv (V_add_i64 rfl rfl rfl (by omega) (by omega)) ?_
          refine Ga ?_
          refine G_end (X_then ?_)
          have w2 : i64s ((ws.map (symM (rows.map (·.1)) s.toks)).take q) ++ [.int .i64 (symM (rows.map (·.1)) s.toks ws[q])] = i64s ((ws.map (symM (rows.map (·.1)) s.toks)).take (q + 1)) := by
            rw [List.take_add_one, List.getElem?_eq_getElem (by rw [List.length_map]; exact hlt5)]; simp [i64s]
          rw [w2]
          exact G_again (q + 1, E94, a95, c95) ⟨hE5.trans hE94, hlt5⟩ (by simp only; omega) ⟨rfl, rfl, rfl, rfl, rfl, rfl, rfl, rfl, trivial⟩ rfl rfl
        · obtain rfl : q = ws.length := by omega
          refine G.freezeSl (.head _ _) ?_
          intro E6 hE6 hs6 hc6
          refine G_seq (G_seq (G_region ?_))
          refine Gm ?_
          refine Gm ?_
          refine Gv (V_lenS rfl rfl) ?_
          refine Gv (V_lss rfl rfl rfl) ?_
          refine G_end (X_then ?_)
          refine G_cond_f rfl (decide_eq_false (by omega)) ?_
          refine G_exit (X_then_exit (X_then_exit (X_block_hit (X_then (G_region ?_)))))
          refine Gv (V_fieldAddr rfl rfl (by decide)) ?_
          refine Gv (V_load rfl rfl (Cell.own (.tail _ (.tail _ (.head _))) rfl)) ?_
          refine Gv (V_loadA rfl rfl (Cells.own (.head _)) rfl) ?_
          (refine G_lit rfl rfl (by decide) (by simp [fillS, zeros, setLs, setL, Value.cells, List.range, List.range.loop]; rfl) rfl rfl (.none rfl) ?_; intro b100)
          (refine G_append rfl rfl rfl (Rd.lit (.head _) rfl) (by simp [Value.oneCell']) (by omega) (by omega) rfl rfl (.none rfl) (fun _ _ => (.tail _ (.tail _ (.head _ _ _)))) ?_; intro a101 c101; refine G.rm (.head _ _) ?_)
          refine Gv (V_fieldAddr rfl rfl (by decide)) ?_
          refine G_storeAt rfl rfl rfl rfl rfl rfl (.none rfl) (.tail _ (.tail _ (.head _ _ _))) (Nat.le_of_ble_eq_true rfl) (by simp only [putAll, Nat.zero_add, Nat.reduceAdd, List.setIfInBounds_toArray, List.set_cons_succ, List.set_cons_zero]; rfl) ?_
          refine G_end (X_block (X_then (G_region ?_)))
          refine Gm ?_
          refine Gv (V_add_i64 rfl rfl rfl (by omega) (by omega)) ?_
          refine Ga ?_
          refine G_end (X_then ?_)
          rw [List.take_of_length_le (by rw [List.length_map]; exact Nat.le_refl _)] at hs6
          have w3 : prows rws ++ [.int .i64 (16 + (i : Int)), .slice qp ws.length qc] = prows (rws ++ [(qp, qc, (16 + i : Int), ws.map (symM (rows.map (·.1)) s.toks))]) := by simp [prows, prow]
          have w4 : (rws ++ [((qp, qc, (16 + i : Int), ws.map (symM (rows.map (·.1)) s.toks)) : Row)]).length = rws.length + 1 := by simp
          rw [w3]
          refine G.drop ?_
          refine G_again (j + 1, rws ++ [(qp, qc, (16 + i : Int), ws.map (symM (rows.map (·.1)) s.toks))], E6, a101, c101) ⟨(hE4.trans hE5).trans hE6, hlt4, ?_, ?_⟩ (by simp only; omega) ⟨rfl, rfl, rfl, rfl, rfl, trivial⟩ rfl (by simp only [w4])
          · intro x hx
            rcases List.mem_append.1 hx with h | h
            · exact hrw.mono hE6 x h
            · rw [List.mem_singleton.1 h]; simpa using hs6
          · rw [← hq]
            simp [altP]
      · obtain rfl : j = rows[i].2.2.2.length := by omega
        refine G_seq (G_seq (G_region ?_))
        refine Gm ?_
        refine Gv (V_fieldAddr rfl rfl (by decide)) ?_
        refine Gv (V_load rfl rfl (Cell.own (.tail _ (.tail _ (.tail _ (.head _)))) rfl)) ?_
        refine Gm ?_
        refine Gv (V_idxAddr rfl rfl rfl (SlE.rd (by assumption)) (by omega) (by omega)) ?_
        refine Gv (V_fieldAddrE rfl rfl (by assumption) (by omega) (by decide)) ?_
        refine Gv (V_loadS rfl rfl (SlE.rd (by assumption)) (by assumption) (by simp)) ?_
        refine Gv (V_lenS rfl rfl) ?_
        refine Gv (V_lss rfl rfl rfl) ?_
        refine G_end (X_then ?_)
        refine G_cond_f rfl (decide_eq_false (by omega)) ?_
        refine G_exit (X_then_exit (X_then_exit (X_block_hit (X_block (X_then (G_region ?_))))))
        refine Gm ?_
        refine Gv (V_add_i64 rfl rfl rfl (by omega) (by omega)) ?_
        refine Ga ?_
        refine G_end (X_then ?_)
        refine G_again (i + 1, rws, E4, pp, pc) ⟨hE3.trans hE4, hlt3, hrw, ?_⟩ (by simp only; omega) ⟨rfl, rfl, rfl, rfl, trivial⟩ rfl rfl
        rw [List.drop_length] at hq
        show rws.map (·.2.2) ++ prF (rows.map (·.1)) s.toks (i + 1) (rulC0 (rows.drop (i + 1))) = _
        rw [hrest]
        exact hq
    · obtain rfl : i = rows.length := by omega
      rw [List.drop_length] at hq
      simp only [rulC0, List.map_nil, prF, List.append_nil] at hq
      refine G.freezeSl (.head _ _) ?_
      intro E9 hE9 hs9 hc9
      have hfin : GrE E9 (.agg #[.int .i64 s.k, .slice (some ⟨b23, 0, none⟩) s.toks.length c23, .string (S s.sep), .slice p rows.length c, .int .i64 (symM (rows.map (·.1)) s.toks s.start), .slice pp rws.length pc]) (grM s) := by
        have e1 : (grM s).names.length = rows.length := by show (s.rules.map Prod.fst).length = _; rw [hnm, hnl]
        have e2 : (grM s).prods.length = rws.length := by rw [← hq, List.length_map]
        refine ⟨some ⟨b23, 0, none⟩, c23, p, c, pp, pc, ?_, hs24.mono hE9, ?_, ?_, hc24, ?_, ?_⟩
        · rw [e1, e2]; show _ = Value.agg #[.int .i64 s.k, .slice (some ⟨b23, 0, none⟩) s.toks.length c23, .string (S s.sep), .slice p rows.length c, .int .i64 (symM (s.rules.map Prod.fst) s.toks s.start), .slice pp rws.length pc]; rw [hnm]
        · rw [e1]; show SlE E9 1 p rows.length (strs (s.rules.map Prod.fst)); rw [hnm]; exact hs1.mono hE9
        · rw [e2]; exact ⟨rws, hq, hs9, hrw.mono hE9⟩
        · rw [e1]; exact hc1
        · rw [e2]; exact hc9
      refine G_seq (G_seq (G_region ?_))
      refine Gm ?_
      refine Gv (V_fieldAddr rfl rfl (by decide)) ?_
      refine Gv (V_load rfl rfl (Cell.own (.tail _ (.tail _ (.head _))) rfl)) ?_
      refine Gv (V_lenS rfl rfl) ?_
      refine Gv (V_lss rfl rfl rfl) ?_
      refine G_end (X_then ?_)
      refine G_cond_f rfl (decide_eq_false (by omega)) ?_
      refine G_exit (X_then_exit (X_then_exit (X_block_hit (X_then (G_seq (G_region ?_))))))
      refine Gv (V_loadA rfl rfl (Cells.own (.head _)) rfl) ?_
      refine G_storeA rfl rfl rfl rfl (by simp [Value.oneCell']) rfl (.none rfl) (.tail _ (.head _ _ _)) rfl ?_
      refine Ga ?_
      refine G_end (X_then (G_ret ?_))
      refine G_leaveS (.drop _ (.drop _ (.drop _ (.nil _)))) (by exact (.cons (.cellA rfl (Cells.own (.tail _ (.head _))) rfl) (.cons (.tmp rfl) (.nil)))) rfl ?_ ?_
      · exact ((((((hE4.trans hE20).trans hE23).trans hE).trans hE1).trans hE3).trans hE9)
      exact ⟨_, ⟨rfl, ⟨(by assumption), rfl⟩⟩⟩
end
end Go.Proofs.YtimiokmgnclggaaGreat
set_option linter.unusedSimpArgs false
set_option linter.unusedVariables false
set_option maxHeartbeats 2000000
set_option maxRecDepth 20000
namespace Go.Proofs.YtimiokmgnclggaaGreat
open Go.RowKit
/-! The kit's grammar texts. -/
def rul16 : List (Nat × Nat × List UInt8) := [
  (1, 1, [83, 32, 61, 32, 97, 32, 83, 32, 124, 32, 59]),
  (1, 2, [83, 32, 61, 32, 97, 32, 84, 32, 124, 32, 59, 32, 84, 32, 61, 32, 98, 32, 83, 32, 59]),
  (2, 2, [83, 32, 61, 32, 97, 32, 84, 32, 124, 32, 59, 32, 84, 32, 61, 32, 98, 32, 83, 32, 59]),
  (2, 2, [83, 32, 61, 32, 97, 32, 124, 32, 97, 32, 98, 32, 59]),
  (1, 3, [83, 32, 61, 32, 97, 32, 83, 32, 98, 32, 124, 32, 99, 32, 59]),
  (1, 3, [83, 32, 61, 32, 84, 32, 85, 32, 59, 32, 84, 32, 61, 32, 97, 32, 84, 32, 124, 32, 59, 32, 85, 32, 61, 32, 98, 32, 85, 32, 124, 32, 99, 32, 59]),
  (2, 3, [83, 32, 61, 32, 97, 32, 97, 32, 83, 32, 124, 32, 97, 32, 98, 32, 124, 32, 99, 32, 59]),
  (1, 3, [83, 32, 61, 32, 97, 32, 84, 32, 99, 32, 59, 32, 84, 32, 61, 32, 98, 32, 84, 32, 124, 32, 85, 32, 59, 32, 85, 32, 61, 32, 59]),
  (2, 3, [83, 32, 61, 32, 84, 32, 99, 32, 124, 32, 98, 32, 83, 32, 59, 32, 84, 32, 61, 32, 98, 32, 97, 32, 124, 32, 59]),
  (1, 2, [83, 32, 61, 32, 97, 32, 83, 32, 83, 32, 124, 32, 98, 32, 59]),
  (3, 2, [83, 32, 61, 32, 97, 32, 97, 32, 97, 32, 124, 32, 97, 32, 97, 32, 98, 32, 83, 32, 124, 32, 98, 32, 59]),
  (1, 4, [83, 32, 61, 32, 97, 32, 76, 32, 98, 32, 59, 32, 76, 32, 61, 32, 69, 32, 77, 32, 59, 32, 77, 32, 61, 32, 99, 32, 69, 32, 77, 32, 124, 32, 59, 32, 69, 32, 61, 32, 100, 32, 124, 32, 83, 32, 59]),
  (2, 2, [83, 32, 61, 32, 84, 32, 84, 32, 59, 32, 84, 32, 61, 32, 97, 32, 98, 32, 124, 32, 98, 32, 97, 32, 59]),
  (1, 1, [83, 32, 61, 32, 97, 32, 59]),
  (2, 3, [83, 32, 61, 32, 97, 32, 84, 32, 124, 32, 97, 32, 98, 32, 99, 32, 59, 32, 84, 32, 61, 32, 97, 32, 124, 32, 99, 32, 83, 32, 59]),
  (1, 2, [83, 32, 61, 32, 84, 32, 85, 32, 84, 32, 59, 32, 84, 32, 61, 32, 59, 32, 85, 32, 61, 32, 97, 32, 85, 32, 98, 32, 124, 32, 59])]
def rulS (x : Nat × Nat × List UInt8) : List UInt8 := UInt8.ofNat (48 + x.1) :: 32 :: UInt8.ofNat (48 + x.2.1) :: 32 :: x.2.2
theorem rul16_sm : ∀ x, x ∈ rul16 → (1 ≤ x.1 ∧ x.1 ≤ 3) ∧ (1 ≤ x.2.1 ∧ x.2.1 ≤ 4) ∧ x.2.2.length ≤ 100 := by
  have h : rul16.all (fun x => decide ((1 ≤ x.1 ∧ x.1 ≤ 3) ∧ (1 ≤ x.2.1 ∧ x.2.1 ≤ 4) ∧ x.2.2.length ≤ 100)) = true := by kernel_rfl
  intro x hx
  exact of_decide_eq_true (List.all_eq_true.1 h x hx)
theorem dig_toNat {k : Nat} (h : k ≤ 100) : (UInt8.ofNat (48 + k)).toNat = 48 + k := by
  rw [UInt8.toNat_ofNat']
  omega
section
variable (E : Env) (L : List Res)
theorem rules_call (n : Int) (hn : -9223372036854775808 ≤ n ∧ n ≤ 9223372036854775807) : CallS Tryz.prog 45 #[.int .i64 n] E L
    (fun r E' L' => ∃ x, x ∈ rul16 ∧ r = .tuple #[.int .i64 x.1, .int .i64 x.2.1, .string (S x.2.2)] ∧ L' = L) := by
  have hjl : (n % ((16 : Nat) : Int)).toNat < rul16.length := show _ < 16 by omega
  have x1 : (strs (rul16.map rulS))[(n % ((16 : Nat) : Int)).toNat * 1]? = some (.string (S (rulS rul16[(n % ((16 : Nat) : Int)).toNat]))) := by
    rw [Nat.mul_one]
    exact strs_get (by rw [List.getElem?_map, List.getElem?_eq_getElem hjl]; rfl)
  have hmem : rul16[(n % ((16 : Nat) : Int)).toNat] ∈ rul16 := List.getElem_mem hjl
  obtain ⟨⟨s1, s2⟩, ⟨s3, s4⟩, s5⟩ := rul16_sm _ hmem
  generalize rul16[(n % ((16 : Nat) : Int)).toNat] = x at *
  obtain ⟨k, t, txt⟩ := x
  simp only at s1 s2 s3 s4 s5 x1
  have q1 := dig_toNat (k := k) (by omega)
  have q2 := dig_toNat (k := t) (by omega)
  have z0 : (rulS (k, t, txt))[(0 : Int).toNat]? = some (UInt8.ofNat (48 + k)) := rfl
  have z2 : (rulS (k, t, txt))[(2 : Int).toNat]? = some (UInt8.ofNat (48 + t)) := rfl
  have zl : (rulS (k, t, txt)).length = txt.length + 4 := rfl
  refine CallS.intro (l := [_]) _ Tryz.func45 rfl Tryz.ntmps45 rfl ?_
  refine G_seq (G_region ?_)
  refine Ga ?_
  refine Ga ?_
  refine Ga ?_
  refine G_end (X_then (G_seq (G_region ?_)))
  (refine G_lit rfl rfl (by decide) (by simp [fillS, zeros, setLs, setL, Value.cells, List.range, List.range.loop]; rfl) rfl rfl (.none rfl) ?_; intro b7)
  refine Ga ?_
  refine G_end (X_then (G_seq (G_region ?_)))
  refine Gm ?_
  refine Gm ?_
  refine Gm ?_
  refine Gv (V_lenS rfl rfl) ?_
  refine G.freezeB (k := 16) (sz := 1) (.head _ _) rfl ?_
  intro E1 hE1 hs1
  have hs2 : SlE E1 1 (some ⟨b7, 0, none⟩) 16 (strs (rul16.map rulS)) := hs1
  clear hs1
  refine G_callv (k := 14) (.mk rfl rfl rfl rfl) rfl rfl (.none rfl) (Mod_call' _ _ _ _ (by assumption) (by omega)) ?_
  refine Gv (V_idxAddr rfl rfl rfl (SlE.rd (by assumption)) (by omega) (by omega)) ?_
  refine Gv (V_loadS rfl rfl (SlE.rd (by assumption)) (by assumption) (by simp)) ?_
  refine Ga ?_
  refine G_end (X_then (G_seq ?_))
  refine G_draw mixed (by kernel_rfl) ?_
  refine Q_val (V_move rfl rfl) rfl rfl (.none rfl) ?_
  refine Q_val (V_sidx rfl rfl rfl (by omega) (by assumption)) rfl rfl (.none rfl) ?_
  refine Q_val (V_sub_u8 rfl rfl rfl (by omega) (by omega)) rfl rfl (.none rfl) ?_
  refine Q_val (V_conv_i64 rfl rfl (by omega) (by omega)) rfl rfl (.none rfl) ?_
  refine Q_val (V_move rfl rfl) rfl rfl (.none rfl) ?_
  refine Q_val (V_sidx rfl rfl rfl (by omega) (by assumption)) rfl rfl (.none rfl) ?_
  refine Q_val (V_sub_u8 rfl rfl rfl (by omega) (by omega)) rfl rfl (.none rfl) ?_
  refine Q_val (V_conv_i64 rfl rfl (by omega) (by omega)) rfl rfl (.none rfl) ?_
  refine Q_val (V_move rfl rfl) rfl rfl (.none rfl) ?_
  refine Q_val (V_back rfl rfl rfl (by omega) (by omega)) rfl rfl (.none rfl) ?_
  refine Q_val (V_assign rfl rfl) rfl rfl (.none rfl) ?_
  refine Q_val (V_assign rfl rfl) rfl rfl (.none rfl) ?_
  refine Q_val (V_assign rfl rfl) rfl rfl (.none rfl) ?_
  refine Q_end ?_
  refine X_then (G_ret ?_)
  refine G_leaveS (.nil _) (by exact (.cons (.tmp rfl) (.cons (.tmp rfl) (.cons (.tmp rfl) (.nil))))) rfl ?_ ?_
  · exact hE1
  have q3 : ((48 + k : Nat) : Int) - 48 = k := by omega
  have q4 : ((48 + t : Nat) : Int) - 48 = t := by omega
  refine ⟨_, hmem, ?_, rfl⟩
  rw [q1, q2, q3, q4]
  rfl
def tokT (base : List UInt8) : Nat → List UInt8
  | 0 => base
  | i + 1 => tokT base i ++ [44, 32] ++ [UInt8.ofNat (97 + (i + 1))]
def txtM (k t : Nat) (s : List UInt8) : List UInt8 := tokT ([108, 111, 111, 107, 97, 104, 101, 97, 100, 32] ++ [UInt8.ofNat (48 + k)] ++ [59, 32, 116, 111, 107, 101, 110, 32, 97]) (t - 1) ++ [59, 32, 115, 101, 112, 97, 114, 97, 116, 111, 114, 32, 122, 59, 32, 115, 116, 97, 114, 116, 32, 83, 59, 32] ++ s
def kitTexts : List (List UInt8) := rul16.flatMap fun x => [txtM x.1 x.2.1 x.2.2, txtM x.1 (x.2.1 + 1) x.2.2, txtM (x.1 + 1) x.2.1 x.2.2, txtM (x.1 + 1) (x.2.1 + 1) x.2.2]
theorem tokT_len (base : List UInt8) : ∀ i, (tokT base i).length = base.length + 3 * i := by
  intro i
  induction i with
  | zero => rfl
  | succ i ih => simp only [tokT, List.length_append, ih, List.length_cons, List.length_nil]; omega
def txtB (k : Nat) : List UInt8 := [108, 111, 111, 107, 97, 104, 101, 97, 100, 32] ++ [UInt8.ofNat (48 + k)] ++ [59, 32, 116, 111, 107, 101, 110, 32, 97]
theorem low_toNat {k : Nat} (h : k ≤ 100) : (UInt8.ofNat (97 + k)).toNat = 97 + k := by
  rw [UInt8.toNat_ofNat']
  omega
theorem mem16 {k t k' t' : Nat} {s : List UInt8} (h : (k, t, s) ∈ rul16) (hk : k' = k ∨ k' = k + 1) (ht : t' = t ∨ t' = t + 1) : txtM k' t' s ∈ kitTexts := by
  refine List.mem_flatMap.2 ⟨_, h, ?_⟩
  rcases hk with rfl | rfl <;> rcases ht with rfl | rfl <;> simp
theorem Text_call (n : Int) (hn : -9223372036854775808 ≤ n ∧ n ≤ 9223372036854775807) : CallS Tryz.prog 20 #[.int .i64 n] E L
    (fun r E' L' => ∃ s, s ∈ kitTexts ∧ r = .string (S s) ∧ L' = L) := by
  have hm1 := Int.emod_nonneg n (b := 1099511627776) (by omega)
  have hm2 := Int.emod_lt_of_pos n (b := 1099511627776) (by omega)
  refine CallS.intro (l := [_]) _ Tryz.func20 rfl Tryz.ntmps20 rfl ?_
  refine G_seq (G_region ?_)
  refine Ga ?_
  refine G_end (X_then (G_seq (G_region ?_)))
  refine Gm ?_
  refine G_call (k := 45) (.mk rfl rfl rfl rfl) rfl rfl (.none rfl) (rules_call _ _ n hn) ?_
  rintro q1 E1 L1 hE1 ⟨⟨k, t, txt⟩, hmem, rfl, rfl⟩
  obtain ⟨⟨s1, s2⟩, ⟨s3, s4⟩, s5⟩ := rul16_sm _ hmem
  simp only at s1 s2 s3 s4 s5 ⊢
  refine Gm ?_
  refine Gv (V_extract rfl rfl rfl) ?_
  refine Gv (V_extract rfl rfl rfl) ?_
  refine Gv (V_extract rfl rfl rfl) ?_
  refine Ga ?_
  refine Ga ?_
  refine Ga ?_
  refine G_end (X_then (G_seq (G_region ?_)))
  refine Gm ?_
  refine G_callv (k := 14) (.mk rfl rfl rfl rfl) rfl rfl (.none rfl) (Mod_call' _ _ _ _ (by assumption) (by omega)) ?_
  refine Gv (V_quo_n rfl rfl rfl (by omega) (by omega) (by simp [IntKind.max, IntKind.signed, IntKind.bits]; omega)) ?_
  refine Ga ?_
  refine G_end (X_then (G_seq (G_seq (G_region ?_))))
  refine Gm ?_
  refine Gv (V_rem_n rfl rfl rfl (by omega) (by omega)) ?_
  refine Gv (V_eql rfl rfl rfl) ?_
  refine Gm ?_
  apply G_joinAnd 3 21 24 rfl
  · intro H1
    dsimp only [List.take]
    simp only [Bool.and_eq_true, Bool.or_eq_true, Bool.not_eq_true', Bool.not_eq_false', Bool.and_eq_false_iff, Bool.or_eq_false_iff, Bool.not_not, decide_eq_true_eq, decide_eq_false_iff_not, ne_eq, Decidable.not_not, Bool.decide_eq_true] at H1
    refine Gy (V_move rfl rfl) ?_
    refine Gy (V_lss rfl rfl rfl) ?_
    refine Gv (V_pick_t rfl rfl rfl) ?_
    refine G_end ?_
    exact JQ_end 3 rfl rfl (by kernel_rfl)
  · intro H2
    dsimp only [List.take]
    simp only [Bool.and_eq_true, Bool.or_eq_true, Bool.not_eq_true', Bool.not_eq_false', Bool.and_eq_false_iff, Bool.or_eq_false_iff, Bool.not_not, decide_eq_true_eq, decide_eq_false_iff_not, ne_eq, Decidable.not_not, Bool.decide_eq_true] at H2
    refine Gn ?_
    refine Gn ?_
    refine Gv (V_pick_f rfl rfl rfl) ?_
    refine G_end ?_
    exact JQ_end 3 rfl rfl (by kernel_rfl)
  dsimp only [List.drop]
  refine G_end (X_then ?_)
  refine G.bool 24 rfl (fun h1 => ?_) (fun h1 => ?_)
  · refine G_cond_t rfl rfl ?_
    refine G_region ?_
    refine Gm ?_
    refine Gv (V_add_i64 rfl rfl rfl (by omega) (by omega)) ?_
    refine Ga ?_
    refine G_end (X_then (G_seq (G_seq (G_region ?_))))
    refine Gm ?_
    refine Gv (V_quo_n rfl rfl rfl (by omega) (by omega) (by simp [IntKind.max, IntKind.signed, IntKind.bits]; omega)) ?_
    refine Gv (V_rem_n rfl rfl rfl (by omega) (by omega)) ?_
    refine Gv (V_eql rfl rfl rfl) ?_
    refine Gm ?_
    apply G_joinAnd 3 31 34 rfl
    · intro H1
      dsimp only [List.take]
      simp only [Bool.and_eq_true, Bool.or_eq_true, Bool.not_eq_true', Bool.not_eq_false', Bool.and_eq_false_iff, Bool.or_eq_false_iff, Bool.not_not, decide_eq_true_eq, decide_eq_false_iff_not, ne_eq, Decidable.not_not, Bool.decide_eq_true] at H1
      refine Gy (V_move rfl rfl) ?_
      refine Gy (V_lss rfl rfl rfl) ?_
      refine Gv (V_pick_t rfl rfl rfl) ?_
      refine G_end ?_
      exact JQ_end 3 rfl rfl (by kernel_rfl)
    · intro H2
      dsimp only [List.take]
      simp only [Bool.and_eq_true, Bool.or_eq_true, Bool.not_eq_true', Bool.not_eq_false', Bool.and_eq_false_iff, Bool.or_eq_false_iff, Bool.not_not, decide_eq_true_eq, decide_eq_false_iff_not, ne_eq, Decidable.not_not, Bool.decide_eq_true] at H2
      refine Gn ?_
      refine Gn ?_
      refine Gv (V_pick_f rfl rfl rfl) ?_
      refine G_end ?_
      exact JQ_end 3 rfl rfl (by kernel_rfl)
    dsimp only [List.drop]
    refine G_end (X_then ?_)
    refine G.bool 34 rfl (fun h2 => ?_) (fun h2 => ?_)
    · simp only [Bool.and_eq_true, decide_eq_true_eq, Bool.and_eq_false_iff, decide_eq_false_iff_not] at h1 h2
      refine G_cond_t rfl rfl ?_
      refine G_region ?_
      refine Gm ?_
      refine Gv (V_add_i64 rfl rfl rfl (by omega) (by omega)) ?_
      refine Ga ?_
      refine G_end (X_then (G_seq (G_region ?_)))
      refine Gm ?_
      refine Gv (V_add_i64 rfl rfl rfl (by omega) (by omega)) ?_
      refine Gv (V_conv_u8 rfl rfl (by omega) (by omega)) ?_
      (refine G_lit1 rfl rfl rfl rfl rfl (.none rfl) ?_; intro b40)
      refine G.freeze (.head _ _) ?_
      intro E2 hE2 hok2
      have hbs : SlE E2 1 (some ⟨b40, 0, none⟩) 1 ([UInt8.ofNat (48 + (k + 1))].map fun b => .int .u8 b.toNat) := by
        rw [List.map_cons, List.map_nil, dig_toNat (by omega)]; exact SlE.lit hok2 rfl
      have c1 : ([108, 111, 111, 107, 97, 104, 101, 97, 100, 32] : List UInt8).length = 10 := rfl
      have c2 : [UInt8.ofNat (48 + (k + 1))].length = 1 := rfl
      have c3 : ([59, 32, 116, 111, 107, 101, 110, 32, 97] : List UInt8).length = 9 := rfl
      refine Gv (V_b2s rfl rfl (SlE.rd (by assumption))) ?_
      refine Gv (V_cat rfl rfl rfl (by omega)) ?_
      refine Gv (V_cat rfl rfl rfl (by simp only [List.length_append]; omega)) ?_
      refine Ga ?_
      refine G_end (X_then (G_seq (G_seq (G_region ?_))))
      refine Ga ?_
      refine G_end (X_then (G_block ?_))
      refine G_loop (α := Nat × Env) (fun x => [(4, .int .i64 ((t + 1) : Nat)), (5, .string (S txt)), (7, .string (S (tokT (txtB (k + 1)) x.1))), (8, .int .i64 (x.1 + 1 : Nat))]) (fun x => x.2) (fun _ => L1) (fun x => E2.Le x.2 ∧ x.1 + 1 ≤ (t + 1)) (fun x => (t + 1) - x.1) (0, E2) ⟨.refl _, by omega⟩ ⟨rfl, rfl, rfl, rfl, trivial⟩ rfl rfl ?_
      rintro ⟨i, E3⟩ ⟨hE3, hi⟩
      simp only at hE3 hi ⊢
      have hlen := tokT_len (txtB (k + 1)) i
      have hlb : (txtB (k + 1)).length = 20 := rfl
      have c4 : ([44, 32] : List UInt8).length = 2 := rfl
      have c5 : [UInt8.ofNat (97 + (i + 1))].length = 1 := rfl
      have c6 : ([59, 32, 115, 101, 112, 97, 114, 97, 116, 111, 114, 32, 122, 59, 32, 115, 116, 97, 114, 116, 32, 83, 59, 32] : List UInt8).length = 24 := rfl
      by_cases hlt : i + 1 < (t + 1)
      · refine G_seq ?_
        refine G_seq (G_region ?_)
        refine Gm ?_
        refine Gm ?_
        refine Gv (V_lss rfl rfl rfl) ?_
        refine G_end (X_then ?_)
        refine G_cond_t rfl (decide_eq_true (by omega)) ?_
        refine G_skip (X_then (G_seq (G_block (G_region ?_))))
        refine Gm ?_
        refine Gv (V_cat rfl rfl rfl (by simp; omega)) ?_
        refine Gm ?_
        refine Gv (V_add_i64 rfl rfl rfl (by omega) (by omega)) ?_
        refine Gv (V_conv_u8 rfl rfl (by omega) (by omega)) ?_
        (refine G_lit1 rfl rfl rfl rfl rfl (.none rfl) ?_; intro b54)
        refine G.freeze (.head _ _) ?_
        intro E4 hE4 hok4
        have hbs4 : SlE E4 1 (some ⟨b54, 0, none⟩) 1 ([UInt8.ofNat (97 + (i + 1))].map fun b => .int .u8 b.toNat) := by
          rw [List.map_cons, List.map_nil, low_toNat (by omega)]; exact SlE.lit hok4 rfl
        refine Gv (V_b2s rfl rfl (SlE.rd (by assumption))) ?_
        refine Gv (V_cat rfl rfl rfl (by simp; omega)) ?_
        refine Ga ?_
        refine G_end (X_block (X_then (G_region ?_)))
        refine Gm ?_
        refine Gv (V_add_i64 rfl rfl rfl (by omega) (by omega)) ?_
        refine Ga ?_
        refine G_end (X_then ?_)
        exact G_again (i + 1, E4) ⟨hE3.trans hE4, hlt⟩ (by simp only; omega) ⟨rfl, rfl, rfl, rfl, trivial⟩ rfl rfl
      · have hi1 : i = (t + 1) - 1 := by omega
        refine G_seq (G_seq (G_region ?_))
        refine Gm ?_
        refine Gm ?_
        refine Gv (V_lss rfl rfl rfl) ?_
        refine G_end (X_then ?_)
        refine G_cond_f rfl (decide_eq_false (by omega)) ?_
        refine G_exit (X_then_exit (X_then_exit (X_block_hit (X_then (G_seq (G_region ?_))))))
        refine Gm ?_
        refine Gv (V_cat rfl rfl rfl (by simp; omega)) ?_
        refine Gm ?_
        refine Gv (V_cat rfl rfl rfl (by simp; omega)) ?_
        refine Ga ?_
        refine G_end (X_then (G_ret ?_))
        refine G_leaveS (.nil _) (by exact (.cons (.tmp rfl) (.nil))) rfl ?_ ?_
        · exact ((hE1.trans hE2).trans hE3)
        exact ⟨txtM (k + 1) (t + 1) txt, mem16 hmem (by omega) (by omega), by rw [txtM, ← hi1]; rfl, rfl⟩
    · simp only [Bool.and_eq_true, decide_eq_true_eq, Bool.and_eq_false_iff, decide_eq_false_iff_not] at h1 h2
      refine G_cond_f rfl rfl ?_
      refine G_skip (X_then (G_seq (G_region ?_)))
      refine Gm ?_
      refine Gv (V_add_i64 rfl rfl rfl (by omega) (by omega)) ?_
      refine Gv (V_conv_u8 rfl rfl (by omega) (by omega)) ?_
      (refine G_lit1 rfl rfl rfl rfl rfl (.none rfl) ?_; intro b40)
      refine G.freeze (.head _ _) ?_
      intro E2 hE2 hok2
      have hbs : SlE E2 1 (some ⟨b40, 0, none⟩) 1 ([UInt8.ofNat (48 + (k + 1))].map fun b => .int .u8 b.toNat) := by
        rw [List.map_cons, List.map_nil, dig_toNat (by omega)]; exact SlE.lit hok2 rfl
      have c1 : ([108, 111, 111, 107, 97, 104, 101, 97, 100, 32] : List UInt8).length = 10 := rfl
      have c2 : [UInt8.ofNat (48 + (k + 1))].length = 1 := rfl
      have c3 : ([59, 32, 116, 111, 107, 101, 110, 32, 97] : List UInt8).length = 9 := rfl
      refine Gv (V_b2s rfl rfl (SlE.rd (by assumption))) ?_
      refine Gv (V_cat rfl rfl rfl (by omega)) ?_
      refine Gv (V_cat rfl rfl rfl (by simp only [List.length_append]; omega)) ?_
      refine Ga ?_
      refine G_end (X_then (G_seq (G_seq (G_region ?_))))
      refine Ga ?_
      refine G_end (X_then (G_block ?_))
      refine G_loop (α := Nat × Env) (fun x => [(4, .int .i64 (t : Nat)), (5, .string (S txt)), (7, .string (S (tokT (txtB (k + 1)) x.1))), (8, .int .i64 (x.1 + 1 : Nat))]) (fun x => x.2) (fun _ => L1) (fun x => E2.Le x.2 ∧ x.1 + 1 ≤ t) (fun x => t - x.1) (0, E2) ⟨.refl _, by omega⟩ ⟨rfl, rfl, rfl, rfl, trivial⟩ rfl rfl ?_
      rintro ⟨i, E3⟩ ⟨hE3, hi⟩
      simp only at hE3 hi ⊢
      have hlen := tokT_len (txtB (k + 1)) i
      have hlb : (txtB (k + 1)).length = 20 := rfl
      have c4 : ([44, 32] : List UInt8).length = 2 := rfl
      have c5 : [UInt8.ofNat (97 + (i + 1))].length = 1 := rfl
      have c6 : ([59, 32, 115, 101, 112, 97, 114, 97, 116, 111, 114, 32, 122, 59, 32, 115, 116, 97, 114, 116, 32, 83, 59, 32] : List UInt8).length = 24 := rfl
      by_cases hlt : i + 1 < t
      · refine G_seq ?_
        refine G_seq (G_region ?_)
        refine Gm ?_
        refine Gm ?_
        refine Gv (V_lss rfl rfl rfl) ?_
        refine G_end (X_then ?_)
        refine G_cond_t rfl (decide_eq_true (by omega)) ?_
        refine G_skip (X_then (G_seq (G_block (G_region ?_))))
        refine Gm ?_
        refine Gv (V_cat rfl rfl rfl (by simp; omega)) ?_
        refine Gm ?_
        refine Gv (V_add_i64 rfl rfl rfl (by omega) (by omega)) ?_
        refine Gv (V_conv_u8 rfl rfl (by omega) (by omega)) ?_
        (refine G_lit1 rfl rfl rfl rfl rfl (.none rfl) ?_; intro b54)
        refine G.freeze (.head _ _) ?_
        intro E4 hE4 hok4
        have hbs4 : SlE E4 1 (some ⟨b54, 0, none⟩) 1 ([UInt8.ofNat (97 + (i + 1))].map fun b => .int .u8 b.toNat) := by
          rw [List.map_cons, List.map_nil, low_toNat (by omega)]; exact SlE.lit hok4 rfl
        refine Gv (V_b2s rfl rfl (SlE.rd (by assumption))) ?_
        refine Gv (V_cat rfl rfl rfl (by simp; omega)) ?_
        refine Ga ?_
        refine G_end (X_block (X_then (G_region ?_)))
        refine Gm ?_
        refine Gv (V_add_i64 rfl rfl rfl (by omega) (by omega)) ?_
        refine Ga ?_
        refine G_end (X_then ?_)
        exact G_again (i + 1, E4) ⟨hE3.trans hE4, hlt⟩ (by simp only; omega) ⟨rfl, rfl, rfl, rfl, trivial⟩ rfl rfl
      · have hi1 : i = t - 1 := by omega
        refine G_seq (G_seq (G_region ?_))
        refine Gm ?_
        refine Gm ?_
        refine Gv (V_lss rfl rfl rfl) ?_
        refine G_end (X_then ?_)
        refine G_cond_f rfl (decide_eq_false (by omega)) ?_
        refine G_exit (X_then_exit (X_then_exit (X_block_hit (X_then (G_seq (G_region ?_))))))
        refine Gm ?_
        refine Gv (V_cat rfl rfl rfl (by simp; omega)) ?_
        refine Gm ?_
        refine Gv (V_cat rfl rfl rfl (by simp; omega)) ?_
        refine Ga ?_
        refine G_end (X_then (G_ret ?_))
        refine G_leaveS (.nil _) (by exact (.cons (.tmp rfl) (.nil))) rfl ?_ ?_
        · exact ((hE1.trans hE2).trans hE3)
        exact ⟨txtM (k + 1) t txt, mem16 hmem (by omega) (by omega), by rw [txtM, ← hi1]; rfl, rfl⟩
  · refine G_cond_f rfl rfl ?_
    refine G_skip (X_then (G_seq (G_seq (G_region ?_))))
    refine Gm ?_
    refine Gv (V_quo_n rfl rfl rfl (by omega) (by omega) (by simp [IntKind.max, IntKind.signed, IntKind.bits]; omega)) ?_
    refine Gv (V_rem_n rfl rfl rfl (by omega) (by omega)) ?_
    refine Gv (V_eql rfl rfl rfl) ?_
    refine Gm ?_
    apply G_joinAnd 3 31 34 rfl
    · intro H1
      dsimp only [List.take]
      simp only [Bool.and_eq_true, Bool.or_eq_true, Bool.not_eq_true', Bool.not_eq_false', Bool.and_eq_false_iff, Bool.or_eq_false_iff, Bool.not_not, decide_eq_true_eq, decide_eq_false_iff_not, ne_eq, Decidable.not_not, Bool.decide_eq_true] at H1
      refine Gy (V_move rfl rfl) ?_
      refine Gy (V_lss rfl rfl rfl) ?_
      refine Gv (V_pick_t rfl rfl rfl) ?_
      refine G_end ?_
      exact JQ_end 3 rfl rfl (by kernel_rfl)
    · intro H2
      dsimp only [List.take]
      simp only [Bool.and_eq_true, Bool.or_eq_true, Bool.not_eq_true', Bool.not_eq_false', Bool.and_eq_false_iff, Bool.or_eq_false_iff, Bool.not_not, decide_eq_true_eq, decide_eq_false_iff_not, ne_eq, Decidable.not_not, Bool.decide_eq_true] at H2
      refine Gn ?_
      refine Gn ?_
      refine Gv (V_pick_f rfl rfl rfl) ?_
      refine G_end ?_
      exact JQ_end 3 rfl rfl (by kernel_rfl)
    dsimp only [List.drop]
    refine G_end (X_then ?_)
    refine G.bool 34 rfl (fun h2 => ?_) (fun h2 => ?_)
    · simp only [Bool.and_eq_true, decide_eq_true_eq, Bool.and_eq_false_iff, decide_eq_false_iff_not] at h1 h2
      refine G_cond_t rfl rfl ?_
      refine G_region ?_
      refine Gm ?_
      refine Gv (V_add_i64 rfl rfl rfl (by omega) (by omega)) ?_
      refine Ga ?_
      refine G_end (X_then (G_seq (G_region ?_)))
      refine Gm ?_
      refine Gv (V_add_i64 rfl rfl rfl (by omega) (by omega)) ?_
      refine Gv (V_conv_u8 rfl rfl (by omega) (by omega)) ?_
      (refine G_lit1 rfl rfl rfl rfl rfl (.none rfl) ?_; intro b40)
      refine G.freeze (.head _ _) ?_
      intro E2 hE2 hok2
      have hbs : SlE E2 1 (some ⟨b40, 0, none⟩) 1 ([UInt8.ofNat (48 + k)].map fun b => .int .u8 b.toNat) := by
        rw [List.map_cons, List.map_nil, dig_toNat (by omega)]; exact SlE.lit hok2 rfl
      have c1 : ([108, 111, 111, 107, 97, 104, 101, 97, 100, 32] : List UInt8).length = 10 := rfl
      have c2 : [UInt8.ofNat (48 + k)].length = 1 := rfl
      have c3 : ([59, 32, 116, 111, 107, 101, 110, 32, 97] : List UInt8).length = 9 := rfl
      refine Gv (V_b2s rfl rfl (SlE.rd (by assumption))) ?_
      refine Gv (V_cat rfl rfl rfl (by omega)) ?_
      refine Gv (V_cat rfl rfl rfl (by simp only [List.length_append]; omega)) ?_
      refine Ga ?_
      refine G_end (X_then (G_seq (G_seq (G_region ?_))))
      refine Ga ?_
      refine G_end (X_then (G_block ?_))
      refine G_loop (α := Nat × Env) (fun x => [(4, .int .i64 ((t + 1) : Nat)), (5, .string (S txt)), (7, .string (S (tokT (txtB k) x.1))), (8, .int .i64 (x.1 + 1 : Nat))]) (fun x => x.2) (fun _ => L1) (fun x => E2.Le x.2 ∧ x.1 + 1 ≤ (t + 1)) (fun x => (t + 1) - x.1) (0, E2) ⟨.refl _, by omega⟩ ⟨rfl, rfl, rfl, rfl, trivial⟩ rfl rfl ?_
      rintro ⟨i, E3⟩ ⟨hE3, hi⟩
      simp only at hE3 hi ⊢
      have hlen := tokT_len (txtB k) i
      have hlb : (txtB k).length = 20 := rfl
      have c4 : ([44, 32] : List UInt8).length = 2 := rfl
      have c5 : [UInt8.ofNat (97 + (i + 1))].length = 1 := rfl
      have c6 : ([59, 32, 115, 101, 112, 97, 114, 97, 116, 111, 114, 32, 122, 59, 32, 115, 116, 97, 114, 116, 32, 83, 59, 32] : List UInt8).length = 24 := rfl
      by_cases hlt : i + 1 < (t + 1)
      · refine G_seq ?_
        refine G_seq (G_region ?_)
        refine Gm ?_
        refine Gm ?_
        refine Gv (V_lss rfl rfl rfl) ?_
        refine G_end (X_then ?_)
        refine G_cond_t rfl (decide_eq_true (by omega)) ?_
        refine G_skip (X_then (G_seq (G_block (G_region ?_))))
        refine Gm ?_
        refine Gv (V_cat rfl rfl rfl (by simp; omega)) ?_
        refine Gm ?_
        refine Gv (V_add_i64 rfl rfl rfl (by omega) (by omega)) ?_
        refine Gv (V_conv_u8 rfl rfl (by omega) (by omega)) ?_
        (refine G_lit1 rfl rfl rfl rfl rfl (.none rfl) ?_; intro b54)
        refine G.freeze (.head _ _) ?_
        intro E4 hE4 hok4
        have hbs4 : SlE E4 1 (some ⟨b54, 0, none⟩) 1 ([UInt8.ofNat (97 + (i + 1))].map fun b => .int .u8 b.toNat) := by
          rw [List.map_cons, List.map_nil, low_toNat (by omega)]; exact SlE.lit hok4 rfl
        refine Gv (V_b2s rfl rfl (SlE.rd (by assumption))) ?_
        refine Gv (V_cat rfl rfl rfl (by simp; omega)) ?_
        refine Ga ?_
        refine G_end (X_block (X_then (G_region ?_)))
        refine Gm ?_
        refine Gv (V_add_i64 rfl rfl rfl (by omega) (by omega)) ?_
        refine Ga ?_
        refine G_end (X_then ?_)
        exact G_again (i + 1, E4) ⟨hE3.trans hE4, hlt⟩ (by simp only; omega) ⟨rfl, rfl, rfl, rfl, trivial⟩ rfl rfl
      · have hi1 : i = (t + 1) - 1 := by omega
        refine G_seq (G_seq (G_region ?_))
        refine Gm ?_
        refine Gm ?_
        refine Gv (V_lss rfl rfl rfl) ?_
        refine G_end (X_then ?_)
        refine G_cond_f rfl (decide_eq_false (by omega)) ?_
        refine G_exit (X_then_exit (X_then_exit (X_block_hit (X_then (G_seq (G_region ?_))))))
        refine Gm ?_
        refine Gv (V_cat rfl rfl rfl (by simp; omega)) ?_
        refine Gm ?_
        refine Gv (V_cat rfl rfl rfl (by simp; omega)) ?_
        refine Ga ?_
        refine G_end (X_then (G_ret ?_))
        refine G_leaveS (.nil _) (by exact (.cons (.tmp rfl) (.nil))) rfl ?_ ?_
        · exact ((hE1.trans hE2).trans hE3)
        exact ⟨txtM k (t + 1) txt, mem16 hmem (by omega) (by omega), by rw [txtM, ← hi1]; rfl, rfl⟩
    · simp only [Bool.and_eq_true, decide_eq_true_eq, Bool.and_eq_false_iff, decide_eq_false_iff_not] at h1 h2
      refine G_cond_f rfl rfl ?_
      refine G_skip (X_then (G_seq (G_region ?_)))
      refine Gm ?_
      refine Gv (V_add_i64 rfl rfl rfl (by omega) (by omega)) ?_
      refine Gv (V_conv_u8 rfl rfl (by omega) (by omega)) ?_
      (refine G_lit1 rfl rfl rfl rfl rfl (.none rfl) ?_; intro b40)
      refine G.freeze (.head _ _) ?_
      intro E2 hE2 hok2
      have hbs : SlE E2 1 (some ⟨b40, 0, none⟩) 1 ([UInt8.ofNat (48 + k)].map fun b => .int .u8 b.toNat) := by
        rw [List.map_cons, List.map_nil, dig_toNat (by omega)]; exact SlE.lit hok2 rfl
      have c1 : ([108, 111, 111, 107, 97, 104, 101, 97, 100, 32] : List UInt8).length = 10 := rfl
      have c2 : [UInt8.ofNat (48 + k)].length = 1 := rfl
      have c3 : ([59, 32, 116, 111, 107, 101, 110, 32, 97] : List UInt8).length = 9 := rfl
      refine Gv (V_b2s rfl rfl (SlE.rd (by assumption))) ?_
      refine Gv (V_cat rfl rfl rfl (by omega)) ?_
      refine Gv (V_cat rfl rfl rfl (by simp only [List.length_append]; omega)) ?_
      refine Ga ?_
      refine G_end (X_then (G_seq (G_seq (G_region ?_))))
      refine Ga ?_
      refine G_end (X_then (G_block ?_))
      refine G_loop (α := Nat × Env) (fun x => [(4, .int .i64 (t : Nat)), (5, .string (S txt)), (7, .string (S (tokT (txtB k) x.1))), (8, .int .i64 (x.1 + 1 : Nat))]) (fun x => x.2) (fun _ => L1) (fun x => E2.Le x.2 ∧ x.1 + 1 ≤ t) (fun x => t - x.1) (0, E2) ⟨.refl _, by omega⟩ ⟨rfl, rfl, rfl, rfl, trivial⟩ rfl rfl ?_
      rintro ⟨i, E3⟩ ⟨hE3, hi⟩
      simp only at hE3 hi ⊢
      have hlen := tokT_len (txtB k) i
      have hlb : (txtB k).length = 20 := rfl
      have c4 : ([44, 32] : List UInt8).length = 2 := rfl
      have c5 : [UInt8.ofNat (97 + (i + 1))].length = 1 := rfl
      have c6 : ([59, 32, 115, 101, 112, 97, 114, 97, 116, 111, 114, 32, 122, 59, 32, 115, 116, 97, 114, 116, 32, 83, 59, 32] : List UInt8).length = 24 := rfl
      by_cases hlt : i + 1 < t
      · refine G_seq ?_
        refine G_seq (G_region ?_)
        refine Gm ?_
        refine Gm ?_
        refine Gv (V_lss rfl rfl rfl) ?_
        refine G_end (X_then ?_)
        refine G_cond_t rfl (decide_eq_true (by omega)) ?_
        refine G_skip (X_then (G_seq (G_block (G_region ?_))))
        refine Gm ?_
        refine Gv (V_cat rfl rfl rfl (by simp; omega)) ?_
        refine Gm ?_
        refine Gv (V_add_i64 rfl rfl rfl (by omega) (by omega)) ?_
        refine Gv (V_conv_u8 rfl rfl (by omega) (by omega)) ?_
        (refine G_lit1 rfl rfl rfl rfl rfl (.none rfl) ?_; intro b54)
        refine G.freeze (.head _ _) ?_
        intro E4 hE4 hok4
        have hbs4 : SlE E4 1 (some ⟨b54, 0, none⟩) 1 ([UInt8.ofNat (97 + (i + 1))].map fun b => .int .u8 b.toNat) := by
          rw [List.map_cons, List.map_nil, low_toNat (by omega)]; exact SlE.lit hok4 rfl
        refine Gv (V_b2s rfl rfl (SlE.rd (by assumption))) ?_
        refine Gv (V_cat rfl rfl rfl (by simp; omega)) ?_
        refine Ga ?_
        refine G_end (X_block (X_then (G_region ?_)))
        refine Gm ?_
        refine Gv (V_add_i64 rfl rfl rfl (by omega) (by omega)) ?_
        refine Ga ?_
        refine G_end (X_then ?_)
        exact G_again (i + 1, E4) ⟨hE3.trans hE4, hlt⟩ (by simp only; omega) ⟨rfl, rfl, rfl, rfl, trivial⟩ rfl rfl
      · have hi1 : i = t - 1 := by omega
        refine G_seq (G_seq (G_region ?_))
        refine Gm ?_
        refine Gm ?_
        refine Gv (V_lss rfl rfl rfl) ?_
        refine G_end (X_then ?_)
        refine G_cond_f rfl (decide_eq_false (by omega)) ?_
        refine G_exit (X_then_exit (X_then_exit (X_block_hit (X_then (G_seq (G_region ?_))))))
        refine Gm ?_
        refine Gv (V_cat rfl rfl rfl (by simp; omega)) ?_
        refine Gm ?_
        refine Gv (V_cat rfl rfl rfl (by simp; omega)) ?_
        refine Ga ?_
        refine G_end (X_then (G_ret ?_))
        refine G_leaveS (.nil _) (by exact (.cons (.tmp rfl) (.nil))) rfl ?_ ?_
        · exact ((hE1.trans hE2).trans hE3)
        exact ⟨txtM k t txt, mem16 hmem (by omega) (by omega), by rw [txtM, ← hi1]; rfl, rfl⟩
end
end Go.Proofs.YtimiokmgnclggaaGreat
set_option linter.unusedSimpArgs false
set_option linter.unusedVariables false
set_option maxHeartbeats 2000000
set_option maxRecDepth 20000
namespace Go.Proofs.YtimiokmgnclggaaGreat
open Go.RowKit
/-! The kit's grammars. -/
def txtOk (s : List UInt8) : Bool :=
  match lexF 1000 s 0 with
  | some l => decide (s.length ≤ 2000) && noRem s && decide (l.length ≤ 1000000) && (match srcF l with
    | some src => srcGB src && decide (gcheck (grM src) = 0) && lightB (grM src)
    | none => false)
  | none => false
theorem kit_ok : kitTexts.all txtOk = true := by kernel_rfl
structure TextOk (s : List UInt8) : Prop where
  p : ∃ l src, lexF 1000 s 0 = some l ∧ s.length ≤ 2000 ∧ noRem s = true ∧ l.length ≤ 1000000 ∧ srcF l = some src ∧ SrcGood src ∧ gcheck (grM src) = 0 ∧ Light (grM src)
theorem txt_ok {s : List UInt8} (h : s ∈ kitTexts) : TextOk s := by
  have h := List.all_eq_true.1 kit_ok s h
  unfold txtOk at h
  split at h
  · rename_i l hl
    split at h
    · rename_i src hs
      simp only [Bool.and_eq_true, decide_eq_true_eq] at h
      obtain ⟨⟨⟨h1, h2⟩, h3⟩, ⟨h4, h5⟩, h6⟩ := h
      exact ⟨l, src, hl, h1, h2, h3, hs, srcGB_ok h4, h5, lightB_iff.1 h6⟩
    · simp at h
  · cases h
section
variable (E : Env) (L : List Res)
theorem KGrammar_call (n : Int) (hn : -9223372036854775808 ≤ n ∧ n ≤ 9223372036854775807) : CallS Tryz.prog 6 #[.int .i64 n] E L
    (fun r E' L' => ∃ g, GrE E' r g ∧ gcheck g = 0 ∧ Light g ∧ L' = L) := by
  refine CallS.intro (l := [_]) _ Tryz.func6 rfl Tryz.ntmps6 rfl ?_
  refine G_seq (G_region ?_)
  (refine G_alloc rfl rfl rfl (.none rfl) ?_; intro b2)
  refine G_end (X_then (G_seq (G_region ?_)))
  refine Gm ?_
  refine G_call (k := 20) (.mk rfl rfl rfl rfl) rfl rfl (.none rfl) (Text_call _ _ n hn) ?_
  rintro q1 E1 L1 hE1 ⟨s, hs, rfl, rfl⟩
  obtain ⟨l, src, t1, t2, t3, t4, t5, t6, t7, t8⟩ := (txt_ok hs).p
  skip
  refine G_call (k := 19) (.mk rfl rfl rfl rfl) rfl rfl (.none rfl) (Parse8_call E1 _ s l 1000 (by omega) t1 t2 t3 src t5 t4) ?_
  rintro q2 E2 L2 hE2 ⟨v, rfl, hv, rfl⟩
  have hv0 := hv
  obtain ⟨tp, tc, rp, rc, rows, rfl, v1, v2, v3, v4⟩ := hv0
  refine Gm ?_
  refine Gv (V_extract rfl rfl rfl) ?_
  refine Gv (V_extract rfl rfl rfl) ?_
  (refine G_alloc rfl rfl rfl (.none rfl) ?_; intro b3)
  (refine G_alloc rfl rfl rfl (.none rfl) ?_; intro b4)
  refine G_storeA rfl rfl rfl rfl (by simp [Value.oneCell']) rfl (.none rfl) (.tail _ (.head _ _ _)) rfl ?_
  refine G_storeA rfl rfl rfl rfl (by simp [Value.oneCell']) rfl (.none rfl) (.head _ _ _) rfl ?_
  refine G_end (X_then (G_seq (G_region ?_)))
  refine Gv (V_loadA rfl rfl (Cells.own (.tail _ (.head _))) rfl) ?_
  refine G_call (k := 21) (.mk rfl rfl rfl rfl) rfl rfl (.none rfl) (Of9_call E2 _ src t6 tp tc rp rc rows v1 v2 v3 v4) ?_
  rintro q3 E3 L3 hE3 ⟨v5, rfl, hv5, rfl⟩
  obtain ⟨tp, tc, np, nc, pp, pc, rfl, w⟩ := hv5
  have hfin : GrE E3 (.agg #[.int .i64 (grM src).k, .slice tp (grM src).toks.length tc, .string (S (grM src).sep), .slice np (grM src).names.length nc, .int .i64 (grM src).start, .slice pp (grM src).prods.length pc]) (grM src) := ⟨tp, tc, np, nc, pp, pc, rfl, w⟩
  refine Gm ?_
  refine Gv (V_extract rfl rfl rfl) ?_
  refine Gv (V_extract rfl rfl rfl) ?_
  (refine G_alloc rfl rfl rfl (.none rfl) ?_; intro b5)
  refine G_storeA rfl rfl rfl rfl (by simp [Value.oneCell']) rfl (.none rfl) (.head _ _ _) rfl ?_
  refine Ga ?_
  refine G_end (X_then (G_seq (G_region ?_)))
  refine Gv (V_loadA rfl rfl (Cells.own (.head _)) rfl) ?_
  refine G_storeA rfl rfl rfl rfl (by simp [Value.oneCell']) rfl (.none rfl) (.tail _ (.tail _ (.tail _ (.head _ _ _)))) rfl ?_
  refine G_end (X_then (G_ret ?_))
  refine G_leaveS (.drop _ (.drop _ (.drop _ (.drop _ (.nil _))))) (by exact (.cons (.cellA rfl (Cells.own (.tail _ (.tail _ (.tail _ (.head _))))) rfl) (.nil))) rfl ?_ ?_
  · exact ((hE1.trans hE2).trans hE3)
  exact ⟨_, ⟨(by assumption), ⟨(by (simp [resVal, *]; done)), ⟨(by assumption), (by rfl)⟩⟩⟩⟩
end
end Go.Proofs.YtimiokmgnclggaaGreat
set_option linter.unusedSimpArgs false
set_option linter.unusedVariables false
set_option maxHeartbeats 2000000
set_option maxRecDepth 20000
namespace Go.Proofs.YtimiokmgnclggaaGreat
open Go.RowKit
/-! The law ConfigMoves. -/
section
variable (E : Env) (L : List Res)
theorem ConfigMoves_call (n : Int) (p : Option Addr) (c : Nat) (xs : List Int) (rec by' : Int) (hn : -9223372036854775808 ≤ n ∧ n ≤ 9223372036854775807) (hx : SlE E 1 p xs.length (i64s xs)) (hxn : xs.length ≤ 9223372036854775807) (hxb : ∀ n, n ∈ xs → -9223372036854775808 ≤ n ∧ n ≤ 9223372036854775807)
    (hr : -9223372036854775808 ≤ rec ∧ rec ≤ 9223372036854775807) (hb : -9223372036854775808 ≤ by' ∧ by' ≤ 9223372036854775807) :
    CallS Tryz.prog 4 #[.int .i64 n, .slice p xs.length c, .int .i64 rec, .int .i64 by'] E L (fun r E' L' => r = .bool true ∧ L' = L) := by
  have r1 := Int.emod_nonneg rec (b := 1099511627777) (by omega)
  have r2 := Int.emod_lt_of_pos rec (b := 1099511627777) (by omega)
  have k1 := Int.emod_nonneg by' (b := 1073741824) (by omega)
  have k2 := Int.emod_lt_of_pos by' (b := 1073741824) (by omega)
  have m1 := fun E0 L0 => Mod_call' E0 L0 rec 1099511627777 hr (by omega)
  have m2 := fun E0 L0 => Mod_call' E0 L0 by' 1073741824 hb (by omega)
  refine CallS.intro (l := [_, _, _, _]) _ Tryz.func4 rfl Tryz.ntmps4 rfl ?_
  refine G_seq (G_region ?_)
  refine Ga ?_
  refine G_end (X_then (G_seq (G_region ?_)))
  refine Gm ?_
  refine G_call (k := 6) (.mk rfl rfl rfl rfl) rfl rfl (.none rfl) (KGrammar_call _ _ n hn) ?_
  rintro x1 E1 L1 hE1 ⟨g, hg, h0, hl, rfl⟩
  have hx1 := hx.mono hE1
  have hg0 := hg
  obtain ⟨gp, gc, np, nc, pp, pc, rfl, _⟩ := hg0
  (refine G_alloc rfl rfl rfl (.none rfl) ?_; intro b9)
  refine G_storeA rfl rfl rfl rfl (by simp [Value.oneCell']) rfl (.none rfl) (.head _ _ _) rfl ?_
  refine G_end (X_then (G_seq (G_region ?_)))
  refine Gv (V_loadA rfl rfl (Cells.own (.head _)) rfl) ?_
  refine Gm ?_
  refine G_call (k := 7) (.mk rfl rfl rfl rfl) rfl rfl (.none rfl) (made_call _ _ p c xs hx1 hxn hxb _ g hg h0 hl) ?_
  rintro x2 E2 L2 hE2 ⟨⟨⟨v, ok, rfl, hok, hsh⟩⟩, rfl⟩
  have hg2 := hg.mono hE2
  cases ok with
  | false =>
    obtain ⟨_, _, _, _, _, _, _, _, _, _, _, _, _, rfl⟩ := hsh
    refine Gm ?_
    refine Gv (V_extract rfl rfl rfl) ?_
    refine Gv (V_extract rfl rfl rfl) ?_
    (refine G_alloc rfl rfl rfl (.none rfl) ?_; intro b10)
    refine G_storeA rfl rfl rfl rfl (by simp [Value.oneCell']) rfl (.none rfl) (.head _ _ _) rfl ?_
    refine Ga ?_
    refine G_end (X_then (G_seq (G_seq (G_region ?_))))
    refine Gm ?_
    refine Gv (V_not rfl rfl) ?_
    refine G_end (X_then ?_)
    refine G_cond_t rfl (by kernel_rfl) ?_
    refine G_seq (G_region ?_)
    refine G_call (k := 8) (.mk rfl rfl rfl rfl) rfl rfl (.none rfl) (awake_call' _ _) ?_
    rintro x3 E3 L3 hE3 ⟨rfl, rfl⟩
    refine Ga ?_
    refine G_end (X_then (G_ret (X_then_ret ?_)))
    refine G_leaveS (.drop _ (.drop _ (.nil _))) (by exact (.cons (.tmp rfl) (.nil))) rfl ?_ ?_
    · exact ((hE1.trans hE2).trans hE3)
    exact ⟨(by kernel_rfl), rfl⟩
  | true =>
    obtain ⟨tp, tn, tc, sp, sn, sc, l, us, rfl, hs, hu, hch, hlk, hne, hul, hc⟩ := hok rfl
    have htF := hch.tendF
    obtain ⟨⟨q1, q2⟩, q3, q4⟩ := gcM_range h0
    have en := hs.nT
    have em := hu.nSp
    have hP := fun E0 L0 => Place_made E0 L0 0
    refine Gm ?_
    refine Gv (V_extract rfl rfl rfl) ?_
    refine Gv (V_extract rfl rfl rfl) ?_
    (refine G_alloc rfl rfl rfl (.none rfl) ?_; intro b10)
    refine G_storeA rfl rfl rfl rfl (by simp [Value.oneCell']) rfl (.none rfl) (.head _ _ _) rfl ?_
    refine Ga ?_
    refine G_end (X_then (G_seq (G_seq (G_region ?_))))
    refine Gm ?_
    refine Gv (V_not rfl rfl) ?_
    refine G_end (X_then ?_)
    refine G_cond_f rfl (by kernel_rfl) ?_
    refine G_skip (X_then (G_seq (G_region ?_)))
    refine Gv (V_loadA rfl rfl (Cells.own (.tail _ (.head _))) rfl) ?_
    refine Gv (V_loadA rfl rfl (Cells.own (.head _)) rfl) ?_
    refine G_callv (k := 13) (.mk rfl rfl rfl rfl) rfl rfl (.none rfl) (Place_made _ _ 0 _ tp tn tc sp sn sc _ g hg2 h0 hl l us hs hu 100 (by omega) hch (by omega) hlk hc hul (by omega) rfl) ?_
    refine Gm ?_
    refine Gv (V_extract rfl rfl rfl) ?_
    refine Gv (V_extract rfl rfl rfl) ?_
    refine Ga ?_
    refine Ga ?_
    refine G_end (X_then (G_seq (G_region ?_)))
    refine Gm ?_
    refine G_callv (k := 14) (.mk rfl rfl rfl rfl) rfl rfl (.none rfl) (m2 _ _) ?_
    refine Ga ?_
    refine G_end (X_then (G_seq (G_region ?_)))
    refine Gv (V_loadA rfl rfl (Cells.own (.head _)) rfl) ?_
    refine G_call (k := 11) (.mk rfl rfl rfl rfl) rfl rfl (.none rfl) (OwnConf_call _ _ 2 0 (tendF 100 l) [] tp tn tc 0 0 true sp sn sc l hs us hu (by omega) (by omega)) ?_
    rintro x3 E3 L3 hE3 ⟨a, c3, a2, c2, rfl, rfl, rfl⟩
    generalize by' % 1073741824 = k at *
    (refine G_alloc rfl rfl rfl (.none rfl) ?_; intro b15)
    refine G_storeA rfl rfl rfl rfl (by simp [Value.oneCell']) rfl (.none rfl) (.head _ _ _) rfl ?_
    refine G_end (X_then (G_seq ?_))
    have j1 := fun E0 L0 => m1 E0 L0
    generalize rec % 1099511627777 = rc at *
    refine G_drawX 10 [(0, 0), (2, 0), (3, 1), (1, 3), (4, 0), (5, 0), (6, 0), (7, 4), (8, 0), (9, 4)] mixed (by kernel_rfl) ?_
    refine F_pure rfl (fun _ _ => V_move rfl rfl) rfl rfl (.none rfl) ?_
    refine F_pure rfl (fun _ _ => V_fieldAddr rfl rfl (by decide)) rfl rfl (.none rfl) ?_
    refine F_load rfl (.head _) (V_load rfl rfl (Cell.own (.head _) rfl)) rfl rfl (.none rfl) ?_
    refine F_callv (k := 14) rfl (.mk rfl rfl rfl rfl) rfl rfl (.none rfl) (fun _ => Mod_call' _ _ _ _ (by assumption) (by omega)) ?_
    refine F_pure rfl (fun _ _ => V_move rfl rfl) rfl rfl (.none rfl) ?_
    refine F_pure rfl (fun _ _ => V_add_i64 rfl rfl rfl (by omega) (by omega)) rfl rfl (.none rfl) ?_
    refine F_pure rfl (fun _ _ => V_fieldAddr rfl rfl (by decide)) rfl rfl (.none rfl) ?_
    refine F_storeAt rfl rfl rfl rfl rfl rfl rfl (.none rfl) (.head _ _ _) (Nat.le_of_ble_eq_true rfl) (by simp only [putAll, Nat.zero_add, Nat.reduceAdd, List.setIfInBounds_toArray, List.set_cons_succ, List.set_cons_zero]; rfl) (.drop (by kernel_rfl) (.nil)) ?_
    refine F_pure rfl (fun _ _ => V_fieldAddr rfl rfl (by decide)) rfl rfl (.none rfl) ?_
    refine F_storeAt rfl rfl rfl rfl rfl rfl rfl (.none rfl) (.head _ _ _) (Nat.le_of_ble_eq_true rfl) (by simp only [putAll, Nat.zero_add, Nat.reduceAdd, List.setIfInBounds_toArray, List.set_cons_succ, List.set_cons_zero]; rfl) (.nil) ?_
    (refine F_end (.nil _) ?_; dsimp only [List.drop])
    refine G_end (X_then (G_seq (G_seq (G_region ?_))))
    refine Ga ?_
    refine G_end (X_then (G_block ?_))
    refine G.freezeSl (.tail _ (.head _ _)) ?_
    intro E4 hE4 hu4 hsc4
    replace hg2 := hg2.mono hE4
    subst en
    subst em
    obtain ⟨A, hA⟩ : ∃ A, tendF 100 l = A := ⟨_, rfl⟩
    rw [hA] at htF ⊢
    rw [show toks l = toks (mvs k 0 l) by rw [mvs_zero]]
    refine G_loop (α := Nat) (fun i => [(9, .pointer (some ⟨b9, 0, none⟩)), (10, .pointer (some ⟨b10, 0, none⟩)), (12, .int .i64 100), (13, .int .i64 0), (14, .int .i64 k), (15, .pointer (some ⟨b15, 0, none⟩)), (16, .int .i64 i)]) (fun _ => E4)
      (fun i => cfB b15 2 (rec % 1099511627777) (A + k) [] a l.length c3 0 0 true a2 us.length c2 :: .sl 46 3 a l.length c3 (toks (mvs k i l)) :: cfB b10 2 0 A [] tp l.length tc 0 0 true sp us.length sc :: .blk b9 (.cells #[.int .i64 g.k, .slice gp g.toks.length gc, .string (S g.sep), .slice np g.names.length nc, .int .i64 g.start, .slice pp g.prods.length pc] 26 (0, 0)) :: L1)
      (fun i => i ≤ l.length) (fun i => l.length - i) 0 (Nat.zero_le _) ⟨rfl, rfl, rfl, rfl, rfl, rfl, rfl, trivial⟩ rfl rfl ?_
    intro i hi
    have hml := mvs_len k i l
    by_cases hlt : i < l.length
    · have hbd : (l[i]).at' ≤ 1099511627776 := by
        have h1 := hch.get i hlt
        have h2 := (tokB_iff.1 (hch.tok (by omega) (by omega) l[i] (List.getElem_mem hlt))).2.2.2.2
        exact h2
      have hbd0 : 0 ≤ (l[i]).at' := (tokB_iff.1 (hch.tok (by omega) (by omega) l[i] (List.getElem_mem hlt))).2.2.2.1
      refine G.front (.tail _ (.head _ _)) ?_
      refine G.slOpen (by omega) ?_
      rintro b0 tl hap hc1 hc2 hl1 hl2
      rw [hap]
      have e1 := mvs_at k i l hlt tl (((i : Nat) : Int).toNat * 3 + 2) (by simp)
      have e2 := mvs_set k i l hlt tl (((i : Nat) : Int).toNat * 3 + 2) (by simp)
      generalize l[i] = t at *
      obtain ⟨ts, tx, ta⟩ := t
      simp only at e1 e2 hbd hbd0
      refine G_seq (G_seq (G_region ?_))
      refine Gm ?_
      refine Gv (V_fieldAddr rfl rfl (by decide)) ?_
      refine Gv (V_fieldAddr rfl rfl (by decide)) ?_
      refine Gv (V_load rfl rfl (Cell.own (.tail _ (.head _)) rfl)) ?_
      refine Gv (V_lenS rfl rfl) ?_
      refine Gv (V_lss rfl rfl rfl) ?_
      refine G_end (X_then ?_)
      refine G_cond_t rfl (decide_eq_true (by omega)) ?_
      refine G_skip (X_then (G_seq (G_block ?_)))
      (refine G_drawT 15 mixed (by kernel_rfl) ?_; dsimp only [List.take, List.drop])
      refine Q_val (V_fieldAddr rfl rfl (by decide)) rfl rfl (.none rfl) ?_
      refine Q_val (V_fieldAddr rfl rfl (by decide)) rfl rfl (.none rfl) ?_
      refine Q_val (V_load rfl rfl (Cell.own (.tail _ (.head _)) rfl)) rfl rfl (.none rfl) ?_
      refine Q_val (V_move rfl rfl) rfl rfl (.none rfl) ?_
      refine Q_val (V_fieldAddr rfl rfl (by decide)) rfl rfl (.none rfl) ?_
      refine Q_val (V_fieldAddr rfl rfl (by decide)) rfl rfl (.none rfl) ?_
      refine Q_val (V_load rfl rfl (Cell.own (.tail _ (.head _)) rfl)) rfl rfl (.none rfl) ?_
      refine Q_val (V_move rfl rfl) rfl rfl (.none rfl) ?_
      refine Q_val (V_idxB rfl rfl rfl (by omega) (by omega)) rfl rfl (.none rfl) ?_
      refine Q_val (V_fieldAddr rfl rfl (by decide)) rfl rfl (.none rfl) ?_
      refine Q_val (V_load rfl rfl (Cell.own (.head _) (by assumption))) rfl rfl (.none rfl) ?_
      refine Q_val (V_move rfl rfl) rfl rfl (.none rfl) ?_
      refine Q_val (V_add_i64 rfl rfl rfl (by omega) (by omega)) rfl rfl (.none rfl) ?_
      refine Q_val (V_idxB rfl rfl rfl (by omega) (by omega)) rfl rfl (.none rfl) ?_
      refine Q_val (V_fieldAddr rfl rfl (by decide)) rfl rfl (.none rfl) ?_
      refine Q_endT ?_
      refine G_storeB rfl rfl rfl rfl rfl rfl (.none rfl) (.head _ _ _) (by omega) ?_
      refine G_end (X_block (X_then (G_region ?_)))
      refine Gm ?_
      refine Gv (V_add_i64 rfl rfl rfl (by omega) (by omega)) ?_
      refine Ga ?_
      refine G_end (X_then ?_)
      rw [e2]
      refine G.slClose (sz := 3) (k := l.length) (by rw [toks_len, mvs_len]) (by rw [List.length_append, toks_len, mvs_len, ← hl2, List.length_append, toks_len, mvs_len]) hc1 hc2 ?_
      rw [← hap]
      refine G.front (.tail _ (.head _ _)) ?_
      exact G_again (i + 1) hlt (by omega) ⟨rfl, rfl, rfl, rfl, rfl, rfl, rfl, trivial⟩ rfl rfl
    · obtain rfl : i = l.length := by omega
      rw [mvs_all]
      refine G_seq (G_seq (G_region ?_))
      refine Gm ?_
      refine Gv (V_fieldAddr rfl rfl (by decide)) ?_
      refine Gv (V_fieldAddr rfl rfl (by decide)) ?_
      refine Gv (V_load rfl rfl (Cell.own (.head _) rfl)) ?_
      refine Gv (V_lenS rfl rfl) ?_
      refine Gv (V_lss rfl rfl rfl) ?_
      refine G_end (X_then ?_)
      refine G_cond_f rfl (decide_eq_false (by omega)) ?_
      refine G_exit (X_then_exit (X_then_exit (X_block_hit (X_then (G_seq (G_region ?_))))))
      refine Gv (V_loadA rfl rfl (Cells.own (.tail _ (.tail _ (.tail _ (.head _))))) rfl) ?_
      refine Gv (V_loadA rfl rfl (Cells.own (.head _)) rfl) ?_
      refine G.freezeSl (.tail _ (.head _ _)) ?_
      intro E5 hE5 hs5 hc5
      replace hg2 := hg2.mono hE5
      replace hu4 := hu4.mono hE5
      have hmv := hch.move k
      have hmt := tendF_move k l 100
      rw [hA] at hmt
      refine G_callv (k := 13) (.mk rfl rfl rfl rfl) rfl rfl (.none rfl) (Place_made _ _ (rec % 1099511627777) (A + k) a l.length c3 a2 us.length c2 _ g hg2 h0 hl (l.map (mvT k)) us hs5 hu4 (100 + k) (by omega) hmv (by omega) (by simpa using hlk) hc hul (by omega) hmt.symm) ?_
      refine Gm ?_
      refine Gv (V_extract rfl rfl rfl) ?_
      refine Gv (V_extract rfl rfl rfl) ?_
      refine Ga ?_
      refine Ga ?_
      refine G_end (X_then (G_seq (G_region ?_)))
      refine Gm ?_
      refine Gv (V_eql rfl rfl rfl) ?_
      refine Gm ?_
      refine G.bool_t 79 rfl (by kernel_rfl) ?_
      refine Gy (V_move rfl rfl) ?_
      refine Gy (V_eql rfl rfl rfl) ?_
      refine Gv (V_pick_t rfl rfl rfl) ?_
      refine Gm ?_
      refine G.bool_t 83 rfl (by kernel_rfl) ?_
      refine Gy (V_move rfl rfl) ?_
      refine Gy (V_fieldAddr rfl rfl (by decide)) ?_
      refine Gy (V_load rfl rfl (Cell.own (.tail _ (.head _)) rfl)) ?_
      refine Gy (V_leq rfl rfl rfl) ?_
      refine Gv (V_pick_t rfl rfl rfl) ?_
      refine Gm ?_
      refine G.bool_t 89 rfl (decide_eq_true (by omega)) ?_
      refine Gy (V_move rfl rfl) ?_
      refine Gy (V_move rfl rfl) ?_
      refine Gy (V_move rfl rfl) ?_
      refine Gy (V_add_i64 rfl rfl rfl (by omega) (by omega)) ?_
      refine Gy (V_eql rfl rfl rfl) ?_
      refine Gv (V_pick_t rfl rfl rfl) ?_
      refine Gm ?_
      refine G.bool_t 96 rfl (decide_eq_true (by omega)) ?_
      refine Gy (V_loadA rfl rfl (Cells.own (.tail _ (.tail _ (.head _)))) rfl) ?_
      refine Gy (V_loadA rfl rfl (Cells.own (.head _)) rfl) ?_
      refine G_callv (k := 15) (.mk rfl rfl rfl rfl) rfl rfl (.yes rfl rfl rfl rfl) (Check_made _ _ (rec % 1099511627777) (A + k) a l.length c3 a2 us.length c2 _ g hg2 h0 hl (l.map (mvT k)) us hs5 hu4 (100 + k) (by omega) hmv (by omega) (by simpa using hlk) hc hul (by omega) hmt.symm) ?_
      refine Gy (V_eql rfl rfl rfl) ?_
      refine Gv (V_pick_t rfl rfl rfl) ?_
      refine Gm ?_
      refine G.bool_t 102 rfl (by kernel_rfl) ?_
      refine G_call (k := 8) (.mk rfl rfl rfl rfl) rfl rfl (.yes rfl rfl rfl rfl) (awake_call' _ _) ?_
      rintro x6 E6 L6 hE6 ⟨rfl, rfl⟩
      refine Gv (V_pick_t rfl rfl rfl) ?_
      refine Ga ?_
      refine G_end (X_then (G_ret ?_))
      refine G_leaveS (.drop _ (.drop _ (.drop _ (.nil _)))) (by exact (.cons (.tmp rfl) (.nil))) rfl ?_ ?_
      · exact ((((hE1.trans hE2).trans hE4).trans hE5).trans hE6)
      exact ⟨(by kernel_rfl), rfl⟩
end
end Go.Proofs.YtimiokmgnclggaaGreat
set_option linter.unusedSimpArgs false
set_option linter.unusedVariables false
set_option maxHeartbeats 2000000
set_option maxRecDepth 20000
namespace Go.Proofs.YtimiokmgnclggaaGreat
open Go.RowKit
/-! The law ConfigNeeds. -/
section
variable (E : Env) (L : List Res)
theorem ConfigNeeds_call (n : Int) (p : Option Addr) (c : Nat) (xs : List Int) (hn : -9223372036854775808 ≤ n ∧ n ≤ 9223372036854775807) (hx : SlE E 1 p xs.length (i64s xs)) (hxn : xs.length ≤ 9223372036854775807) (hxb : ∀ n, n ∈ xs → -9223372036854775808 ≤ n ∧ n ≤ 9223372036854775807) :
    CallS Tryz.prog 3 #[.int .i64 n, .slice p xs.length c] E L (fun r E' L' => r = .bool true ∧ L' = L) := by
  refine CallS.intro (l := [_, _]) _ Tryz.func3 rfl Tryz.ntmps3 rfl ?_
  refine G_seq (G_region ?_)
  refine Ga ?_
  refine G_end (X_then (G_seq (G_region ?_)))
  refine Gm ?_
  refine G_call (k := 6) (.mk rfl rfl rfl rfl) rfl rfl (.none rfl) (KGrammar_call _ _ n hn) ?_
  rintro x1 E1 L1 hE1 ⟨g, hg, h0, hl, rfl⟩
  have hx1 := hx.mono hE1
  have hg0 := hg
  obtain ⟨gp, gc, np, nc, pp, pc, rfl, _⟩ := hg0
  (refine G_alloc rfl rfl rfl (.none rfl) ?_; intro b5)
  refine G_storeA rfl rfl rfl rfl (by simp [Value.oneCell']) rfl (.none rfl) (.head _ _ _) rfl ?_
  refine G_end (X_then (G_seq (G_region ?_)))
  refine Gv (V_loadA rfl rfl (Cells.own (.head _)) rfl) ?_
  refine Gm ?_
  refine G_call (k := 7) (.mk rfl rfl rfl rfl) rfl rfl (.none rfl) (made_call _ _ p c xs hx1 hxn hxb _ g hg h0 hl) ?_
  rintro x2 E2 L2 hE2 ⟨⟨⟨v, ok, rfl, hok, hsh⟩⟩, rfl⟩
  have hg2 := hg.mono hE2
  cases ok with
  | false =>
    obtain ⟨_, _, _, _, _, _, _, _, _, _, _, _, _, rfl⟩ := hsh
    refine Gm ?_
    refine Gv (V_extract rfl rfl rfl) ?_
    refine Gv (V_extract rfl rfl rfl) ?_
    (refine G_alloc rfl rfl rfl (.none rfl) ?_; intro b6)
    refine G_storeA rfl rfl rfl rfl (by simp [Value.oneCell']) rfl (.none rfl) (.head _ _ _) rfl ?_
    refine Ga ?_
    refine G_end (X_then (G_seq (G_seq (G_region ?_))))
    refine Gm ?_
    refine Gv (V_not rfl rfl) ?_
    refine G_end (X_then ?_)
    refine G_cond_t rfl (by kernel_rfl) ?_
    refine G_seq (G_region ?_)
    refine G_call (k := 8) (.mk rfl rfl rfl rfl) rfl rfl (.none rfl) (awake_call' _ _) ?_
    rintro x3 E3 L3 hE3 ⟨rfl, rfl⟩
    refine Ga ?_
    refine G_end (X_then (G_ret (X_then_ret ?_)))
    refine G_leaveS (.drop _ (.drop _ (.nil _))) (by exact (.cons (.tmp rfl) (.nil))) rfl ?_ ?_
    · exact ((hE1.trans hE2).trans hE3)
    exact ⟨(by kernel_rfl), rfl⟩
  | true =>
    obtain ⟨tp, tn, tc, sp, sn, sc, l, us, rfl, hs, hu, hch, hlk, hne, hul, hc⟩ := hok rfl
    have htF := hch.tendF
    obtain ⟨⟨q1, q2⟩, q3, q4⟩ := gcM_range h0
    have en := hs.nT
    have em := hu.nSp
    have hnd := nd_le (kd := (awS g.prods us).1) (k := g.k) (n := l.length) q1 (by omega)
    obtain ⟨N, hN⟩ : ∃ N, nd (awS g.prods us).1 g.k l.length = N := ⟨_, rfl⟩
    have hNe := fun E0 L0 gv (h1 : GrE E0 gv g) h2 h3 => Needs_made E0 L0 0 _ tp tn tc sp sn sc gv g h1 h0 hl l us h2 h3 100 (by omega) hch (by omega) hlk hc hul (by omega) rfl
    have hAw := fun E0 L0 gv (h1 : GrE E0 gv g) h2 h3 => Awaits_made E0 L0 0 _ tp tn tc sp sn sc gv g h1 h0 hl l us h2 h3 100 (by omega) hch (by omega) hlk hc hul (by omega) rfl
    have hWE := fun E0 L0 gv (h1 : GrE E0 gv g) tp tc sp sc h2 h3 => WaitsE_made E0 L0 0 _ tp tn tc sp sn sc gv g h1 h0 hl l us h2 h3 100 (by omega) hch (by omega) hlk hc hul (by omega) rfl
    rw [hN] at hnd hNe
    obtain ⟨kd, hkd⟩ : ∃ kd, (awS g.prods us).1 = kd := ⟨_, rfl⟩
    rw [hkd] at hnd hAw hN
    refine Gm ?_
    refine Gv (V_extract rfl rfl rfl) ?_
    refine Gv (V_extract rfl rfl rfl) ?_
    (refine G_alloc rfl rfl rfl (.none rfl) ?_; intro b6)
    refine G_storeA rfl rfl rfl rfl (by simp [Value.oneCell']) rfl (.none rfl) (.head _ _ _) rfl ?_
    refine Ga ?_
    refine G_end (X_then (G_seq (G_seq (G_region ?_))))
    refine Gm ?_
    refine Gv (V_not rfl rfl) ?_
    refine G_end (X_then ?_)
    refine G_cond_f rfl (by kernel_rfl) ?_
    refine G_skip (X_then (G_seq (G_region ?_)))
    refine Gv (V_loadA rfl rfl (Cells.own (.tail _ (.head _))) rfl) ?_
    refine Gv (V_loadA rfl rfl (Cells.own (.head _)) rfl) ?_
    refine G_callv (k := 9) (.mk rfl rfl rfl rfl) rfl rfl (.none rfl) (hNe _ _ _ hg2 hs hu) ?_
    refine Gm ?_
    refine Gv (V_extract rfl rfl rfl) ?_
    refine Gv (V_extract rfl rfl rfl) ?_
    refine Ga ?_
    refine Ga ?_
    refine G_end (X_then (G_seq (G_region ?_)))
    refine Gv (V_loadA rfl rfl (Cells.own (.tail _ (.head _))) rfl) ?_
    refine Gv (V_loadA rfl rfl (Cells.own (.head _)) rfl) ?_
    refine G_callv (k := 10) (.mk rfl rfl rfl rfl) rfl rfl (.none rfl) (hAw _ _ _ hg2 hs hu) ?_
    have hcase : ¬ (N < 0) ∧ ¬ (g.k < N) := by omega
    have hn2 : 0 < N → ¬ (g.k ≤ l.length) ∧ (kd ≠ 2 → ¬ (0 < l.length)) := fun h => by have := hnd.2.2 h; omega
    subst en
    subst em
    obtain ⟨A, hA⟩ : ∃ A, tendF 100 l = A := ⟨_, rfl⟩
    rw [hA] at htF hWE ⊢
    refine G_ways (Y := ?Y4) (β := Nat × Option Addr × Nat × Option Addr × Nat) (J := fun _ => True) (fs' := fun y => [(5, .pointer (some ⟨b5, 0, none⟩)), (6, .pointer (some ⟨b6, 0, none⟩)), (8, .int .i64 N), (13, .pointer (some ⟨y.1, 0, none⟩)), (95, .agg #[.int .i64 g.k, .slice gp g.toks.length gc, .string (S g.sep), .slice np g.names.length nc, .int .i64 g.start, .slice pp g.prods.length pc]), (96, cfV 2 0 (A + 2) [] y.2.1 l.length y.2.2.1 1 A true y.2.2.2.1 us.length y.2.2.2.2)]) (E' := fun _ => E2) (L' := fun y => cfB y.1 2 0 (A + 2) [] y.2.1 l.length y.2.2.1 1 A true y.2.2.2.1 us.length y.2.2.2.2 :: .sl 71 2 y.2.2.2.1 us.length y.2.2.2.2 (spC us) :: .sl 46 3 y.2.1 l.length y.2.2.1 (toks l) :: cfB b6 2 0 A [] tp l.length tc 0 0 true sp us.length sc :: .blk b5 (.cells #[.int .i64 g.k, .slice gp g.toks.length gc, .string (S g.sep), .slice np g.names.length nc, .int .i64 g.start, .slice pp g.prods.length pc] 26 (0, 0)) :: L1) ?_ ?_
    rotate_left
    · intro hk4
      by_cases hN0 : 0 < N
      · obtain ⟨hn3, hn4⟩ := hn2 hN0
        by_cases hk2 : kd = 2
        · refine Gm ?_
          refine Gv (V_extract rfl rfl rfl) ?_
          refine Gv (V_extract rfl rfl rfl) ?_
          refine Gv (V_extract rfl rfl rfl) ?_
          refine Ga ?_
          refine Ga ?_
          refine Ga ?_
          refine G_end (X_then (G_seq (G_seq (G_region ?_))))
          refine Gm ?_
          refine Gv (V_neq rfl rfl rfl) ?_
          refine Gm ?_
          refine G.bool_f 44 rfl (by kernel_rfl) ?_
          refine Gy (V_move rfl rfl) ?_
          refine Gy (V_neq rfl rfl rfl) ?_
          refine Gv (V_pick_f rfl rfl rfl) ?_
          refine Gm ?_
          refine G.bool_f 48 rfl (by kernel_rfl) ?_
          refine Gy (V_move rfl rfl) ?_
          refine Gy (V_lss rfl rfl rfl) ?_
          refine Gv (V_pick_f rfl rfl rfl) ?_
          refine Gm ?_
          refine G.bool_f 52 rfl (decide_eq_false (by omega)) ?_
          refine Gy (V_move rfl rfl) ?_
          refine Gy (V_fieldAddr rfl rfl (by decide)) ?_
          refine Gy (V_load rfl rfl (Cell.own (.tail _ (.head _)) rfl)) ?_
          refine Gy (V_gtr rfl rfl rfl) ?_
          refine Gv (V_pick_f rfl rfl rfl) ?_
          refine Gm ?_
          refine G.bool_f 58 rfl (decide_eq_false (by omega)) ?_
          refine Gy (V_move rfl rfl) ?_
          refine Gy (V_gtr rfl rfl rfl) ?_
          refine Gy (V_move rfl rfl) ?_
          refine G.bool_t 61 rfl (decide_eq_true (by omega)) ?_
          refine Gy (V_fieldAddr rfl rfl (by decide)) ?_
          refine Gy (V_fieldAddr rfl rfl (by decide)) ?_
          refine Gy (V_load rfl rfl (Cell.own (.head _) rfl)) ?_
          refine Gy (V_lenS rfl rfl) ?_
          refine Gy (V_fieldAddr rfl rfl (by decide)) ?_
          refine Gy (V_load rfl rfl (Cell.own (.tail _ (.head _)) rfl)) ?_
          refine Gy (V_geq rfl rfl rfl) ?_
          refine Gy (V_move rfl rfl) ?_
          refine G.bool_f 69 rfl (decide_eq_false (by omega)) ?_
          refine Gy (V_move rfl rfl) ?_
          refine Gy (V_neq rfl rfl rfl) ?_
          refine Gy (V_move rfl rfl) ?_
          refine G.bool_f 72 rfl (decide_eq_false (by omega)) ?_
          refine Gn ?_
          refine Gn ?_
          refine Gn ?_
          refine Gn ?_
          refine Gn ?_
          refine Gy (V_pick_f rfl rfl rfl) ?_
          refine Gy (V_pick_f rfl rfl rfl) ?_
          refine Gy (V_pick_t rfl rfl rfl) ?_
          refine Gv (V_pick_f rfl rfl rfl) ?_
          refine G_end (X_then ?_)
          refine G_cond_f rfl rfl ?_
          refine G_skip (X_then (G_seq (G_region ?_)))
          refine Gv (V_loadA rfl rfl (Cells.own (.head _)) rfl) ?_
          refine G_call (k := 11) (.mk rfl rfl rfl rfl) rfl rfl (.none rfl) (OwnConf_call _ _ _ _ _ _ _ _ _ _ _ _ _ _ _ _ (by assumption) _ (by assumption) (by omega) (by omega)) ?_
          rintro r1 E3 L4 hE5 ⟨z6, ⟨z7, ⟨z8, ⟨z9, ⟨rfl, ⟨rfl, rfl⟩⟩⟩⟩⟩⟩
          replace hg2 := hg2.mono hE5
          replace hs := hs.mono hE5
          replace hu := hu.mono hE5
          dsimp only [Go.Proofs.YtimiokmgnclggaaGreat.cfV]
          (refine G_alloc rfl rfl rfl (.none rfl) ?_; intro b13)
          refine G_storeA rfl rfl rfl rfl (by simp [Value.oneCell']) rfl (.none rfl) (.head _ _ _) rfl ?_
          refine G_end (X_then (G_seq ?_))
          refine G_drawX 13 [(0, 0), (1, 1), (2, 0), (3, 1), (4, 0), (5, 0), (6, 0), (7, 4), (8, 0), (9, 0), (10, 4), (11, 0), (12, 4)] mixed (by kernel_rfl) ?_
          refine F_pure rfl (fun _ _ => V_fieldAddr rfl rfl (by decide)) rfl rfl (.none rfl) ?_
          refine F_load rfl (.tail _ (.tail _ (.tail _ (.head _)))) (V_load rfl rfl (Cell.own (.head _) rfl)) rfl rfl (.none rfl) ?_
          refine F_pure rfl (fun _ _ => V_fieldAddr rfl rfl (by decide)) rfl rfl (.none rfl) ?_
          refine F_load rfl (.tail _ (.tail _ (.tail _ (.head _)))) (V_load rfl rfl (Cell.own (.head _) rfl)) rfl rfl (.none rfl) ?_
          refine F_pure rfl (fun _ _ => V_add_i64 rfl rfl rfl (by omega) (by omega)) rfl rfl (.none rfl) ?_
          refine F_pure rfl (fun _ _ => V_fieldAddr rfl rfl (by decide)) rfl rfl (.none rfl) ?_
          refine F_pure rfl (fun _ _ => V_fieldAddr rfl rfl (by decide)) rfl rfl (.none rfl) ?_
          refine F_storeAt rfl rfl rfl rfl rfl rfl rfl (.none rfl) (.head _ _ _) (Nat.le_of_ble_eq_true rfl) (by simp only [putAll, Nat.zero_add, Nat.reduceAdd, List.setIfInBounds_toArray, List.set_cons_succ, List.set_cons_zero]; rfl) (.cons (by exact .refl _) (by simp) (.cons (by exact .refl _) (by simp) (.nil))) ?_
          refine F_pure rfl (fun _ _ => V_fieldAddr rfl rfl (by decide)) rfl rfl (.none rfl) ?_
          refine F_pure rfl (fun _ _ => V_fieldAddr rfl rfl (by decide)) rfl rfl (.none rfl) ?_
          refine F_storeAt rfl rfl rfl rfl rfl rfl rfl (.none rfl) (.head _ _ _) (Nat.le_of_ble_eq_true rfl) (by simp only [putAll, Nat.zero_add, Nat.reduceAdd, List.setIfInBounds_toArray, List.set_cons_succ, List.set_cons_zero]; rfl) (.cons (by exact .refl _) (by simp) (.drop (by kernel_rfl) (.nil))) ?_
          refine F_pure rfl (fun _ _ => V_fieldAddr rfl rfl (by decide)) rfl rfl (.none rfl) ?_
          refine F_storeAt rfl rfl rfl rfl rfl rfl rfl (.none rfl) (.head _ _ _) (Nat.le_of_ble_eq_true rfl) (by simp only [putAll, Nat.zero_add, Nat.reduceAdd, List.setIfInBounds_toArray, List.set_cons_succ, List.set_cons_zero]; rfl) (.drop (by kernel_rfl) (.nil)) ?_
          (refine F_end (.nil _) ?_; dsimp only [List.drop])
          refine G_end (X_then (G_seq (G_region ?_)))
          refine Gv (V_loadA rfl rfl (Cells.own (.tail _ (.tail _ (.tail _ (.tail _ (.head _)))))) rfl) ?_
          refine Gv (V_loadA rfl rfl (Cells.own (.head _)) rfl) ?_
          refine G.sub [(5, .pointer (some ⟨b5, 0, none⟩)), (6, .pointer (some ⟨b6, 0, none⟩)), (8, .int .i64 N), (13, .pointer (some ⟨b13, 0, none⟩)), (95, .agg #[.int .i64 g.k, .slice gp g.toks.length gc, .string (S g.sep), .slice np g.names.length nc, .int .i64 g.start, .slice pp g.prods.length pc]), (96, cfV 2 0 (A + 2) [] z6 l.length z7 1 A true z8 us.length z9)] ⟨rfl, rfl, rfl, rfl, rfl, rfl, trivial⟩ ?_
          exact hk4 (b13, z6, z7, z8, z9) trivial
        · have hn5 := hn4 hk2
          refine Gm ?_
          refine Gv (V_extract rfl rfl rfl) ?_
          refine Gv (V_extract rfl rfl rfl) ?_
          refine Gv (V_extract rfl rfl rfl) ?_
          refine Ga ?_
          refine Ga ?_
          refine Ga ?_
          refine G_end (X_then (G_seq (G_seq (G_region ?_))))
          refine Gm ?_
          refine Gv (V_neq rfl rfl rfl) ?_
          refine Gm ?_
          refine G.bool_f 44 rfl (by kernel_rfl) ?_
          refine Gy (V_move rfl rfl) ?_
          refine Gy (V_neq rfl rfl rfl) ?_
          refine Gv (V_pick_f rfl rfl rfl) ?_
          refine Gm ?_
          refine G.bool_f 48 rfl (by kernel_rfl) ?_
          refine Gy (V_move rfl rfl) ?_
          refine Gy (V_lss rfl rfl rfl) ?_
          refine Gv (V_pick_f rfl rfl rfl) ?_
          refine Gm ?_
          refine G.bool_f 52 rfl (decide_eq_false (by omega)) ?_
          refine Gy (V_move rfl rfl) ?_
          refine Gy (V_fieldAddr rfl rfl (by decide)) ?_
          refine Gy (V_load rfl rfl (Cell.own (.tail _ (.head _)) rfl)) ?_
          refine Gy (V_gtr rfl rfl rfl) ?_
          refine Gv (V_pick_f rfl rfl rfl) ?_
          refine Gm ?_
          refine G.bool_f 58 rfl (decide_eq_false (by omega)) ?_
          refine Gy (V_move rfl rfl) ?_
          refine Gy (V_gtr rfl rfl rfl) ?_
          refine Gy (V_move rfl rfl) ?_
          refine G.bool_t 61 rfl (decide_eq_true (by omega)) ?_
          refine Gy (V_fieldAddr rfl rfl (by decide)) ?_
          refine Gy (V_fieldAddr rfl rfl (by decide)) ?_
          refine Gy (V_load rfl rfl (Cell.own (.head _) rfl)) ?_
          refine Gy (V_lenS rfl rfl) ?_
          refine Gy (V_fieldAddr rfl rfl (by decide)) ?_
          refine Gy (V_load rfl rfl (Cell.own (.tail _ (.head _)) rfl)) ?_
          refine Gy (V_geq rfl rfl rfl) ?_
          refine Gy (V_move rfl rfl) ?_
          refine G.bool_f 69 rfl (decide_eq_false (by omega)) ?_
          refine Gy (V_move rfl rfl) ?_
          refine Gy (V_neq rfl rfl rfl) ?_
          refine Gy (V_move rfl rfl) ?_
          refine G.bool_t 72 rfl (decide_eq_true (by omega)) ?_
          refine Gy (V_fieldAddr rfl rfl (by decide)) ?_
          refine Gy (V_fieldAddr rfl rfl (by decide)) ?_
          refine Gy (V_load rfl rfl (Cell.own (.head _) rfl)) ?_
          refine Gy (V_lenS rfl rfl) ?_
          refine Gy (V_gtr rfl rfl rfl) ?_
          refine Gy (V_pick_t rfl rfl rfl) ?_
          refine Gy (V_pick_f rfl rfl rfl) ?_
          refine Gy (V_pick_t rfl rfl rfl) ?_
          refine Gv (V_pick_f rfl rfl rfl) ?_
          refine G_end (X_then ?_)
          refine G_cond_f rfl (decide_eq_false (by omega)) ?_
          refine G_skip (X_then (G_seq (G_region ?_)))
          refine Gv (V_loadA rfl rfl (Cells.own (.head _)) rfl) ?_
          refine G_call (k := 11) (.mk rfl rfl rfl rfl) rfl rfl (.none rfl) (OwnConf_call _ _ _ _ _ _ _ _ _ _ _ _ _ _ _ _ (by assumption) _ (by assumption) (by omega) (by omega)) ?_
          rintro r1 E3 L4 hE5 ⟨z6, ⟨z7, ⟨z8, ⟨z9, ⟨rfl, ⟨rfl, rfl⟩⟩⟩⟩⟩⟩
          replace hg2 := hg2.mono hE5
          replace hs := hs.mono hE5
          replace hu := hu.mono hE5
          dsimp only [Go.Proofs.YtimiokmgnclggaaGreat.cfV]
          (refine G_alloc rfl rfl rfl (.none rfl) ?_; intro b13)
          refine G_storeA rfl rfl rfl rfl (by simp [Value.oneCell']) rfl (.none rfl) (.head _ _ _) rfl ?_
          refine G_end (X_then (G_seq ?_))
          refine G_drawX 13 [(0, 0), (1, 1), (2, 0), (3, 1), (4, 0), (5, 0), (6, 0), (7, 4), (8, 0), (9, 0), (10, 4), (11, 0), (12, 4)] mixed (by kernel_rfl) ?_
          refine F_pure rfl (fun _ _ => V_fieldAddr rfl rfl (by decide)) rfl rfl (.none rfl) ?_
          refine F_load rfl (.tail _ (.tail _ (.tail _ (.head _)))) (V_load rfl rfl (Cell.own (.head _) rfl)) rfl rfl (.none rfl) ?_
          refine F_pure rfl (fun _ _ => V_fieldAddr rfl rfl (by decide)) rfl rfl (.none rfl) ?_
          refine F_load rfl (.tail _ (.tail _ (.tail _ (.head _)))) (V_load rfl rfl (Cell.own (.head _) rfl)) rfl rfl (.none rfl) ?_
          refine F_pure rfl (fun _ _ => V_add_i64 rfl rfl rfl (by omega) (by omega)) rfl rfl (.none rfl) ?_
          refine F_pure rfl (fun _ _ => V_fieldAddr rfl rfl (by decide)) rfl rfl (.none rfl) ?_
          refine F_pure rfl (fun _ _ => V_fieldAddr rfl rfl (by decide)) rfl rfl (.none rfl) ?_
          refine F_storeAt rfl rfl rfl rfl rfl rfl rfl (.none rfl) (.head _ _ _) (Nat.le_of_ble_eq_true rfl) (by simp only [putAll, Nat.zero_add, Nat.reduceAdd, List.setIfInBounds_toArray, List.set_cons_succ, List.set_cons_zero]; rfl) (.cons (by exact .refl _) (by simp) (.cons (by exact .refl _) (by simp) (.nil))) ?_
          refine F_pure rfl (fun _ _ => V_fieldAddr rfl rfl (by decide)) rfl rfl (.none rfl) ?_
          refine F_pure rfl (fun _ _ => V_fieldAddr rfl rfl (by decide)) rfl rfl (.none rfl) ?_
          refine F_storeAt rfl rfl rfl rfl rfl rfl rfl (.none rfl) (.head _ _ _) (Nat.le_of_ble_eq_true rfl) (by simp only [putAll, Nat.zero_add, Nat.reduceAdd, List.setIfInBounds_toArray, List.set_cons_succ, List.set_cons_zero]; rfl) (.cons (by exact .refl _) (by simp) (.drop (by kernel_rfl) (.nil))) ?_
          refine F_pure rfl (fun _ _ => V_fieldAddr rfl rfl (by decide)) rfl rfl (.none rfl) ?_
          refine F_storeAt rfl rfl rfl rfl rfl rfl rfl (.none rfl) (.head _ _ _) (Nat.le_of_ble_eq_true rfl) (by simp only [putAll, Nat.zero_add, Nat.reduceAdd, List.setIfInBounds_toArray, List.set_cons_succ, List.set_cons_zero]; rfl) (.drop (by kernel_rfl) (.nil)) ?_
          (refine F_end (.nil _) ?_; dsimp only [List.drop])
          refine G_end (X_then (G_seq (G_region ?_)))
          refine Gv (V_loadA rfl rfl (Cells.own (.tail _ (.tail _ (.tail _ (.tail _ (.head _)))))) rfl) ?_
          refine Gv (V_loadA rfl rfl (Cells.own (.head _)) rfl) ?_
          refine G.sub [(5, .pointer (some ⟨b5, 0, none⟩)), (6, .pointer (some ⟨b6, 0, none⟩)), (8, .int .i64 N), (13, .pointer (some ⟨b13, 0, none⟩)), (95, .agg #[.int .i64 g.k, .slice gp g.toks.length gc, .string (S g.sep), .slice np g.names.length nc, .int .i64 g.start, .slice pp g.prods.length pc]), (96, cfV 2 0 (A + 2) [] z6 l.length z7 1 A true z8 us.length z9)] ⟨rfl, rfl, rfl, rfl, rfl, rfl, trivial⟩ ?_
          exact hk4 (b13, z6, z7, z8, z9) trivial
      · refine Gm ?_
        refine Gv (V_extract rfl rfl rfl) ?_
        refine Gv (V_extract rfl rfl rfl) ?_
        refine Gv (V_extract rfl rfl rfl) ?_
        refine Ga ?_
        refine Ga ?_
        refine Ga ?_
        refine G_end (X_then (G_seq (G_seq (G_region ?_))))
        refine Gm ?_
        refine Gv (V_neq rfl rfl rfl) ?_
        refine Gm ?_
        refine G.bool_f 44 rfl (by kernel_rfl) ?_
        refine Gy (V_move rfl rfl) ?_
        refine Gy (V_neq rfl rfl rfl) ?_
        refine Gv (V_pick_f rfl rfl rfl) ?_
        refine Gm ?_
        refine G.bool_f 48 rfl (by kernel_rfl) ?_
        refine Gy (V_move rfl rfl) ?_
        refine Gy (V_lss rfl rfl rfl) ?_
        refine Gv (V_pick_f rfl rfl rfl) ?_
        refine Gm ?_
        refine G.bool_f 52 rfl (decide_eq_false (by omega)) ?_
        refine Gy (V_move rfl rfl) ?_
        refine Gy (V_fieldAddr rfl rfl (by decide)) ?_
        refine Gy (V_load rfl rfl (Cell.own (.tail _ (.head _)) rfl)) ?_
        refine Gy (V_gtr rfl rfl rfl) ?_
        refine Gv (V_pick_f rfl rfl rfl) ?_
        refine Gm ?_
        refine G.bool_f 58 rfl (decide_eq_false (by omega)) ?_
        refine Gy (V_move rfl rfl) ?_
        refine Gy (V_gtr rfl rfl rfl) ?_
        refine Gy (V_move rfl rfl) ?_
        refine G.bool_f 61 rfl (decide_eq_false (by omega)) ?_
        refine Gn ?_
        refine Gn ?_
        refine Gn ?_
        refine Gn ?_
        refine Gn ?_
        refine Gn ?_
        refine Gn ?_
        refine Gn ?_
        refine G_stay (.un rfl rfl rfl rfl) rfl rfl ?_
        refine G_stay (.un rfl rfl rfl rfl) rfl rfl ?_
        refine G_stay (.un rfl rfl rfl rfl) rfl rfl ?_
        refine G_stay (.un rfl rfl rfl rfl) rfl rfl ?_
        refine G_stay (.un rfl rfl rfl rfl) rfl rfl ?_
        refine G_stay (.un rfl rfl rfl rfl) rfl rfl ?_
        refine G_stay (.un rfl rfl rfl rfl) rfl rfl ?_
        refine G_stay (.un rfl rfl rfl rfl) rfl rfl ?_
        refine G_stay (.un rfl rfl rfl rfl) rfl rfl ?_
        refine Gn ?_
        refine Gy (V_pick_f rfl rfl rfl) ?_
        refine Gv (V_pick_f rfl rfl rfl) ?_
        refine G_end (X_then ?_)
        refine G_cond_f rfl rfl ?_
        refine G_skip (X_then (G_seq (G_region ?_)))
        refine Gv (V_loadA rfl rfl (Cells.own (.head _)) rfl) ?_
        refine G_call (k := 11) (.mk rfl rfl rfl rfl) rfl rfl (.none rfl) (OwnConf_call _ _ _ _ _ _ _ _ _ _ _ _ _ _ _ _ (by assumption) _ (by assumption) (by omega) (by omega)) ?_
        rintro r1 E3 L4 hE5 ⟨z6, ⟨z7, ⟨z8, ⟨z9, ⟨rfl, ⟨rfl, rfl⟩⟩⟩⟩⟩⟩
        replace hg2 := hg2.mono hE5
        replace hs := hs.mono hE5
        replace hu := hu.mono hE5
        dsimp only [Go.Proofs.YtimiokmgnclggaaGreat.cfV]
        (refine G_alloc rfl rfl rfl (.none rfl) ?_; intro b13)
        refine G_storeA rfl rfl rfl rfl (by simp [Value.oneCell']) rfl (.none rfl) (.head _ _ _) rfl ?_
        refine G_end (X_then (G_seq ?_))
        refine G_drawX 13 [(0, 0), (1, 1), (2, 0), (3, 1), (4, 0), (5, 0), (6, 0), (7, 4), (8, 0), (9, 0), (10, 4), (11, 0), (12, 4)] mixed (by kernel_rfl) ?_
        refine F_pure rfl (fun _ _ => V_fieldAddr rfl rfl (by decide)) rfl rfl (.none rfl) ?_
        refine F_load rfl (.tail _ (.tail _ (.tail _ (.head _)))) (V_load rfl rfl (Cell.own (.head _) rfl)) rfl rfl (.none rfl) ?_
        refine F_pure rfl (fun _ _ => V_fieldAddr rfl rfl (by decide)) rfl rfl (.none rfl) ?_
        refine F_load rfl (.tail _ (.tail _ (.tail _ (.head _)))) (V_load rfl rfl (Cell.own (.head _) rfl)) rfl rfl (.none rfl) ?_
        refine F_pure rfl (fun _ _ => V_add_i64 rfl rfl rfl (by omega) (by omega)) rfl rfl (.none rfl) ?_
        refine F_pure rfl (fun _ _ => V_fieldAddr rfl rfl (by decide)) rfl rfl (.none rfl) ?_
        refine F_pure rfl (fun _ _ => V_fieldAddr rfl rfl (by decide)) rfl rfl (.none rfl) ?_
        refine F_storeAt rfl rfl rfl rfl rfl rfl rfl (.none rfl) (.head _ _ _) (Nat.le_of_ble_eq_true rfl) (by simp only [putAll, Nat.zero_add, Nat.reduceAdd, List.setIfInBounds_toArray, List.set_cons_succ, List.set_cons_zero]; rfl) (.cons (by exact .refl _) (by simp) (.cons (by exact .refl _) (by simp) (.nil))) ?_
        refine F_pure rfl (fun _ _ => V_fieldAddr rfl rfl (by decide)) rfl rfl (.none rfl) ?_
        refine F_pure rfl (fun _ _ => V_fieldAddr rfl rfl (by decide)) rfl rfl (.none rfl) ?_
        refine F_storeAt rfl rfl rfl rfl rfl rfl rfl (.none rfl) (.head _ _ _) (Nat.le_of_ble_eq_true rfl) (by simp only [putAll, Nat.zero_add, Nat.reduceAdd, List.setIfInBounds_toArray, List.set_cons_succ, List.set_cons_zero]; rfl) (.cons (by exact .refl _) (by simp) (.drop (by kernel_rfl) (.nil))) ?_
        refine F_pure rfl (fun _ _ => V_fieldAddr rfl rfl (by decide)) rfl rfl (.none rfl) ?_
        refine F_storeAt rfl rfl rfl rfl rfl rfl rfl (.none rfl) (.head _ _ _) (Nat.le_of_ble_eq_true rfl) (by simp only [putAll, Nat.zero_add, Nat.reduceAdd, List.setIfInBounds_toArray, List.set_cons_succ, List.set_cons_zero]; rfl) (.drop (by kernel_rfl) (.nil)) ?_
        (refine F_end (.nil _) ?_; dsimp only [List.drop])
        refine G_end (X_then (G_seq (G_region ?_)))
        refine Gv (V_loadA rfl rfl (Cells.own (.tail _ (.tail _ (.tail _ (.tail _ (.head _)))))) rfl) ?_
        refine Gv (V_loadA rfl rfl (Cells.own (.head _)) rfl) ?_
        refine G.sub [(5, .pointer (some ⟨b5, 0, none⟩)), (6, .pointer (some ⟨b6, 0, none⟩)), (8, .int .i64 N), (13, .pointer (some ⟨b13, 0, none⟩)), (95, .agg #[.int .i64 g.k, .slice gp g.toks.length gc, .string (S g.sep), .slice np g.names.length nc, .int .i64 g.start, .slice pp g.prods.length pc]), (96, cfV 2 0 (A + 2) [] z6 l.length z7 1 A true z8 us.length z9)] ⟨rfl, rfl, rfl, rfl, rfl, rfl, trivial⟩ ?_
        exact hk4 (b13, z6, z7, z8, z9) trivial
    · rintro ⟨b13, z6, z7, z8, z9⟩ _
      simp only
      refine G.freezeSl (.tail _ (.head _ _)) ?_
      intro E3 hE3 hu3 hc3
      refine G.freezeSl (.tail _ (.head _ _)) ?_
      intro E4 hE4 hs4 hc4
      have hu4 := hu3.mono hE4
      have hg4 := (hg2.mono hE3).mono hE4
      refine G_callv (k := 12) (.mk rfl rfl rfl rfl) rfl rfl (.none rfl) (hWE _ _ _ hg4 z6 z7 z8 z9 hs4 hu4) ?_
      refine Gm ?_
      refine Gv (V_extract rfl rfl rfl) ?_
      refine Gv (V_extract rfl rfl rfl) ?_
      refine Ga ?_
      refine Ga ?_
      refine G_end (X_then (G_seq (G_seq (G_region ?_))))
      refine Gm ?_
      refine Gv (V_neq rfl rfl rfl) ?_
      refine Gm ?_
      refine G.bool_f 102 rfl (by kernel_rfl) ?_
      refine Gy (V_move rfl rfl) ?_
      refine Gv (V_pick_f rfl rfl rfl) ?_
      refine G_end (X_then ?_)
      refine G_cond_f rfl rfl ?_
      refine G_skip (X_then (G_seq (G_seq (G_region ?_))))
      refine Gm ?_
      refine Ga ?_
      refine G_end (X_then (G_block ?_))
      refine G.drop ?_
      refine G_loop (α := Nat × List Tok × Env × Option Addr × Nat × Option Addr × Nat × Int) (fun x => [(5, .pointer (some ⟨b5, 0, none⟩)), (6, .pointer (some ⟨b6, 0, none⟩)), (15, .int .i64 (N - (x.1 : Nat)))]) (fun x => x.2.2.1)
        (fun x => cfB b6 2 0 x.2.2.2.2.2.2.2 [] x.2.2.2.1 x.2.1.length x.2.2.2.2.1 0 0 true x.2.2.2.2.2.1 us.length x.2.2.2.2.2.2.1 :: .blk b5 (.cells #[.int .i64 g.k, .slice gp g.toks.length gc, .string (S g.sep), .slice np g.names.length nc, .int .i64 g.start, .slice pp g.prods.length pc] 26 (0, 0)) :: L1)
        (fun x => E4.Le x.2.2.1 ∧ Chn g.toks.length 100 x.2.1 ∧ tendF 100 x.2.1 = x.2.2.2.2.2.2.2 ∧ (x.2.1.length : Int) ≤ g.k ∧ (x.1 : Int) ≤ N ∧ nd kd g.k x.2.1.length = N - (x.1 : Nat) ∧ SlE x.2.2.1 3 x.2.2.2.1 x.2.1.length (toks x.2.1) ∧ SlE x.2.2.1 2 x.2.2.2.2.2.1 us.length (spC us)) (fun x => (N - (x.1 : Nat)).toNat) (0, l, E4, tp, tc, sp, sc, A)
        ⟨.refl _, hch, hA, hlk, by simp only; omega, by simp only [hN]; omega, ((hs.mono hE3).mono hE4), ((hu.mono hE3).mono hE4)⟩ ⟨rfl, rfl, by simp only [Int.natCast_zero, Int.sub_zero]; rfl, trivial⟩ rfl rfl ?_
      rintro ⟨m, l', E5, tp, tc, sp, sc, at'⟩ ⟨hE5, hch', hat, hlk', hmN, hnm, hs', hu'⟩
      simp only at hE5 hch' hat hlk' hmN hnm hs' hu' ⊢
      have hg5 := hg4.mono hE5
      have htF' := hch'.tendF
      have hW := Waits_made E5 (cfB b6 2 0 at' [] tp l'.length tc 0 0 true sp us.length sc :: .blk b5 (.cells #[.int .i64 g.k, .slice gp g.toks.length gc, .string (S g.sep), .slice np g.names.length nc, .int .i64 g.start, .slice pp g.prods.length pc] 26 (0, 0)) :: L1) 0 at' tp l'.length tc sp us.length sc _ g hg5 h0 hl l' us hs' hu' 100 (by omega) hch' (by omega) hlk' hc hul (by omega) hat.symm
      rw [hkd, hnm] at hW
      rw [hat] at htF'
      have hnd' := nd_le (kd := kd) (k := g.k) (n := l'.length) q1 (by omega)
      rw [hnm] at hnd'
      by_cases hm : 0 < N - (m : Nat)
      · have hst := nd_step (kd := kd) (k := g.k) (n := l'.length) (by rw [hnm]; exact hm)
        have hlk2 := (hnd'.2.2 hm).1
        rw [decide_eq_true hm] at hW
        refine G_seq (G_seq (G_region ?_))
        refine Gm ?_
        refine Gv (V_gtr rfl rfl rfl) ?_
        refine G_end (X_then ?_)
        refine G_cond_t rfl (decide_eq_true (by omega)) ?_
        refine G_skip (X_then (G_seq (G_block (G_seq (G_region ?_)))))
        refine Gv (V_loadA rfl rfl (Cells.own (.tail _ (.head _))) rfl) ?_
        refine Gv (V_loadA rfl rfl (Cells.own (.head _)) rfl) ?_
        refine G_callv (k := 12) (.mk rfl rfl rfl rfl) rfl rfl (.none rfl) hW ?_
        refine Gm ?_
        refine Gv (V_extract rfl rfl rfl) ?_
        refine Gv (V_extract rfl rfl rfl) ?_
        refine Ga ?_
        refine Ga ?_
        refine G_end (X_then (G_seq (G_seq (G_region ?_))))
        refine Gm ?_
        refine Gv (V_neq rfl rfl rfl) ?_
        refine Gm ?_
        refine G.bool_f 118 rfl (by kernel_rfl) ?_
        refine Gy (V_move rfl rfl) ?_
        refine Gy (V_not rfl rfl) ?_
        refine Gv (V_pick_f rfl rfl rfl) ?_
        refine G_end (X_then ?_)
        refine G_cond_f rfl (by kernel_rfl) ?_
        refine G_skip (X_then (G_seq (G_region ?_)))
        refine Gv (V_loadA rfl rfl (Cells.own (.head _)) rfl) ?_
        refine G_call (k := 11) (.mk rfl rfl rfl rfl) rfl rfl (.none rfl) (OwnConf_call _ _ 2 0 at' [] tp l'.length tc 0 0 true sp us.length sc l' hs' us hu' (by omega) (by omega)) ?_
        rintro x6 E6 L6 hE6 ⟨a, c6, a2, c2, rfl, rfl, rfl⟩
        refine G_storeA rfl rfl rfl rfl (by simp [Value.oneCell']) rfl (.none rfl) (.tail _ (.tail _ (.head _ _ _))) rfl ?_
        refine G_end (X_then ?_)
        refine G_drawX 16 [(0, 0), (1, 0), (2, 1), (3, 0), (4, 1), (5, 0), (8, 0), (9, 1), (6, 2), (7, 4), (10, 0), (11, 0), (12, 0), (13, 4), (14, 0), (15, 4)] mixed (by kernel_rfl) ?_
        refine F_pure rfl (fun _ _ => V_fieldAddr rfl rfl (by decide)) rfl rfl (.none rfl) ?_
        refine F_pure rfl (fun _ _ => V_fieldAddr rfl rfl (by decide)) rfl rfl (.none rfl) ?_
        refine F_load rfl (.tail _ (.tail _ (.head _))) (V_load rfl rfl (Cell.own (.head _) rfl)) rfl rfl (.none rfl) ?_
        refine F_pure rfl (fun _ _ => V_fieldAddr rfl rfl (by decide)) rfl rfl (.none rfl) ?_
        refine F_load rfl (.tail _ (.tail _ (.head _))) (V_load rfl rfl (Cell.own (.head _) rfl)) rfl rfl (.none rfl) ?_
        refine F_pure rfl (fun _ _ => V_build rfl rfl (by simp [fillV, setLs, setL, Value.cells]; rfl)) rfl rfl (.none rfl) ?_
        refine F_pure rfl (fun _ _ => V_fieldAddr rfl rfl (by decide)) rfl rfl (.none rfl) ?_
        refine F_load rfl (.tail _ (.tail _ (.head _))) (V_load rfl rfl (Cell.own (.head _) rfl)) rfl rfl (.none rfl) ?_
        (refine F_litZ rfl rfl rfl (by decide) (by simp [fillS, zeros, setLs, setL, Value.cells, List.range, List.range.loop]; rfl) (by rfl) rfl rfl (.none rfl) ?_; intro b130 E130 hE130 hs130)
        replace hs' := hs'.mono hE130
        replace hu' := hu'.mono hE130
        replace hg5 := hg5.mono hE130
        (refine F_appendT rfl rfl rfl rfl (by assumption) (by simp [Value.oneCell', strs, i64s]) (by omega) (by omega) rfl rfl (.none rfl) (fun _ _ => (.tail _ (.head _ _ _))) ?_; intro a131 c131; refine ⟨_, (.cons (by assumption) (by simp) (.drop (by kernel_rfl) (.drop (by kernel_rfl) (.nil)))), ?_⟩)
        refine F_pure rfl (fun _ _ => V_add_i64 rfl rfl rfl (by omega) (by omega)) rfl rfl (.none rfl) ?_
        refine F_pure rfl (fun _ _ => V_fieldAddr rfl rfl (by decide)) rfl rfl (.none rfl) ?_
        refine F_pure rfl (fun _ _ => V_fieldAddr rfl rfl (by decide)) rfl rfl (.none rfl) ?_
        refine F_storeAt rfl rfl rfl rfl rfl rfl rfl (.none rfl) (.tail _ (.tail _ (.head _ _ _))) (Nat.le_of_ble_eq_true rfl) (by simp only [putAll, Nat.zero_add, Nat.reduceAdd, List.setIfInBounds_toArray, List.set_cons_succ, List.set_cons_zero]; rfl) (.drop (by kernel_rfl) (.nil)) ?_
        refine F_pure rfl (fun _ _ => V_fieldAddr rfl rfl (by decide)) rfl rfl (.none rfl) ?_
        refine F_storeAt rfl rfl rfl rfl rfl rfl rfl (.none rfl) (.tail _ (.tail _ (.head _ _ _))) (Nat.le_of_ble_eq_true rfl) (by simp only [putAll, Nat.zero_add, Nat.reduceAdd, List.setIfInBounds_toArray, List.set_cons_succ, List.set_cons_zero]; rfl) (.nil) ?_
        (refine F_end (.nil _) ?_; dsimp only [List.drop])
        refine G_end (X_block (X_then (G_region ?_)))
        refine Gm ?_
        refine Gv (V_sub_i64 rfl rfl rfl (by omega) (by omega)) ?_
        refine Ga ?_
        refine G_end (X_then ?_)
        refine G.freezeSl (.head _ _) ?_
        intro E7 hE7 hu7 hc7
        refine G.freezeSl (.head _ _) ?_
        intro E8 hE8 hs8 hc8
        have zl : (l' ++ [(⟨0, [], at'⟩ : Tok)]).length = l'.length + 1 := by simp
        have zt : toks (l' ++ [(⟨0, [], at'⟩ : Tok)]) = toks l' ++ [.int .i64 0, .string (S []), .int .i64 at'] := toks_append l' [⟨0, [], at'⟩]
        rw [show (toks l' ++ [Value.int .i64 0, .string ⟨#[]⟩, .int .i64 at']) = toks (l' ++ [(⟨0, [], at'⟩ : Tok)]) from zt.symm, ← zl] at hs8
        rw [← zl]
        refine G_again (m + 1, l' ++ [(⟨0, [], at'⟩ : Tok)], E8, a131, c131, a2, c2, at' + 2) ⟨((hE5.trans hE130).trans hE7).trans hE8, Chn.add (by simp) (by simp only; omega) (by simp) hch' hat.symm, by simp only [tendF_snoc, tbeh, List.length_nil]; omega, by simp only [zl]; omega, by simp only; omega, ?_, hs8, hu7.mono hE8⟩ (by simp only; omega) ⟨rfl, rfl, ?_, trivial⟩ rfl rfl
        · simp only [zl]
          rw [show ((l'.length + 1 : Nat) : Int) = (l'.length : Int) + 1 by omega, hst, hnm]
          omega
        · simp only
          rw [show N - ((m + 1 : Nat) : Int) = N - (m : Nat) - 1 by omega]
          rfl
      · rw [decide_eq_false hm] at hW
        refine G_seq (G_seq (G_region ?_))
        refine Gm ?_
        refine Gv (V_gtr rfl rfl rfl) ?_
        refine G_end (X_then ?_)
        refine G_cond_f rfl (decide_eq_false (by omega)) ?_
        refine G_exit (X_then_exit (X_then_exit (X_block_hit (X_then (G_seq (G_region ?_))))))
        refine Gv (V_loadA rfl rfl (Cells.own (.tail _ (.head _))) rfl) ?_
        refine Gv (V_loadA rfl rfl (Cells.own (.head _)) rfl) ?_
        refine G_callv (k := 12) (.mk rfl rfl rfl rfl) rfl rfl (.none rfl) hW ?_
        refine Gm ?_
        refine Gv (V_extract rfl rfl rfl) ?_
        refine Gv (V_extract rfl rfl rfl) ?_
        refine Ga ?_
        refine Ga ?_
        refine G_end (X_then (G_seq (G_region ?_)))
        refine Gm ?_
        refine Gv (V_eql rfl rfl rfl) ?_
        refine Gm ?_
        refine G.bool_t 146 rfl (by kernel_rfl) ?_
        refine Gy (V_move rfl rfl) ?_
        refine Gy (V_not rfl rfl) ?_
        refine Gv (V_pick_t rfl rfl rfl) ?_
        refine Gm ?_
        refine G.bool_t 150 rfl (by kernel_rfl) ?_
        refine G_call (k := 8) (.mk rfl rfl rfl rfl) rfl rfl (.yes rfl rfl rfl rfl) (awake_call' _ _) ?_
        rintro x6 E6 L6 hE6 ⟨rfl, rfl⟩
        refine Gv (V_pick_t rfl rfl rfl) ?_
        refine Ga ?_
        refine G_end (X_then (G_ret ?_))
        refine G_leaveS (.drop _ (.drop _ (.nil _))) (by exact (.cons (.tmp rfl) (.nil))) rfl ?_ ?_
        · exact (((((hE1.trans hE2).trans hE3).trans hE4).trans hE5).trans hE6)
        exact ⟨(by kernel_rfl), rfl⟩
end
end Go.Proofs.YtimiokmgnclggaaGreat
