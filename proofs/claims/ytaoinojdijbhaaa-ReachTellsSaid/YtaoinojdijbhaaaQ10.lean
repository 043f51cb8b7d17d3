/-
  Rules and contracts, packed: D17, D18, D21, D19, D20.
-/
import Derived.Test.YtaoinojdijbhaaaQ9
set_option maxHeartbeats 1000000
set_option linter.unusedSimpArgs false
set_option linter.unusedVariables false
set_option maxHeartbeats 2000000
set_option maxRecDepth 20000
namespace Go.Proofs.Ytaoinojdijbhaaa
open Go.RowKit
theorem CallS.freezeB {P : Program} {k : FuncId} {args : Array Value} {E : Env} {L : List Res} {xs : List Value} {T : TypeId} {n sz : Nat} (hl : xs.length = n * sz) (h : CallS P k args E L (fun r E' L' => ∃ b, r = .slice (some ⟨b, 0, none⟩) n n ∧ E = E' ∧ L' = .blk b (.cells xs.toArray T (0, 0)) :: L)) :
    CallS P k args E L (fun r E' L' => ∃ b, r = .slice (some ⟨b, 0, none⟩) n n ∧ SlE E' sz (some ⟨b, 0, none⟩) n xs ∧ L' = L) :=
  fun w hw => (h w hw).mono fun _ _ ⟨r, E', L', he, hE, hs, b, hr, _, hL⟩ => by
    subst hL
    obtain ⟨E2, hE2, hs2, hok⟩ := hs.freeze
    exact ⟨r, E2, L, he, hE.trans hE2, hs2, b, hr, SlE.lit hok hl, rfl⟩
theorem turn_set {α : Type} {a b : List α} {i : Nat} (h : a.length = b.length) (hi : i < a.length) : (a.take i ++ b.drop i).set i (a[i]) = a.take (i + 1) ++ b.drop (i + 1) := by
  have e2 : (a.take i).length = i := by rw [List.length_take]; omega
  rw [List.set_append_right _ _ (by omega), e2, Nat.sub_self, List.drop_eq_getElem_cons (by omega), List.set_cons_zero, List.take_succ_eq_append_getElem hi, List.append_assoc]
  rfl
theorem turn_get {α : Type} {a b : List α} {i : Nat} (h : a.length = b.length) (hi : i < a.length) : (a.take i ++ b.drop i)[i]? = some (b[i]'(by omega)) := by
  have e2 : (a.take i).length = i := by rw [List.length_take]; omega
  rw [List.getElem?_append_right (by omega), e2, Nat.sub_self, List.getElem?_drop, Nat.add_zero, List.getElem?_eq_getElem]
theorem turn_len {α : Type} {a b : List α} {i : Nat} (h : a.length = b.length) (hi : i ≤ a.length) : (a.take i ++ b.drop i).length = a.length := by simp; omega
theorem treesM_max (g : Gr) : treesM g = ((best g.prods g.names.length none 1).map encN).map (fun c => max c 0) := by
  rw [treesM, List.map_map]
  refine List.map_congr_left fun x _ => ?_
  cases x with
  | none => rfl
  | some c => show (c : Int) = max (c : Int) 0; omega
section
variable (E : Env) (L : List Res)
theorem least_call' (gv : Value) (g : Gr) (hg : GrE E gv g) (hl : Light g) (hw : Wf g.prods g.names.length) :
    CallS Try.prog 87 #[gv, .int .i64 1, .int .i64 0] E L (fun r E' L' => ∃ b, r = .slice (some ⟨b, 0, none⟩) g.names.length g.names.length ∧ SlE E' 1 (some ⟨b, 0, none⟩) g.names.length (i64s (lengthsM g)) ∧ L' = L) :=
  CallS.freezeB (by simp [i64s, lengthsM, (best_least hw (small_one 1 0 (by decide) (by decide))).len]) (least_call E L gv g hg hl (some 1) 0 hw (small_one 1 0 (by decide) (by decide)))
theorem least_calln (gv : Value) (g : Gr) (hg : GrE E gv g) (hl : Light g) (hw : Wf g.prods g.names.length) :
    CallS Try.prog 87 #[gv, .int .i64 (-1), .int .i64 1] E L (fun r E' L' => ∃ b, r = .slice (some ⟨b, 0, none⟩) g.names.length g.names.length ∧ E = E' ∧ L' = .blk b (.cells (i64s ((best g.prods g.names.length none 1).map encN)).toArray 3 (0, 0)) :: L) :=
  least_call E L gv g hg hl none 1 hw (small_none 1 (by decide))
theorem YieldsR_call (gv : Value) (g : Gr) (hg : GrE E gv g) (hl : Light g) : CallS Try.prog 34 #[gv] E L (fun r E' L' => ∃ p c, r = .tuple #[.slice p (okL g (yieldsM g)).length c, .int .i64 (gcheck g)] ∧ SlE E' 1 p (okL g (yieldsM g)).length (bools (okL g (yieldsM g))) ∧ L' = L) := by
  have hg0 := hg
  obtain ⟨tp, tc, np, nc, pp, pc, rfl, ht, hn, ⟨rows, hrows, hps, hre⟩, k1, k2, k3⟩ := hg
  refine CallS.intro (l := [_]) _ Try.func34 rfl Try.ntmps34 rfl ?_
  by_cases hv : gcheck g = 0
  · have hva := valid_of hv
    have hw := hva.wf
    have hlen := yieldsM_len hva
    have q2 := hl.n
    rw [okL_pos hv, hv, hlen, yieldsM]
    refine G_seq (G_region ?_)
    (refine G_boxA rfl rfl rfl rfl (.none rfl) ?_; intro b1)
    refine G_val (V_assign rfl rfl) rfl rfl (.none rfl) ?_
    refine G_val (V_assign rfl rfl) rfl rfl (.none rfl) ?_
    refine G_end (X_then (G_seq (G_region ?_)))
    refine G_val (V_loadA rfl rfl (Cells.own (.head _)) rfl) rfl rfl (.none rfl) ?_
    refine G_callv (k := 73) (.mk rfl rfl rfl rfl) rfl rfl (.none rfl) (GCheckR_call _ _ _ _ (by assumption) (by assumption)) ?_
    refine G_val (V_assign rfl rfl) rfl rfl (.none rfl) ?_
    refine G_end (X_then (G_seq (G_seq (G_region ?_))))
    refine G_val (V_move rfl rfl) rfl rfl (.none rfl) ?_
    refine G_val (V_neq rfl rfl rfl) rfl rfl (.none rfl) ?_
    refine G_end (X_then ?_)
    refine G_cond_f rfl (decide_eq_false (by omega)) ?_
    refine G_skip (X_then (G_seq (G_region ?_)))
    refine G_val (V_loadA rfl rfl (Cells.own (.head _)) rfl) rfl rfl (.none rfl) ?_
    refine G_call (k := 82) (.mk rfl rfl rfl rfl) rfl rfl (.none rfl) (rounds_call _ _ _ _ (by assumption) (by assumption) _ (by assumption)) ?_
    rintro r1 E2 L3 hE4 ⟨z5, ⟨rfl, ⟨Z6, rfl⟩⟩⟩
    replace hg0 := hg0.mono hE4
    replace ht := ht.mono hE4
    replace hn := hn.mono hE4
    replace hps := hps.mono hE4
    refine G_val (V_assign rfl rfl) rfl rfl (.none rfl) ?_
    refine G_val (V_assign rfl rfl) rfl rfl (.none rfl) ?_
    refine G_end (X_then (G_ret ?_))
    refine G_leaveS (.drop _ (.nil _)) (by exact (.cons (.tmp rfl) (.cons (.tmp rfl) (.nil)))) rfl ?_ ?_
    · exact hE4
    exact ⟨_, ⟨_, ⟨rfl, ⟨(by assumption), rfl⟩⟩⟩⟩
  · rw [okL_neg hv]
    have hnil := @SlE.nil E 1
    refine G_seq (G_region ?_)
    (refine G_boxA rfl rfl rfl rfl (.none rfl) ?_; intro b1)
    refine G_val (V_assign rfl rfl) rfl rfl (.none rfl) ?_
    refine G_val (V_assign rfl rfl) rfl rfl (.none rfl) ?_
    refine G_end (X_then (G_seq (G_region ?_)))
    refine G_val (V_loadA rfl rfl (Cells.own (.head _)) rfl) rfl rfl (.none rfl) ?_
    refine G_callv (k := 73) (.mk rfl rfl rfl rfl) rfl rfl (.none rfl) (GCheckR_call _ _ _ _ (by assumption) (by assumption)) ?_
    refine G_val (V_assign rfl rfl) rfl rfl (.none rfl) ?_
    refine G_end (X_then (G_seq (G_seq (G_region ?_))))
    refine G_val (V_move rfl rfl) rfl rfl (.none rfl) ?_
    refine G_val (V_neq rfl rfl rfl) rfl rfl (.none rfl) ?_
    refine G_end (X_then ?_)
    refine G_cond_t rfl (decide_eq_true (by omega)) ?_
    refine G_seq (G_region ?_)
    refine G_val (V_move rfl rfl) rfl rfl (.none rfl) ?_
    refine G_val (V_assign rfl rfl) rfl rfl (.none rfl) ?_
    refine G_val (V_assign rfl rfl) rfl rfl (.none rfl) ?_
    refine G_end (X_then (G_ret (X_then_ret ?_)))
    refine G_leaveS (.drop _ (.nil _)) (by exact (.cons (.tmp rfl) (.cons (.tmp rfl) (.nil)))) rfl ?_ ?_
    · exact (.refl _)
    exact ⟨_, ⟨_, ⟨rfl, ⟨(by assumption), rfl⟩⟩⟩⟩
theorem NullableR_call (gv : Value) (g : Gr) (hg : GrE E gv g) (hl : Light g) : CallS Try.prog 39 #[gv] E L (fun r E' L' => ∃ p c, r = .tuple #[.slice p (okL g (nullM g)).length c, .int .i64 (gcheck g)] ∧ SlE E' 1 p (okL g (nullM g)).length (bools (okL g (nullM g))) ∧ L' = L) := by
  have hg0 := hg
  obtain ⟨tp, tc, np, nc, pp, pc, rfl, ht, hn, ⟨rows, hrows, hps, hre⟩, k1, k2, k3⟩ := hg
  refine CallS.intro (l := [_]) _ Try.func39 rfl Try.ntmps39 rfl ?_
  by_cases hv : gcheck g = 0
  · have hva := valid_of hv
    have hw := hva.wf
    have hlen := nullM_len hva
    have q2 := hl.n
    rw [okL_pos hv, hv, hlen, nullM]
    refine G_seq (G_region ?_)
    (refine G_boxA rfl rfl rfl rfl (.none rfl) ?_; intro b1)
    refine G_val (V_assign rfl rfl) rfl rfl (.none rfl) ?_
    refine G_val (V_assign rfl rfl) rfl rfl (.none rfl) ?_
    refine G_end (X_then (G_seq (G_region ?_)))
    refine G_val (V_loadA rfl rfl (Cells.own (.head _)) rfl) rfl rfl (.none rfl) ?_
    refine G_callv (k := 73) (.mk rfl rfl rfl rfl) rfl rfl (.none rfl) (GCheckR_call _ _ _ _ (by assumption) (by assumption)) ?_
    refine G_val (V_assign rfl rfl) rfl rfl (.none rfl) ?_
    refine G_end (X_then (G_seq (G_seq (G_region ?_))))
    refine G_val (V_move rfl rfl) rfl rfl (.none rfl) ?_
    refine G_val (V_neq rfl rfl rfl) rfl rfl (.none rfl) ?_
    refine G_end (X_then ?_)
    refine G_cond_f rfl (decide_eq_false (by omega)) ?_
    refine G_skip (X_then (G_seq (G_region ?_)))
    refine G_val (V_loadA rfl rfl (Cells.own (.head _)) rfl) rfl rfl (.none rfl) ?_
    refine G_call (k := 82) (.mk rfl rfl rfl rfl) rfl rfl (.none rfl) (rounds_call _ _ _ _ (by assumption) (by assumption) _ (by assumption)) ?_
    rintro r1 E2 L3 hE4 ⟨z5, ⟨rfl, ⟨Z6, rfl⟩⟩⟩
    replace hg0 := hg0.mono hE4
    replace ht := ht.mono hE4
    replace hn := hn.mono hE4
    replace hps := hps.mono hE4
    refine G_val (V_assign rfl rfl) rfl rfl (.none rfl) ?_
    refine G_val (V_assign rfl rfl) rfl rfl (.none rfl) ?_
    refine G_end (X_then (G_ret ?_))
    refine G_leaveS (.drop _ (.nil _)) (by exact (.cons (.tmp rfl) (.cons (.tmp rfl) (.nil)))) rfl ?_ ?_
    · exact hE4
    exact ⟨_, ⟨_, ⟨rfl, ⟨(by assumption), rfl⟩⟩⟩⟩
  · rw [okL_neg hv]
    have hnil := @SlE.nil E 1
    refine G_seq (G_region ?_)
    (refine G_boxA rfl rfl rfl rfl (.none rfl) ?_; intro b1)
    refine G_val (V_assign rfl rfl) rfl rfl (.none rfl) ?_
    refine G_val (V_assign rfl rfl) rfl rfl (.none rfl) ?_
    refine G_end (X_then (G_seq (G_region ?_)))
    refine G_val (V_loadA rfl rfl (Cells.own (.head _)) rfl) rfl rfl (.none rfl) ?_
    refine G_callv (k := 73) (.mk rfl rfl rfl rfl) rfl rfl (.none rfl) (GCheckR_call _ _ _ _ (by assumption) (by assumption)) ?_
    refine G_val (V_assign rfl rfl) rfl rfl (.none rfl) ?_
    refine G_end (X_then (G_seq (G_seq (G_region ?_))))
    refine G_val (V_move rfl rfl) rfl rfl (.none rfl) ?_
    refine G_val (V_neq rfl rfl rfl) rfl rfl (.none rfl) ?_
    refine G_end (X_then ?_)
    refine G_cond_t rfl (decide_eq_true (by omega)) ?_
    refine G_seq (G_region ?_)
    refine G_val (V_move rfl rfl) rfl rfl (.none rfl) ?_
    refine G_val (V_assign rfl rfl) rfl rfl (.none rfl) ?_
    refine G_val (V_assign rfl rfl) rfl rfl (.none rfl) ?_
    refine G_end (X_then (G_ret (X_then_ret ?_)))
    refine G_leaveS (.drop _ (.nil _)) (by exact (.cons (.tmp rfl) (.cons (.tmp rfl) (.nil)))) rfl ?_ ?_
    · exact (.refl _)
    exact ⟨_, ⟨_, ⟨rfl, ⟨(by assumption), rfl⟩⟩⟩⟩
theorem LengthsR_call (gv : Value) (g : Gr) (hg : GrE E gv g) (hl : Light g) : CallS Try.prog 41 #[gv] E L (fun r E' L' => ∃ p c, r = .tuple #[.slice p (okL g (lengthsM g)).length c, .int .i64 (gcheck g)] ∧ SlE E' 1 p (okL g (lengthsM g)).length (i64s (okL g (lengthsM g))) ∧ L' = L) := by
  have hg0 := hg
  obtain ⟨tp, tc, np, nc, pp, pc, rfl, ht, hn, ⟨rows, hrows, hps, hre⟩, k1, k2, k3⟩ := hg
  refine CallS.intro (l := [_]) _ Try.func41 rfl Try.ntmps41 rfl ?_
  by_cases hv : gcheck g = 0
  · have hva := valid_of hv
    have hw := hva.wf
    have hlen := lengthsM_len hva
    have q2 := hl.n
    rw [okL_pos hv, hv, hlen]
    refine G_seq (G_region ?_)
    (refine G_boxA rfl rfl rfl rfl (.none rfl) ?_; intro b1)
    refine G_val (V_assign rfl rfl) rfl rfl (.none rfl) ?_
    refine G_val (V_assign rfl rfl) rfl rfl (.none rfl) ?_
    refine G_end (X_then (G_seq (G_region ?_)))
    refine G_val (V_loadA rfl rfl (Cells.own (.head _)) rfl) rfl rfl (.none rfl) ?_
    refine G_callv (k := 73) (.mk rfl rfl rfl rfl) rfl rfl (.none rfl) (GCheckR_call _ _ _ _ (by assumption) (by assumption)) ?_
    refine G_val (V_assign rfl rfl) rfl rfl (.none rfl) ?_
    refine G_end (X_then (G_seq (G_seq (G_region ?_))))
    refine G_val (V_move rfl rfl) rfl rfl (.none rfl) ?_
    refine G_val (V_neq rfl rfl rfl) rfl rfl (.none rfl) ?_
    refine G_end (X_then ?_)
    refine G_cond_f rfl (decide_eq_false (by omega)) ?_
    refine G_skip (X_then (G_seq (G_region ?_)))
    refine G_val (V_loadA rfl rfl (Cells.own (.head _)) rfl) rfl rfl (.none rfl) ?_
    refine G_call (k := 87) (.mk rfl rfl rfl rfl) rfl rfl (.none rfl) (least_call' _ _ _ _ (by assumption) (by assumption) (by assumption)) ?_
    rintro r1 E2 L3 hE4 ⟨z5, ⟨rfl, ⟨Z6, rfl⟩⟩⟩
    replace hg0 := hg0.mono hE4
    replace ht := ht.mono hE4
    replace hn := hn.mono hE4
    replace hps := hps.mono hE4
    refine G_val (V_assign rfl rfl) rfl rfl (.none rfl) ?_
    refine G_val (V_assign rfl rfl) rfl rfl (.none rfl) ?_
    refine G_end (X_then (G_ret ?_))
    refine G_leaveS (.drop _ (.nil _)) (by exact (.cons (.tmp rfl) (.cons (.tmp rfl) (.nil)))) rfl ?_ ?_
    · exact hE4
    exact ⟨_, ⟨_, ⟨rfl, ⟨(by assumption), rfl⟩⟩⟩⟩
  · rw [okL_neg hv]
    have hnil := @SlE.nil E 1
    refine G_seq (G_region ?_)
    (refine G_boxA rfl rfl rfl rfl (.none rfl) ?_; intro b1)
    refine G_val (V_assign rfl rfl) rfl rfl (.none rfl) ?_
    refine G_val (V_assign rfl rfl) rfl rfl (.none rfl) ?_
    refine G_end (X_then (G_seq (G_region ?_)))
    refine G_val (V_loadA rfl rfl (Cells.own (.head _)) rfl) rfl rfl (.none rfl) ?_
    refine G_callv (k := 73) (.mk rfl rfl rfl rfl) rfl rfl (.none rfl) (GCheckR_call _ _ _ _ (by assumption) (by assumption)) ?_
    refine G_val (V_assign rfl rfl) rfl rfl (.none rfl) ?_
    refine G_end (X_then (G_seq (G_seq (G_region ?_))))
    refine G_val (V_move rfl rfl) rfl rfl (.none rfl) ?_
    refine G_val (V_neq rfl rfl rfl) rfl rfl (.none rfl) ?_
    refine G_end (X_then ?_)
    refine G_cond_t rfl (decide_eq_true (by omega)) ?_
    refine G_seq (G_region ?_)
    refine G_val (V_move rfl rfl) rfl rfl (.none rfl) ?_
    refine G_val (V_assign rfl rfl) rfl rfl (.none rfl) ?_
    refine G_val (V_assign rfl rfl) rfl rfl (.none rfl) ?_
    refine G_end (X_then (G_ret (X_then_ret ?_)))
    refine G_leaveS (.drop _ (.nil _)) (by exact (.cons (.tmp rfl) (.cons (.tmp rfl) (.nil)))) rfl ?_ ?_
    · exact (.refl _)
    exact ⟨_, ⟨_, ⟨rfl, ⟨(by assumption), rfl⟩⟩⟩⟩
theorem ReachedR_call (gv : Value) (g : Gr) (hg : GrE E gv g) (hl : Light g) : CallS Try.prog 37 #[gv] E L (fun r E' L' => ∃ p c, r = .tuple #[.slice p (okL g (reachM g)).length c, .int .i64 (gcheck g)] ∧ SlE E' 1 p (okL g (reachM g)).length (bools (okL g (reachM g))) ∧ L' = L) := by
  have hg0 := hg
  obtain ⟨tp, tc, np, nc, pp, pc, rfl, ht, hn, ⟨rows, hrows, hps, hre⟩, k1, k2, k3⟩ := hg
  refine CallS.intro (l := [_]) _ Try.func37 rfl Try.ntmps37 rfl ?_
  by_cases hv : gcheck g = 0
  · have hva := valid_of hv
    have hw := hva.wf
    have hlen := reachM_len hva
    have q2 := hl.n
    have hst := hva.start
    have e16 : 16 + (g.start - 16) = g.start := by omega
    have er : reachM g = reachL g.prods g.names.length (16 + (g.start - 16)) := by rw [reachM, e16]
    rw [okL_pos hv, hv, hlen, er]
    refine G_seq (G_region ?_)
    (refine G_boxA rfl rfl rfl rfl (.none rfl) ?_; intro b1)
    refine G_val (V_assign rfl rfl) rfl rfl (.none rfl) ?_
    refine G_val (V_assign rfl rfl) rfl rfl (.none rfl) ?_
    refine G_end (X_then (G_seq (G_region ?_)))
    refine G_val (V_loadA rfl rfl (Cells.own (.head _)) rfl) rfl rfl (.none rfl) ?_
    refine G_callv (k := 73) (.mk rfl rfl rfl rfl) rfl rfl (.none rfl) (GCheckR_call _ _ _ _ (by assumption) (by assumption)) ?_
    refine G_val (V_assign rfl rfl) rfl rfl (.none rfl) ?_
    refine G_end (X_then (G_seq (G_seq (G_region ?_))))
    refine G_val (V_move rfl rfl) rfl rfl (.none rfl) ?_
    refine G_val (V_neq rfl rfl rfl) rfl rfl (.none rfl) ?_
    refine G_end (X_then ?_)
    refine G_cond_f rfl (decide_eq_false (by omega)) ?_
    refine G_skip (X_then (G_seq ?_))
    refine G_drawX 7 [(0, 1), (1, 0), (2, 1), (3, 3), (4, 3), (5, 0), (6, 0)] mixed (by kernel_rfl) ?_
    refine F_load rfl (.head _) (V_loadA rfl rfl (Cells.own (.head _)) rfl) rfl rfl (.none rfl) ?_
    refine F_pure rfl (fun _ _ => V_fieldAddr rfl rfl (by decide)) rfl rfl (.none rfl) ?_
    refine F_load rfl (.head _) (V_load rfl rfl (Cell.own (.head _) rfl)) rfl rfl (.none rfl) ?_
    refine F_callv (k := 85) rfl (.mk rfl rfl rfl rfl) rfl rfl (.none rfl) (fun _ => indexn_call _ _ _ (by omega) (by omega)) ?_
    apply F_call (k := 84) rfl (.mk rfl rfl rfl rfl) rfl rfl (.none rfl)
    · (intro L0; refine CallS.mono (below_call _ _ _ _ (by assumption) (by assumption) _ (by assumption) (by omega) (by omega)) ?_; exact fun _ _ _ _ h => h)
    · (rintro L0 r E' L' ⟨z1, ⟨rfl, ⟨Z2, rfl⟩⟩⟩; exact ⟨rfl, ⟨_, ⟨rfl, ⟨(by assumption), rfl⟩⟩⟩⟩)
    rintro r3 E4 hE5 ⟨z6, ⟨rfl, ⟨Z7, _⟩⟩⟩
    replace hg0 := hg0.mono hE5
    replace ht := ht.mono hE5
    replace hn := hn.mono hE5
    replace hps := hps.mono hE5
    refine F_pure rfl (fun _ _ => V_assign rfl rfl) rfl rfl (.none rfl) ?_
    refine F_pure rfl (fun _ _ => V_assign rfl rfl) rfl rfl (.none rfl) ?_
    (refine F_end (.nil _) ?_; dsimp only [List.drop])
    refine G_end (X_then (G_ret ?_))
    refine G_leaveS (.drop _ (.nil _)) (by exact (.cons (.tmp rfl) (.cons (.tmp rfl) (.nil)))) rfl ?_ ?_
    · exact hE5
    exact ⟨_, ⟨_, ⟨rfl, ⟨(by assumption), rfl⟩⟩⟩⟩
  · rw [okL_neg hv]
    have hnil := @SlE.nil E 1
    refine G_seq (G_region ?_)
    (refine G_boxA rfl rfl rfl rfl (.none rfl) ?_; intro b1)
    refine G_val (V_assign rfl rfl) rfl rfl (.none rfl) ?_
    refine G_val (V_assign rfl rfl) rfl rfl (.none rfl) ?_
    refine G_end (X_then (G_seq (G_region ?_)))
    refine G_val (V_loadA rfl rfl (Cells.own (.head _)) rfl) rfl rfl (.none rfl) ?_
    refine G_callv (k := 73) (.mk rfl rfl rfl rfl) rfl rfl (.none rfl) (GCheckR_call _ _ _ _ (by assumption) (by assumption)) ?_
    refine G_val (V_assign rfl rfl) rfl rfl (.none rfl) ?_
    refine G_end (X_then (G_seq (G_seq (G_region ?_))))
    refine G_val (V_move rfl rfl) rfl rfl (.none rfl) ?_
    refine G_val (V_neq rfl rfl rfl) rfl rfl (.none rfl) ?_
    refine G_end (X_then ?_)
    refine G_cond_t rfl (decide_eq_true (by omega)) ?_
    refine G_seq (G_region ?_)
    refine G_val (V_move rfl rfl) rfl rfl (.none rfl) ?_
    refine G_val (V_assign rfl rfl) rfl rfl (.none rfl) ?_
    refine G_val (V_assign rfl rfl) rfl rfl (.none rfl) ?_
    refine G_end (X_then (G_ret (X_then_ret ?_)))
    refine G_leaveS (.drop _ (.nil _)) (by exact (.cons (.tmp rfl) (.cons (.tmp rfl) (.nil)))) rfl ?_ ?_
    · exact (.refl _)
    exact ⟨_, ⟨_, ⟨rfl, ⟨(by assumption), rfl⟩⟩⟩⟩
theorem TreesR_call (gv : Value) (g : Gr) (hg : GrE E gv g) (hl : Light g) : CallS Try.prog 43 #[gv] E L (fun r E' L' => ∃ p c, r = .tuple #[.slice p (okL g (treesM g)).length c, .int .i64 (gcheck g)] ∧ SlE E' 1 p (okL g (treesM g)).length (i64s (okL g (treesM g))) ∧ L' = L) := by
  have hg0 := hg
  obtain ⟨tp, tc, np, nc, pp, pc, rfl, ht, hn, ⟨rows, hrows, hps, hre⟩, k1, k2, k3⟩ := hg
  refine CallS.intro (l := [_]) _ Try.func43 rfl Try.ntmps43 rfl ?_
  by_cases hv : gcheck g = 0
  · have hva := valid_of hv
    have hw := hva.wf
    have hlen := treesM_len hva
    have q2 := hl.n
    have hb := treesM_max g
    have hlt2 := (best_least hw (small_none 1 (by decide))).len
    rw [okL_pos hv, hv, hlen]
    refine G_seq (G_region ?_)
    (refine G_boxA rfl rfl rfl rfl (.none rfl) ?_; intro b1)
    refine G_val (V_assign rfl rfl) rfl rfl (.none rfl) ?_
    refine G_val (V_assign rfl rfl) rfl rfl (.none rfl) ?_
    refine G_end (X_then (G_seq (G_region ?_)))
    refine G_val (V_loadA rfl rfl (Cells.own (.head _)) rfl) rfl rfl (.none rfl) ?_
    refine G_callv (k := 73) (.mk rfl rfl rfl rfl) rfl rfl (.none rfl) (GCheckR_call _ _ _ _ (by assumption) (by assumption)) ?_
    refine G_val (V_assign rfl rfl) rfl rfl (.none rfl) ?_
    refine G_end (X_then (G_seq (G_seq (G_region ?_))))
    refine G_val (V_move rfl rfl) rfl rfl (.none rfl) ?_
    refine G_val (V_neq rfl rfl rfl) rfl rfl (.none rfl) ?_
    refine G_end (X_then ?_)
    refine G_cond_f rfl (decide_eq_false (by omega)) ?_
    refine G_skip (X_then (G_seq (G_region ?_)))
    refine G_val (V_loadA rfl rfl (Cells.own (.head _)) rfl) rfl rfl (.none rfl) ?_
    refine G_call (k := 87) (.mk rfl rfl rfl rfl) rfl rfl (.none rfl) (least_calln _ _ _ _ (by assumption) (by assumption) (by assumption)) ?_
    rintro r1 E2 L3 hE4 ⟨z5, ⟨rfl, ⟨rfl, rfl⟩⟩⟩
    replace hg0 := hg0.mono hE4
    replace ht := ht.mono hE4
    replace hn := hn.mono hE4
    replace hps := hps.mono hE4
    refine G_val (V_assign rfl rfl) rfl rfl (.none rfl) ?_
    refine G_end (X_then (G_seq (G_seq (G_region ?_))))
    refine G_val (V_assign rfl rfl) rfl rfl (.none rfl) ?_
    refine G_end (X_then (G_block ?_))
    have hab : (i64s (treesM g)).length = (i64s ((best g.prods g.names.length none 1).map encN)).length := by simp [i64s, hlen, hlt2]
    have hal : (i64s (treesM g)).length = g.names.length := by simp [i64s, hlen]
    refine G_loop (α := Nat) (fun i => [(5, .slice (some ⟨z5, 0, none⟩) g.names.length g.names.length), (6, .int .i64 i)]) (fun _ => E) (fun i => .blk z5 (.cells ((i64s (treesM g)).take i ++ (i64s ((best g.prods g.names.length none 1).map encN)).drop i).toArray 3 (0, 0)) :: GB b1 g tp tc np nc pp pc :: L)
      (fun i => i ≤ g.names.length) (fun i => g.names.length - i) 0 (Nat.zero_le _) ⟨rfl, rfl, trivial⟩ rfl rfl ?_
    intro i hi
    have hlen3 := turn_len hab (i := i) (by omega)
    by_cases hlt : i < g.names.length
    · have hlt3 : i < (best g.prods g.names.length none 1).length := by omega
      have hlt4 : i < (treesM g).length := by omega
      have hx := turn_get hab (i := i) (by omega)
      have hx2 : (i64s ((best g.prods g.names.length none 1).map encN))[i]'(by simp [i64s]; omega) = .int .i64 (encN (best g.prods g.names.length none 1)[i]) := by simp [i64s]
      rw [hx2] at hx
      have hset := turn_set hab (i := i) (by omega)
      have hx3 : (i64s (treesM g))[i]'(by omega) = .int .i64 (max (encN (best g.prods g.names.length none 1)[i]) 0) := by simp [i64s, hb]
      rw [hx3] at hset
      refine G_seq (G_seq (G_region ?_))
      refine G_val (V_move rfl rfl) rfl rfl (.none rfl) ?_
      refine G_val (V_move rfl rfl) rfl rfl (.none rfl) ?_
      refine G_val (V_lenS rfl rfl) rfl rfl (.none rfl) ?_
      refine G_val (V_lss rfl rfl rfl) rfl rfl (.none rfl) ?_
      refine G_end (X_then ?_)
      refine G_cond_t rfl (decide_eq_true (by omega)) ?_
      refine G_skip (X_then (G_seq (G_block (G_region ?_))))
      refine G_val (V_move rfl rfl) rfl rfl (.none rfl) ?_
      refine G_val (V_move rfl rfl) rfl rfl (.none rfl) ?_
      refine G_val (V_move rfl rfl) rfl rfl (.none rfl) ?_
      refine G_val (V_move rfl rfl) rfl rfl (.none rfl) ?_
      refine G_val (V_idxB1n rfl rfl rfl (by omega)) rfl rfl (.none rfl) ?_
      refine G_val (V_load rfl rfl (Cell.own (.head _) (by assumption))) rfl rfl (.none rfl) ?_
      refine G_val (V_max rfl rfl rfl) rfl rfl (.none rfl) ?_
      refine G_val (V_idxB1n rfl rfl rfl (by omega)) rfl rfl (.none rfl) ?_
      refine G_storeB rfl rfl rfl rfl rfl rfl (.none rfl) (.head _ _ _) (by omega) ?_
      refine G_end (X_block (X_then (G_region ?_)))
      refine G_val (V_move rfl rfl) rfl rfl (.none rfl) ?_
      refine G_val (V_add_i64 rfl rfl rfl (by omega) (by omega)) rfl rfl (.none rfl) ?_
      refine G_val (V_assign rfl rfl) rfl rfl (.none rfl) ?_
      refine G_end (X_then ?_)
      rw [hset]
      exact G_again (i + 1) hlt (by omega) ⟨rfl, rfl, trivial⟩ rfl rfl
    · have e1 : (i64s (treesM g)).take i = i64s (treesM g) := List.take_of_length_le (by omega)
      have e2 : (i64s ((best g.prods g.names.length none 1).map encN)).drop i = [] := List.drop_of_length_le (by omega)
      rw [e1, e2, List.append_nil]
      refine G.freezeB (.head _ _) (k := g.names.length) (sz := 1) (by rw [hal, Nat.mul_one]) ?_
      intro E1 hE1 hs1
      refine G_seq (G_seq (G_region ?_))
      refine G_val (V_move rfl rfl) rfl rfl (.none rfl) ?_
      refine G_val (V_move rfl rfl) rfl rfl (.none rfl) ?_
      refine G_val (V_lenS rfl rfl) rfl rfl (.none rfl) ?_
      refine G_val (V_lss rfl rfl rfl) rfl rfl (.none rfl) ?_
      refine G_end (X_then ?_)
      refine G_cond_f rfl (decide_eq_false (by omega)) ?_
      refine G_exit (X_then_exit (X_then_exit (X_block_hit (X_then (G_seq (G_region ?_))))))
      refine G_val (V_move rfl rfl) rfl rfl (.none rfl) ?_
      refine G_val (V_assign rfl rfl) rfl rfl (.none rfl) ?_
      refine G_val (V_assign rfl rfl) rfl rfl (.none rfl) ?_
      refine G_end (X_then (G_ret ?_))
      refine G_leaveS (.drop _ (.nil _)) (by exact (.cons (.tmp rfl) (.cons (.tmp rfl) (.nil)))) rfl ?_ ?_
      · exact hE1
      exact ⟨_, ⟨_, ⟨rfl, ⟨(by assumption), rfl⟩⟩⟩⟩
  · rw [okL_neg hv]
    have hnil := @SlE.nil E 1
    refine G_seq (G_region ?_)
    (refine G_boxA rfl rfl rfl rfl (.none rfl) ?_; intro b1)
    refine G_val (V_assign rfl rfl) rfl rfl (.none rfl) ?_
    refine G_val (V_assign rfl rfl) rfl rfl (.none rfl) ?_
    refine G_end (X_then (G_seq (G_region ?_)))
    refine G_val (V_loadA rfl rfl (Cells.own (.head _)) rfl) rfl rfl (.none rfl) ?_
    refine G_callv (k := 73) (.mk rfl rfl rfl rfl) rfl rfl (.none rfl) (GCheckR_call _ _ _ _ (by assumption) (by assumption)) ?_
    refine G_val (V_assign rfl rfl) rfl rfl (.none rfl) ?_
    refine G_end (X_then (G_seq (G_seq (G_region ?_))))
    refine G_val (V_move rfl rfl) rfl rfl (.none rfl) ?_
    refine G_val (V_neq rfl rfl rfl) rfl rfl (.none rfl) ?_
    refine G_end (X_then ?_)
    refine G_cond_t rfl (decide_eq_true (by omega)) ?_
    refine G_seq (G_region ?_)
    refine G_val (V_move rfl rfl) rfl rfl (.none rfl) ?_
    refine G_val (V_assign rfl rfl) rfl rfl (.none rfl) ?_
    refine G_val (V_assign rfl rfl) rfl rfl (.none rfl) ?_
    refine G_end (X_then (G_ret (X_then_ret ?_)))
    refine G_leaveS (.drop _ (.nil _)) (by exact (.cons (.tmp rfl) (.cons (.tmp rfl) (.nil)))) rfl ?_ ?_
    · exact (.refl _)
    exact ⟨_, ⟨_, ⟨rfl, ⟨(by assumption), rfl⟩⟩⟩⟩
theorem BelowR_call (gv : Value) (g : Gr) (hg : GrE E gv g) (hl : Light g) (m : Int) : CallS Try.prog 49 #[gv, .int .i64 m] E L (fun r E' L' => ∃ p c, r = .tuple #[.slice p (belowL g m).length c, .int .i64 (belowE g m)] ∧ SlE E' 1 p (belowL g m).length (bools (belowL g m)) ∧ L' = L) := by
  have hg0 := hg
  obtain ⟨tp, tc, np, nc, pp, pc, rfl, ht, hn, ⟨rows, hrows, hps, hre⟩, k1, k2, k3⟩ := hg
  have q2 := hl.n
  have hnil := @SlE.nil E 1
  refine CallS.intro (l := [_, _]) _ Try.func49 rfl Try.ntmps49 rfl ?_
  by_cases hv : gcheck g = 0
  · by_cases hm : m < 0 ∨ (g.names.length : Int) ≤ m
    · have he : belowE g m = 2 := by rw [belowE, if_pos hv, if_pos hm]
      rw [belowL, if_neg (by omega), he]
      refine G_seq (G_region ?_)
      (refine G_boxA rfl rfl rfl rfl (.none rfl) ?_; intro b2)
      refine G_val (V_assign rfl rfl) rfl rfl (.none rfl) ?_
      refine G_val (V_assign rfl rfl) rfl rfl (.none rfl) ?_
      refine G_end (X_then (G_seq (G_region ?_)))
      refine G_val (V_loadA rfl rfl (Cells.own (.head _)) rfl) rfl rfl (.none rfl) ?_
      refine G_callv (k := 73) (.mk rfl rfl rfl rfl) rfl rfl (.none rfl) (GCheckR_call _ _ _ _ (by assumption) (by assumption)) ?_
      refine G_val (V_assign rfl rfl) rfl rfl (.none rfl) ?_
      refine G_end (X_then (G_seq (G_seq (G_region ?_))))
      refine G_val (V_move rfl rfl) rfl rfl (.none rfl) ?_
      refine G_val (V_eql rfl rfl rfl) rfl rfl (.none rfl) ?_
      refine G_val (V_move rfl rfl) rfl rfl (.none rfl) ?_
      refine G.bool_t 11 rfl (decide_eq_true (by omega)) ?_
      refine G_val (V_move rfl rfl) rfl rfl (.yes rfl rfl rfl rfl) ?_
      refine G_val (V_lss rfl rfl rfl) rfl rfl (.yes rfl rfl rfl rfl) ?_
      refine G_val (V_move rfl rfl) rfl rfl (.yes rfl rfl rfl rfl) ?_
      apply G_joinOr 6 14 20 rfl
      · intro H1
        dsimp only [List.take]
        simp only [Bool.and_eq_true, Bool.or_eq_true, Bool.not_eq_true', Bool.not_eq_false', Bool.and_eq_false_iff, Bool.or_eq_false_iff, Bool.not_not, decide_eq_true_eq, decide_eq_false_iff_not, ne_eq, Decidable.not_not, Bool.decide_eq_true] at H1
        refine G_stay (.no rfl rfl rfl rfl) rfl rfl ?_
        refine G_stay (.no rfl rfl rfl rfl) rfl rfl ?_
        refine G_stay (.no rfl rfl rfl rfl) rfl rfl ?_
        refine G_stay (.no rfl rfl rfl rfl) rfl rfl ?_
        refine G_stay (.no rfl rfl rfl rfl) rfl rfl ?_
        refine G_val (V_pick_t rfl rfl rfl) rfl rfl (.yes rfl rfl rfl rfl) ?_
        refine G_end ?_
        exact JQ_end 6 rfl rfl (by kernel_rfl)
      · intro H2
        dsimp only [List.take]
        simp only [Bool.and_eq_true, Bool.or_eq_true, Bool.not_eq_true', Bool.not_eq_false', Bool.and_eq_false_iff, Bool.or_eq_false_iff, Bool.not_not, decide_eq_true_eq, decide_eq_false_iff_not, ne_eq, Decidable.not_not, Bool.decide_eq_true] at H2
        refine G_val (V_move rfl rfl) rfl rfl (.yes rfl rfl rfl rfl) ?_
        refine G_val (V_fieldAddr rfl rfl (by decide)) rfl rfl (.yes rfl rfl rfl rfl) ?_
        refine G_val (V_load rfl rfl (Cell.own (.head _) rfl)) rfl rfl (.yes rfl rfl rfl rfl) ?_
        refine G_val (V_lenS rfl rfl) rfl rfl (.yes rfl rfl rfl rfl) ?_
        refine G_val (V_geq rfl rfl rfl) rfl rfl (.yes rfl rfl rfl rfl) ?_
        refine G_val (V_pick_f rfl rfl rfl) rfl rfl (.yes rfl rfl rfl rfl) ?_
        refine G_end ?_
        exact JQ_end 6 rfl rfl (by kernel_rfl)
      dsimp only [List.drop]
      refine G_val (V_pick_t rfl rfl rfl) rfl rfl (.none rfl) ?_
      refine G_end (X_then ?_)
      refine G_cond_t rfl (by simp [*]; done) ?_
      refine G_region ?_
      refine G_val (V_assign rfl rfl) rfl rfl (.none rfl) ?_
      refine G_end (X_then (G_seq (G_seq (G_region ?_))))
      refine G_val (V_move rfl rfl) rfl rfl (.none rfl) ?_
      refine G_val (V_neq rfl rfl rfl) rfl rfl (.none rfl) ?_
      refine G_end (X_then ?_)
      refine G_cond_t rfl (by kernel_rfl) ?_
      refine G_seq (G_region ?_)
      refine G_val (V_move rfl rfl) rfl rfl (.none rfl) ?_
      refine G_val (V_assign rfl rfl) rfl rfl (.none rfl) ?_
      refine G_val (V_assign rfl rfl) rfl rfl (.none rfl) ?_
      refine G_end (X_then (G_ret (X_then_ret ?_)))
      refine G_leaveS (.drop _ (.nil _)) (by exact (.cons (.tmp rfl) (.cons (.tmp rfl) (.nil)))) rfl ?_ ?_
      · exact (.refl _)
      exact ⟨_, ⟨_, ⟨rfl, ⟨(by assumption), rfl⟩⟩⟩⟩
    · have he : belowE g m = 0 := by rw [belowE, if_pos hv, if_neg hm]
      have hva := valid_of hv
      have hw := hva.wf
      have hlen : (belowM g m).length = g.names.length := reachL_len hw (by omega) (by omega)
      rw [belowL, if_pos he, he, hlen, belowM]
      refine G_seq (G_region ?_)
      (refine G_boxA rfl rfl rfl rfl (.none rfl) ?_; intro b2)
      refine G_val (V_assign rfl rfl) rfl rfl (.none rfl) ?_
      refine G_val (V_assign rfl rfl) rfl rfl (.none rfl) ?_
      refine G_end (X_then (G_seq (G_region ?_)))
      refine G_val (V_loadA rfl rfl (Cells.own (.head _)) rfl) rfl rfl (.none rfl) ?_
      refine G_callv (k := 73) (.mk rfl rfl rfl rfl) rfl rfl (.none rfl) (GCheckR_call _ _ _ _ (by assumption) (by assumption)) ?_
      refine G_val (V_assign rfl rfl) rfl rfl (.none rfl) ?_
      refine G_end (X_then (G_seq (G_seq (G_region ?_))))
      refine G_val (V_move rfl rfl) rfl rfl (.none rfl) ?_
      refine G_val (V_eql rfl rfl rfl) rfl rfl (.none rfl) ?_
      refine G_val (V_move rfl rfl) rfl rfl (.none rfl) ?_
      refine G.bool_t 11 rfl (decide_eq_true (by omega)) ?_
      refine G_val (V_move rfl rfl) rfl rfl (.yes rfl rfl rfl rfl) ?_
      refine G_val (V_lss rfl rfl rfl) rfl rfl (.yes rfl rfl rfl rfl) ?_
      refine G_val (V_move rfl rfl) rfl rfl (.yes rfl rfl rfl rfl) ?_
      refine G.bool_f 14 rfl (decide_eq_false (by omega)) ?_
      refine G_val (V_move rfl rfl) rfl rfl (.yes rfl rfl rfl rfl) ?_
      refine G_val (V_fieldAddr rfl rfl (by decide)) rfl rfl (.yes rfl rfl rfl rfl) ?_
      refine G_val (V_load rfl rfl (Cell.own (.head _) rfl)) rfl rfl (.yes rfl rfl rfl rfl) ?_
      refine G_val (V_lenS rfl rfl) rfl rfl (.yes rfl rfl rfl rfl) ?_
      refine G_val (V_geq rfl rfl rfl) rfl rfl (.yes rfl rfl rfl rfl) ?_
      refine G_val (V_pick_f rfl rfl rfl) rfl rfl (.yes rfl rfl rfl rfl) ?_
      refine G_val (V_pick_t rfl rfl rfl) rfl rfl (.none rfl) ?_
      refine G_end (X_then ?_)
      refine G_cond_f rfl (decide_eq_false (by omega)) ?_
      refine G_skip (X_then (G_seq (G_seq (G_region ?_))))
      refine G_val (V_move rfl rfl) rfl rfl (.none rfl) ?_
      refine G_val (V_neq rfl rfl rfl) rfl rfl (.none rfl) ?_
      refine G_end (X_then ?_)
      refine G_cond_f rfl (decide_eq_false (by omega)) ?_
      refine G_skip (X_then (G_seq (G_region ?_)))
      refine G_val (V_loadA rfl rfl (Cells.own (.head _)) rfl) rfl rfl (.none rfl) ?_
      refine G_val (V_move rfl rfl) rfl rfl (.none rfl) ?_
      refine G_call (k := 84) (.mk rfl rfl rfl rfl) rfl rfl (.none rfl) (below_call _ _ _ _ (by assumption) (by assumption) _ (by assumption) (by omega) (by omega)) ?_
      rintro r1 E2 L3 hE4 ⟨z5, ⟨rfl, ⟨Z6, rfl⟩⟩⟩
      replace hg0 := hg0.mono hE4
      replace ht := ht.mono hE4
      replace hn := hn.mono hE4
      replace hps := hps.mono hE4
      replace hnil := hnil.mono hE4
      refine G_val (V_assign rfl rfl) rfl rfl (.none rfl) ?_
      refine G_val (V_assign rfl rfl) rfl rfl (.none rfl) ?_
      refine G_end (X_then (G_ret ?_))
      refine G_leaveS (.drop _ (.nil _)) (by exact (.cons (.tmp rfl) (.cons (.tmp rfl) (.nil)))) rfl ?_ ?_
      · exact hE4
      exact ⟨_, ⟨_, ⟨rfl, ⟨(by assumption), rfl⟩⟩⟩⟩
  · have he : belowE g m = gcheck g := by rw [belowE, if_neg hv]
    rw [belowL, if_neg (by omega), he]
    refine G_seq (G_region ?_)
    (refine G_boxA rfl rfl rfl rfl (.none rfl) ?_; intro b2)
    refine G_val (V_assign rfl rfl) rfl rfl (.none rfl) ?_
    refine G_val (V_assign rfl rfl) rfl rfl (.none rfl) ?_
    refine G_end (X_then (G_seq (G_region ?_)))
    refine G_val (V_loadA rfl rfl (Cells.own (.head _)) rfl) rfl rfl (.none rfl) ?_
    refine G_callv (k := 73) (.mk rfl rfl rfl rfl) rfl rfl (.none rfl) (GCheckR_call _ _ _ _ (by assumption) (by assumption)) ?_
    refine G_val (V_assign rfl rfl) rfl rfl (.none rfl) ?_
    refine G_end (X_then (G_seq (G_seq (G_region ?_))))
    refine G_val (V_move rfl rfl) rfl rfl (.none rfl) ?_
    refine G_val (V_eql rfl rfl rfl) rfl rfl (.none rfl) ?_
    refine G_val (V_move rfl rfl) rfl rfl (.none rfl) ?_
    refine G.bool_f 11 rfl (decide_eq_false (by omega)) ?_
    refine G_stay (.no rfl rfl rfl rfl) rfl rfl ?_
    refine G_stay (.no rfl rfl rfl rfl) rfl rfl ?_
    refine G_stay (.no rfl rfl rfl rfl) rfl rfl ?_
    refine G_stay (.un rfl rfl rfl rfl) rfl rfl ?_
    refine G_stay (.un rfl rfl rfl rfl) rfl rfl ?_
    refine G_stay (.un rfl rfl rfl rfl) rfl rfl ?_
    refine G_stay (.un rfl rfl rfl rfl) rfl rfl ?_
    refine G_stay (.un rfl rfl rfl rfl) rfl rfl ?_
    refine G_stay (.no rfl rfl rfl rfl) rfl rfl ?_
    refine G_val (V_pick_f rfl rfl rfl) rfl rfl (.none rfl) ?_
    refine G_end (X_then ?_)
    refine G_cond_f rfl rfl ?_
    refine G_skip (X_then (G_seq (G_seq (G_region ?_))))
    refine G_val (V_move rfl rfl) rfl rfl (.none rfl) ?_
    refine G_val (V_neq rfl rfl rfl) rfl rfl (.none rfl) ?_
    refine G_end (X_then ?_)
    refine G_cond_t rfl (decide_eq_true (by omega)) ?_
    refine G_seq (G_region ?_)
    refine G_val (V_move rfl rfl) rfl rfl (.none rfl) ?_
    refine G_val (V_assign rfl rfl) rfl rfl (.none rfl) ?_
    refine G_val (V_assign rfl rfl) rfl rfl (.none rfl) ?_
    refine G_end (X_then (G_ret (X_then_ret ?_)))
    refine G_leaveS (.drop _ (.nil _)) (by exact (.cons (.tmp rfl) (.cons (.tmp rfl) (.nil)))) rfl ?_ ?_
    · exact (.refl _)
    exact ⟨_, ⟨_, ⟨rfl, ⟨(by assumption), rfl⟩⟩⟩⟩
end
end Go.Proofs.Ytaoinojdijbhaaa
set_option linter.unusedSimpArgs false
set_option linter.unusedVariables false
set_option maxHeartbeats 2000000
set_option maxRecDepth 20000
namespace Go.Proofs.Ytaoinojdijbhaaa
open Go.RowKit
section
variable (E : Env) (L : List Res)
theorem ReducedR_call (gv : Value) (g : Gr) (hg : GrE E gv g) (hl : Light g) : CallV Try.prog 45 #[gv] E L (.tuple #[.int .i64 (redM g).1, .int .i64 (redM g).2]) := by
  have hg0 := hg
  obtain ⟨tp, tc, np, nc, pp, pc, rfl, ht, hn, ⟨rows, hrows, hps, hre⟩, k1, k2, k3⟩ := hg
  have q2 := hl.n
  refine CallS.toV (CallS.intro (l := [_]) _ Try.func45 rfl Try.ntmps45 rfl ?_)
  by_cases hv : gcheck g = 0
  · have hva := valid_of hv
    have hw := hva.wf
    have hst := hva.start
    have hy := yieldsM_len hva
    have hr := reachM_len hva
    have e := okL_pos hv (yieldsM g)
    have e3 := okL_pos hv (reachM g)
    have e2 : redM g = (match firstF (yieldsM g) with
      | some i => ((i : Int), 16)
      | none => match firstF (reachM g) with
        | some i => ((i : Int), 15)
        | none => (0, 0)) := by rw [redM, if_pos hv]; rfl
    refine G_seq (G_region ?_)
    (refine G_boxA rfl rfl rfl rfl (.none rfl) ?_; intro b1)
    refine G_val (V_assign rfl rfl) rfl rfl (.none rfl) ?_
    refine G_val (V_assign rfl rfl) rfl rfl (.none rfl) ?_
    refine G_end (X_then (G_seq (G_region ?_)))
    refine G_val (V_loadA rfl rfl (Cells.own (.head _)) rfl) rfl rfl (.none rfl) ?_
    refine G_call (k := 34) (.mk rfl rfl rfl rfl) rfl rfl (.none rfl) (YieldsR_call _ _ _ _ (by assumption) (by assumption)) ?_
    rintro r1 E2 L3 hE4 ⟨z5, ⟨z6, ⟨rfl, ⟨Z7, rfl⟩⟩⟩⟩
    replace hg0 := hg0.mono hE4
    replace ht := ht.mono hE4
    replace hn := hn.mono hE4
    replace hps := hps.mono hE4
    refine G_val (V_move rfl rfl) rfl rfl (.none rfl) ?_
    refine G_val (V_extract rfl rfl rfl) rfl rfl (.none rfl) ?_
    refine G_val (V_extract rfl rfl rfl) rfl rfl (.none rfl) ?_
    refine G_val (V_assign rfl rfl) rfl rfl (.none rfl) ?_
    refine G_val (V_assign rfl rfl) rfl rfl (.none rfl) ?_
    refine G_end (X_then (G_seq (G_seq (G_region ?_))))
    refine G_val (V_move rfl rfl) rfl rfl (.none rfl) ?_
    refine G_val (V_neq rfl rfl rfl) rfl rfl (.none rfl) ?_
    refine G_end (X_then ?_)
    refine G_cond_f rfl (decide_eq_false (by omega)) ?_
    refine G_skip (X_then (G_seq (G_seq (G_region ?_))))
    refine G_val (V_assign rfl rfl) rfl rfl (.none rfl) ?_
    refine G_end (X_then (G_block ?_))
    rw [e, hy] at Z7 ⊢
    refine G_loop (α := Nat) (fun i => [(1, .pointer (some ⟨b1, 0, none⟩)), (4, .slice z5 g.names.length z6), (6, .int .i64 i)]) (fun _ => E2) (fun _ => GB b1 g tp tc np nc pp pc :: L)
      (fun i => i ≤ g.names.length ∧ ∀ k, k < i → (hk : k < (yieldsM g).length) → (yieldsM g)[k] = true) (fun i => g.names.length - i) 0 ⟨Nat.zero_le _, fun k hk => by cases hk⟩ ⟨rfl, rfl, rfl, trivial⟩ rfl rfl ?_
    rintro i ⟨hi, hall⟩
    by_cases hlt : i < g.names.length
    · have hlt2 : i < (yieldsM g).length := by omega
      have hb := bools_at hlt2
      cases hc : (yieldsM g)[i] with
      | false =>
        rw [e2, firstF_some hlt2 hc hall]
        refine G_seq (G_seq (G_region ?_))
        refine G_val (V_move rfl rfl) rfl rfl (.none rfl) ?_
        refine G_val (V_move rfl rfl) rfl rfl (.none rfl) ?_
        refine G_val (V_lenS rfl rfl) rfl rfl (.none rfl) ?_
        refine G_val (V_lss rfl rfl rfl) rfl rfl (.none rfl) ?_
        refine G_end (X_then ?_)
        refine G_cond_t rfl (decide_eq_true (by omega)) ?_
        refine G_skip (X_then (G_seq (G_block (G_seq (G_region ?_)))))
        refine G_val (V_move rfl rfl) rfl rfl (.none rfl) ?_
        refine G_val (V_move rfl rfl) rfl rfl (.none rfl) ?_
        refine G_val (V_idxAddr rfl rfl rfl (SlE.rd (by assumption)) (by omega) (by omega)) rfl rfl (.none rfl) ?_
        refine G_val (V_loadS rfl rfl (SlE.rd (by assumption)) (by assumption) (by simp)) rfl rfl (.none rfl) ?_
        refine G_val (V_not rfl rfl) rfl rfl (.none rfl) ?_
        refine G_end (X_then ?_)
        refine G_cond_t rfl (by simp [*]; done) ?_
        refine G_seq (G_region ?_)
        refine G_val (V_move rfl rfl) rfl rfl (.none rfl) ?_
        refine G_val (V_assign rfl rfl) rfl rfl (.none rfl) ?_
        refine G_val (V_assign rfl rfl) rfl rfl (.none rfl) ?_
        refine G_end (X_then (G_ret (X_block_ret (X_then_ret (X_then_ret (X_block_ret (X_then_ret ?_)))))))
        refine G_leaveS (.drop _ (.nil _)) (by exact (.cons (.tmp rfl) (.cons (.tmp rfl) (.nil)))) rfl ?_ ?_
        · exact hE4
        exact ⟨rfl, rfl⟩
      | true =>
        refine G_seq (G_seq (G_region ?_))
        refine G_val (V_move rfl rfl) rfl rfl (.none rfl) ?_
        refine G_val (V_move rfl rfl) rfl rfl (.none rfl) ?_
        refine G_val (V_lenS rfl rfl) rfl rfl (.none rfl) ?_
        refine G_val (V_lss rfl rfl rfl) rfl rfl (.none rfl) ?_
        refine G_end (X_then ?_)
        refine G_cond_t rfl (decide_eq_true (by omega)) ?_
        refine G_skip (X_then (G_seq (G_block (G_seq (G_region ?_)))))
        refine G_val (V_move rfl rfl) rfl rfl (.none rfl) ?_
        refine G_val (V_move rfl rfl) rfl rfl (.none rfl) ?_
        refine G_val (V_idxAddr rfl rfl rfl (SlE.rd (by assumption)) (by omega) (by omega)) rfl rfl (.none rfl) ?_
        refine G_val (V_loadS rfl rfl (SlE.rd (by assumption)) (by assumption) (by simp)) rfl rfl (.none rfl) ?_
        refine G_val (V_not rfl rfl) rfl rfl (.none rfl) ?_
        refine G_end (X_then ?_)
        refine G_cond_f rfl (by simp [*]; done) ?_
        refine G_skip (X_block (X_then (G_region ?_)))
        refine G_val (V_move rfl rfl) rfl rfl (.none rfl) ?_
        refine G_val (V_add_i64 rfl rfl rfl (by omega) (by omega)) rfl rfl (.none rfl) ?_
        refine G_val (V_assign rfl rfl) rfl rfl (.none rfl) ?_
        refine G_end (X_then ?_)
        refine G_again (i + 1) ⟨hlt, ?_⟩ (by omega) ⟨rfl, rfl, rfl, trivial⟩ rfl rfl
        intro k hk hk2
        by_cases he : k = i
        · subst he; exact hc
        · exact hall k (by omega) hk2
    · rw [firstF_none (l := yieldsM g) fun k hk hk2 => hall k (by omega) hk2] at e2
      refine G_seq (G_seq (G_region ?_))
      refine G_val (V_move rfl rfl) rfl rfl (.none rfl) ?_
      refine G_val (V_move rfl rfl) rfl rfl (.none rfl) ?_
      refine G_val (V_lenS rfl rfl) rfl rfl (.none rfl) ?_
      refine G_val (V_lss rfl rfl rfl) rfl rfl (.none rfl) ?_
      refine G_end (X_then ?_)
      refine G_cond_f rfl (decide_eq_false (by omega)) ?_
      refine G_exit (X_then_exit (X_then_exit (X_block_hit (X_then (G_seq (G_region ?_))))))
      refine G_val (V_loadA rfl rfl (Cells.own (.head _)) rfl) rfl rfl (.none rfl) ?_
      refine G_call (k := 37) (.mk rfl rfl rfl rfl) rfl rfl (.none rfl) (ReachedR_call _ _ _ _ (by assumption) (by assumption)) ?_
      rintro r1 E3 L4 hE5 ⟨z7, ⟨z8, ⟨rfl, ⟨Z9, rfl⟩⟩⟩⟩
      replace Z7 := Z7.mono hE5
      replace hg0 := hg0.mono hE5
      replace ht := ht.mono hE5
      replace hn := hn.mono hE5
      replace hps := hps.mono hE5
      refine G_val (V_move rfl rfl) rfl rfl (.none rfl) ?_
      refine G_val (V_extract rfl rfl rfl) rfl rfl (.none rfl) ?_
      refine G_val (V_extract rfl rfl rfl) rfl rfl (.none rfl) ?_
      refine G_val (V_assign rfl rfl) rfl rfl (.none rfl) ?_
      refine G_val (V_assign rfl rfl) rfl rfl (.none rfl) ?_
      refine G_end (X_then (G_seq (G_seq (G_region ?_))))
      refine G_val (V_assign rfl rfl) rfl rfl (.none rfl) ?_
      refine G_end (X_then (G_block ?_))
      have hs2 : SlE E3 1 z7 (okL g (reachM g)).length (bools (okL g (reachM g))) := by assumption
      rw [e3, hr] at hs2 ⊢
      refine G_loop (α := Nat) (fun i => [(7, .slice z7 g.names.length z8), (9, .int .i64 i)]) (fun _ => E3) (fun _ => GB b1 g tp tc np nc pp pc :: L)
        (fun i => i ≤ g.names.length ∧ ∀ k, k < i → (hk : k < (reachM g).length) → (reachM g)[k] = true) (fun i => g.names.length - i) 0 ⟨Nat.zero_le _, fun k hk => by cases hk⟩ ⟨rfl, rfl, trivial⟩ rfl rfl ?_
      rintro j ⟨hj, hjall⟩
      by_cases hjlt : j < g.names.length
      · have hlt2 : j < (reachM g).length := by omega
        have hb := bools_at hlt2
        cases hc : (reachM g)[j] with
        | false =>
          rw [e2, firstF_some hlt2 hc hjall]
          refine G_seq (G_seq (G_region ?_))
          refine G_val (V_move rfl rfl) rfl rfl (.none rfl) ?_
          refine G_val (V_move rfl rfl) rfl rfl (.none rfl) ?_
          refine G_val (V_lenS rfl rfl) rfl rfl (.none rfl) ?_
          refine G_val (V_lss rfl rfl rfl) rfl rfl (.none rfl) ?_
          refine G_end (X_then ?_)
          refine G_cond_t rfl (decide_eq_true (by omega)) ?_
          refine G_skip (X_then (G_seq (G_block (G_seq (G_region ?_)))))
          refine G_val (V_move rfl rfl) rfl rfl (.none rfl) ?_
          refine G_val (V_move rfl rfl) rfl rfl (.none rfl) ?_
          refine G_val (V_idxAddr rfl rfl rfl (SlE.rd (by assumption)) (by omega) (by omega)) rfl rfl (.none rfl) ?_
          refine G_val (V_loadS rfl rfl (SlE.rd (by assumption)) (by assumption) (by simp)) rfl rfl (.none rfl) ?_
          refine G_val (V_not rfl rfl) rfl rfl (.none rfl) ?_
          refine G_end (X_then ?_)
          refine G_cond_t rfl (by simp [*]; done) ?_
          refine G_seq (G_region ?_)
          refine G_val (V_move rfl rfl) rfl rfl (.none rfl) ?_
          refine G_val (V_assign rfl rfl) rfl rfl (.none rfl) ?_
          refine G_val (V_assign rfl rfl) rfl rfl (.none rfl) ?_
          refine G_end (X_then (G_ret (X_block_ret (X_then_ret (X_then_ret (X_block_ret (X_then_ret ?_)))))))
          refine G_leaveS (.drop _ (.nil _)) (by exact (.cons (.tmp rfl) (.cons (.tmp rfl) (.nil)))) rfl ?_ ?_
          · exact (hE4.trans hE5)
          exact ⟨rfl, rfl⟩
        | true =>
          refine G_seq (G_seq (G_region ?_))
          refine G_val (V_move rfl rfl) rfl rfl (.none rfl) ?_
          refine G_val (V_move rfl rfl) rfl rfl (.none rfl) ?_
          refine G_val (V_lenS rfl rfl) rfl rfl (.none rfl) ?_
          refine G_val (V_lss rfl rfl rfl) rfl rfl (.none rfl) ?_
          refine G_end (X_then ?_)
          refine G_cond_t rfl (decide_eq_true (by omega)) ?_
          refine G_skip (X_then (G_seq (G_block (G_seq (G_region ?_)))))
          refine G_val (V_move rfl rfl) rfl rfl (.none rfl) ?_
          refine G_val (V_move rfl rfl) rfl rfl (.none rfl) ?_
          refine G_val (V_idxAddr rfl rfl rfl (SlE.rd (by assumption)) (by omega) (by omega)) rfl rfl (.none rfl) ?_
          refine G_val (V_loadS rfl rfl (SlE.rd (by assumption)) (by assumption) (by simp)) rfl rfl (.none rfl) ?_
          refine G_val (V_not rfl rfl) rfl rfl (.none rfl) ?_
          refine G_end (X_then ?_)
          refine G_cond_f rfl (by simp [*]; done) ?_
          refine G_skip (X_block (X_then (G_region ?_)))
          refine G_val (V_move rfl rfl) rfl rfl (.none rfl) ?_
          refine G_val (V_add_i64 rfl rfl rfl (by omega) (by omega)) rfl rfl (.none rfl) ?_
          refine G_val (V_assign rfl rfl) rfl rfl (.none rfl) ?_
          refine G_end (X_then ?_)
          refine G_again (j + 1) ⟨hjlt, ?_⟩ (by omega) ⟨rfl, rfl, trivial⟩ rfl rfl
          intro k hk hk2
          by_cases he : k = j
          · subst he; exact hc
          · exact hjall k (by omega) hk2
      · rw [firstF_none (l := reachM g) fun k hk hk2 => hjall k (by omega) hk2] at e2
        rw [e2]
        refine G_seq (G_seq (G_region ?_))
        refine G_val (V_move rfl rfl) rfl rfl (.none rfl) ?_
        refine G_val (V_move rfl rfl) rfl rfl (.none rfl) ?_
        refine G_val (V_lenS rfl rfl) rfl rfl (.none rfl) ?_
        refine G_val (V_lss rfl rfl rfl) rfl rfl (.none rfl) ?_
        refine G_end (X_then ?_)
        refine G_cond_f rfl (decide_eq_false (by omega)) ?_
        refine G_exit (X_then_exit (X_then_exit (X_block_hit (X_then (G_seq (G_region ?_))))))
        refine G_val (V_assign rfl rfl) rfl rfl (.none rfl) ?_
        refine G_val (V_assign rfl rfl) rfl rfl (.none rfl) ?_
        refine G_end (X_then (G_ret ?_))
        refine G_leaveS (.drop _ (.nil _)) (by exact (.cons (.tmp rfl) (.cons (.tmp rfl) (.nil)))) rfl ?_ ?_
        · exact (hE4.trans hE5)
        exact ⟨(by kernel_rfl), rfl⟩
  · have e := okL_neg hv (yieldsM g)
    rw [redM, if_neg hv]
    refine G_seq (G_region ?_)
    (refine G_boxA rfl rfl rfl rfl (.none rfl) ?_; intro b1)
    refine G_val (V_assign rfl rfl) rfl rfl (.none rfl) ?_
    refine G_val (V_assign rfl rfl) rfl rfl (.none rfl) ?_
    refine G_end (X_then (G_seq (G_region ?_)))
    refine G_val (V_loadA rfl rfl (Cells.own (.head _)) rfl) rfl rfl (.none rfl) ?_
    refine G_call (k := 34) (.mk rfl rfl rfl rfl) rfl rfl (.none rfl) (YieldsR_call _ _ _ _ (by assumption) (by assumption)) ?_
    rintro r1 E2 L3 hE4 ⟨z5, ⟨z6, ⟨rfl, ⟨Z7, rfl⟩⟩⟩⟩
    replace hg0 := hg0.mono hE4
    replace ht := ht.mono hE4
    replace hn := hn.mono hE4
    replace hps := hps.mono hE4
    refine G_val (V_move rfl rfl) rfl rfl (.none rfl) ?_
    refine G_val (V_extract rfl rfl rfl) rfl rfl (.none rfl) ?_
    refine G_val (V_extract rfl rfl rfl) rfl rfl (.none rfl) ?_
    refine G_val (V_assign rfl rfl) rfl rfl (.none rfl) ?_
    refine G_val (V_assign rfl rfl) rfl rfl (.none rfl) ?_
    refine G_end (X_then (G_seq (G_seq (G_region ?_))))
    refine G_val (V_move rfl rfl) rfl rfl (.none rfl) ?_
    refine G_val (V_neq rfl rfl rfl) rfl rfl (.none rfl) ?_
    refine G_end (X_then ?_)
    refine G_cond_t rfl (decide_eq_true (by omega)) ?_
    refine G_seq (G_region ?_)
    refine G_val (V_move rfl rfl) rfl rfl (.none rfl) ?_
    refine G_val (V_assign rfl rfl) rfl rfl (.none rfl) ?_
    refine G_val (V_assign rfl rfl) rfl rfl (.none rfl) ?_
    refine G_end (X_then (G_ret (X_then_ret ?_)))
    refine G_leaveS (.drop _ (.nil _)) (by exact (.cons (.tmp rfl) (.cons (.tmp rfl) (.nil)))) rfl ?_ ?_
    · exact hE4
    exact ⟨rfl, rfl⟩
theorem EmptyR_call (gv : Value) (g : Gr) (hg : GrE E gv g) (hl : Light g) (rp : Option Addr) (rc : Nat) (r : List Int) (hr : SlE E 1 rp r.length (i64s r)) (h12 : r.length ≤ 1000) (hri : ∀ s, s ∈ r → -9223372036854775808 ≤ s ∧ s ≤ 9223372036854775807) :
    CallV Try.prog 47 #[gv, .slice rp r.length rc] E L (.tuple #[.bool (emptyM g r).1, .int .i64 (emptyM g r).2]) := by
  have hg0 := hg
  obtain ⟨tp, tc, np, nc, pp, pc, rfl, ht, hn, ⟨rows, hrows, hps, hre⟩, k1, k2, k3⟩ := hg
  have q2 := hl.n
  refine CallS.toV (CallS.intro (l := [_, _]) _ Try.func47 rfl Try.ntmps47 rfl ?_)
  by_cases hv : gcheck g = 0
  · have hva := valid_of hv
    have hy := nullM_len hva
    have e := okL_pos hv (nullM g)
    have e2 : emptyM g r = if r.any (fun s => !termB g s && !ntB g s) = true then (false, 14) else (r.all (goodB false (nullM g)), 0) := by rw [emptyM, if_pos hv]
    have htk := hva.toks
    refine G_seq (G_region ?_)
    (refine G_boxA rfl rfl rfl rfl (.none rfl) ?_; intro b2)
    refine G_val (V_assign rfl rfl) rfl rfl (.none rfl) ?_
    refine G_val (V_assign rfl rfl) rfl rfl (.none rfl) ?_
    refine G_end (X_then (G_seq (G_region ?_)))
    refine G_val (V_loadA rfl rfl (Cells.own (.head _)) rfl) rfl rfl (.none rfl) ?_
    refine G_call (k := 39) (.mk rfl rfl rfl rfl) rfl rfl (.none rfl) (NullableR_call _ _ _ _ (by assumption) (by assumption)) ?_
    rintro r1 E2 L3 hE4 ⟨z5, ⟨z6, ⟨rfl, ⟨Z7, rfl⟩⟩⟩⟩
    replace hr := hr.mono hE4
    replace hg0 := hg0.mono hE4
    replace ht := ht.mono hE4
    replace hn := hn.mono hE4
    replace hps := hps.mono hE4
    refine G_val (V_move rfl rfl) rfl rfl (.none rfl) ?_
    refine G_val (V_extract rfl rfl rfl) rfl rfl (.none rfl) ?_
    refine G_val (V_extract rfl rfl rfl) rfl rfl (.none rfl) ?_
    refine G_val (V_assign rfl rfl) rfl rfl (.none rfl) ?_
    refine G_val (V_assign rfl rfl) rfl rfl (.none rfl) ?_
    refine G_end (X_then (G_seq (G_seq (G_region ?_))))
    refine G_val (V_move rfl rfl) rfl rfl (.none rfl) ?_
    refine G_val (V_neq rfl rfl rfl) rfl rfl (.none rfl) ?_
    refine G_end (X_then ?_)
    refine G_cond_f rfl (decide_eq_false (by omega)) ?_
    refine G_skip (X_then (G_seq (G_seq (G_region ?_))))
    refine G_val (V_assign rfl rfl) rfl rfl (.none rfl) ?_
    refine G_end (X_then (G_block ?_))
    rw [e, hy] at Z7 ⊢
    refine G_loop (α := Nat) (fun i => [(1, .slice rp r.length rc), (2, .pointer (some ⟨b2, 0, none⟩)), (6, .slice z5 g.names.length z6), (8, .int .i64 i)]) (fun _ => E2) (fun _ => GB b2 g tp tc np nc pp pc :: L)
      (fun i => i ≤ r.length ∧ ∀ k, k < i → (hk : k < r.length) → (!termB g r[k] && !ntB g r[k]) = false) (fun i => r.length - i) 0 ⟨Nat.zero_le _, fun k hk => by cases hk⟩ ⟨rfl, rfl, rfl, rfl, trivial⟩ rfl rfl ?_
    rintro i ⟨hi, hall⟩
    by_cases hlt : i < r.length
    · have hx := i64s_at hlt
      have hrb := hri _ (List.getElem_mem hlt)
      have again : (!termB g r[i] && !ntB g r[i]) = false → ∀ k, k < i + 1 → (hk : k < r.length) → (!termB g r[k] && !ntB g r[k]) = false := by
        intro h k hk hk2
        by_cases he : k = i
        · subst he; exact h
        · exact hall k (by omega) hk2
      by_cases hnt : 16 ≤ r[i] ∧ r[i] < 16 + (g.names.length : Int)
      · have hgood : (!termB g r[i] && !ntB g r[i]) = false := by simp [ntB, hnt.1, hnt.2]
        refine G_seq (G_seq (G_region ?_))
        refine G_val (V_move rfl rfl) rfl rfl (.none rfl) ?_
        refine G_val (V_move rfl rfl) rfl rfl (.none rfl) ?_
        refine G_val (V_lenS rfl rfl) rfl rfl (.none rfl) ?_
        refine G_val (V_lss rfl rfl rfl) rfl rfl (.none rfl) ?_
        refine G_end (X_then ?_)
        refine G_cond_t rfl (decide_eq_true (by omega)) ?_
        refine G_skip (X_then (G_seq (G_block (G_seq (G_region ?_)))))
        refine G_val (V_move rfl rfl) rfl rfl (.none rfl) ?_
        refine G_val (V_move rfl rfl) rfl rfl (.none rfl) ?_
        refine G_val (V_idxAddr rfl rfl rfl (SlE.rd (by assumption)) (by omega) (by omega)) rfl rfl (.none rfl) ?_
        refine G_val (V_loadS rfl rfl (SlE.rd (by assumption)) (by assumption) (by simp)) rfl rfl (.none rfl) ?_
        refine G_callv (k := 85) (.mk rfl rfl rfl rfl) rfl rfl (.none rfl) (indexn_call _ _ _ (by omega) (by omega)) ?_
        refine G_val (V_assign rfl rfl) rfl rfl (.none rfl) ?_
        refine G_end (X_then (G_seq ?_))
        refine G_draw mixed (by kernel_rfl) ?_
        refine Q_val (V_move rfl rfl) rfl rfl (.none rfl) ?_
        refine Q_val (V_move rfl rfl) rfl rfl (.none rfl) ?_
        refine Q_val (V_lenS rfl rfl) rfl rfl (.none rfl) ?_
        refine Q_val (V_geq rfl rfl rfl) rfl rfl (.none rfl) ?_
        refine Q_val (V_move rfl rfl) rfl rfl (.none rfl) ?_
        refine Q_bool_f 33 rfl (decide_eq_false (by omega)) ?_
        refine Q_val (V_move rfl rfl) rfl rfl (.yes rfl rfl rfl rfl) ?_
        refine Q_val (V_lss rfl rfl rfl) rfl rfl (.yes rfl rfl rfl rfl) ?_
        refine Q_val (V_move rfl rfl) rfl rfl (.yes rfl rfl rfl rfl) ?_
        refine Q_bool_f 36 rfl (decide_eq_false (by omega)) ?_
        refine Q_stay (.no rfl rfl rfl rfl) rfl rfl ?_
        refine Q_stay (.no rfl rfl rfl rfl) rfl rfl ?_
        refine Q_stay (.no rfl rfl rfl rfl) rfl rfl ?_
        refine Q_stay (.no rfl rfl rfl rfl) rfl rfl ?_
        refine Q_stay (.no rfl rfl rfl rfl) rfl rfl ?_
        refine Q_stay (.no rfl rfl rfl rfl) rfl rfl ?_
        refine Q_stay (.un rfl rfl rfl rfl) rfl rfl ?_
        refine Q_stay (.un rfl rfl rfl rfl) rfl rfl ?_
        refine Q_stay (.un rfl rfl rfl rfl) rfl rfl ?_
        refine Q_stay (.un rfl rfl rfl rfl) rfl rfl ?_
        refine Q_stay (.un rfl rfl rfl rfl) rfl rfl ?_
        refine Q_stay (.un rfl rfl rfl rfl) rfl rfl ?_
        refine Q_stay (.un rfl rfl rfl rfl) rfl rfl ?_
        refine Q_stay (.un rfl rfl rfl rfl) rfl rfl ?_
        refine Q_stay (.no rfl rfl rfl rfl) rfl rfl ?_
        refine Q_val (V_pick_f rfl rfl rfl) rfl rfl (.yes rfl rfl rfl rfl) ?_
        refine Q_val (V_pick_f rfl rfl rfl) rfl rfl (.none rfl) ?_
        refine Q_end ?_
        refine X_then ?_
        refine G_cond_f rfl rfl ?_
        refine G_skip (X_block (X_then (G_region ?_)))
        refine G_val (V_move rfl rfl) rfl rfl (.none rfl) ?_
        refine G_val (V_add_i64 rfl rfl rfl (by omega) (by omega)) rfl rfl (.none rfl) ?_
        refine G_val (V_assign rfl rfl) rfl rfl (.none rfl) ?_
        refine G_end (X_then ?_)
        exact G_again (i + 1) ⟨hlt, again hgood⟩ (by omega) ⟨rfl, rfl, rfl, rfl, trivial⟩ rfl rfl
      · by_cases ht : 0 ≤ r[i] ∧ r[i] < g.toks.length
        · have hgood : (!termB g r[i] && !ntB g r[i]) = false := by simp [termB, ht.1, ht.2]
          refine G_seq (G_seq (G_region ?_))
          refine G_val (V_move rfl rfl) rfl rfl (.none rfl) ?_
          refine G_val (V_move rfl rfl) rfl rfl (.none rfl) ?_
          refine G_val (V_lenS rfl rfl) rfl rfl (.none rfl) ?_
          refine G_val (V_lss rfl rfl rfl) rfl rfl (.none rfl) ?_
          refine G_end (X_then ?_)
          refine G_cond_t rfl (decide_eq_true (by omega)) ?_
          refine G_skip (X_then (G_seq (G_block (G_seq (G_region ?_)))))
          refine G_val (V_move rfl rfl) rfl rfl (.none rfl) ?_
          refine G_val (V_move rfl rfl) rfl rfl (.none rfl) ?_
          refine G_val (V_idxAddr rfl rfl rfl (SlE.rd (by assumption)) (by omega) (by omega)) rfl rfl (.none rfl) ?_
          refine G_val (V_loadS rfl rfl (SlE.rd (by assumption)) (by assumption) (by simp)) rfl rfl (.none rfl) ?_
          refine G_callv (k := 85) (.mk rfl rfl rfl rfl) rfl rfl (.none rfl) (indext_call _ _ _ (by omega)) ?_
          refine G_val (V_assign rfl rfl) rfl rfl (.none rfl) ?_
          refine G_end (X_then (G_seq ?_))
          refine G_draw mixed (by kernel_rfl) ?_
          refine Q_val (V_move rfl rfl) rfl rfl (.none rfl) ?_
          refine Q_val (V_move rfl rfl) rfl rfl (.none rfl) ?_
          refine Q_val (V_lenS rfl rfl) rfl rfl (.none rfl) ?_
          refine Q_val (V_geq rfl rfl rfl) rfl rfl (.none rfl) ?_
          refine Q_val (V_move rfl rfl) rfl rfl (.none rfl) ?_
          refine Q_bool_f 33 rfl (decide_eq_false (by omega)) ?_
          refine Q_val (V_move rfl rfl) rfl rfl (.yes rfl rfl rfl rfl) ?_
          refine Q_val (V_lss rfl rfl rfl) rfl rfl (.yes rfl rfl rfl rfl) ?_
          refine Q_val (V_move rfl rfl) rfl rfl (.yes rfl rfl rfl rfl) ?_
          refine Q_bool_t 36 rfl (by kernel_rfl) ?_
          refine Q_val (V_move rfl rfl) rfl rfl (.yes rfl rfl rfl rfl) ?_
          refine Q_val (V_move rfl rfl) rfl rfl (.yes rfl rfl rfl rfl) ?_
          refine Q_val (V_idxAddr rfl rfl rfl (SlE.rd (by assumption)) (by omega) (by omega)) rfl rfl (.yes rfl rfl rfl rfl) ?_
          refine Q_val (V_loadS rfl rfl (SlE.rd (by assumption)) (by assumption) (by simp)) rfl rfl (.yes rfl rfl rfl rfl) ?_
          refine Q_val (V_lss rfl rfl rfl) rfl rfl (.yes rfl rfl rfl rfl) ?_
          refine Q_val (V_move rfl rfl) rfl rfl (.yes rfl rfl rfl rfl) ?_
          refine Q_bool_f 42 rfl (decide_eq_false (by omega)) ?_
          refine Q_val (V_move rfl rfl) rfl rfl (.yes rfl rfl rfl rfl) ?_
          refine Q_val (V_move rfl rfl) rfl rfl (.yes rfl rfl rfl rfl) ?_
          refine Q_val (V_idxAddr rfl rfl rfl (SlE.rd (by assumption)) (by omega) (by omega)) rfl rfl (.yes rfl rfl rfl rfl) ?_
          refine Q_val (V_loadS rfl rfl (SlE.rd (by assumption)) (by assumption) (by simp)) rfl rfl (.yes rfl rfl rfl rfl) ?_
          refine Q_val (V_fieldAddr rfl rfl (by decide)) rfl rfl (.yes rfl rfl rfl rfl) ?_
          refine Q_val (V_load rfl rfl (Cell.own (.head _) rfl)) rfl rfl (.yes rfl rfl rfl rfl) ?_
          refine Q_val (V_lenS rfl rfl) rfl rfl (.yes rfl rfl rfl rfl) ?_
          refine Q_val (V_geq rfl rfl rfl) rfl rfl (.yes rfl rfl rfl rfl) ?_
          refine Q_val (V_pick_f rfl rfl rfl) rfl rfl (.yes rfl rfl rfl rfl) ?_
          refine Q_val (V_pick_t rfl rfl rfl) rfl rfl (.yes rfl rfl rfl rfl) ?_
          refine Q_val (V_pick_f rfl rfl rfl) rfl rfl (.none rfl) ?_
          refine Q_end ?_
          refine X_then ?_
          refine G_cond_f rfl (decide_eq_false (by omega)) ?_
          refine G_skip (X_block (X_then (G_region ?_)))
          refine G_val (V_move rfl rfl) rfl rfl (.none rfl) ?_
          refine G_val (V_add_i64 rfl rfl rfl (by omega) (by omega)) rfl rfl (.none rfl) ?_
          refine G_val (V_assign rfl rfl) rfl rfl (.none rfl) ?_
          refine G_end (X_then ?_)
          exact G_again (i + 1) ⟨hlt, again hgood⟩ (by omega) ⟨rfl, rfl, rfl, rfl, trivial⟩ rfl rfl
        · have hbad : (!termB g r[i] && !ntB g r[i]) = true := by
            have h1 : termB g r[i] = false := by simp [termB]; omega
            have h2 : ntB g r[i] = false := by simp [ntB]; omega
            rw [h1, h2]; rfl
          have e3 : emptyM g r = (false, 14) := by rw [e2, if_pos (any_of hlt hbad)]
          rw [e3]
          by_cases h16 : r[i] < 16
          · refine G_seq ?_
            refine G_seq (G_region ?_)
            refine G_val (V_move rfl rfl) rfl rfl (.none rfl) ?_
            refine G_val (V_move rfl rfl) rfl rfl (.none rfl) ?_
            refine G_val (V_lenS rfl rfl) rfl rfl (.none rfl) ?_
            refine G_val (V_lss rfl rfl rfl) rfl rfl (.none rfl) ?_
            refine G_end (X_then ?_)
            refine G_cond_t rfl (decide_eq_true (by omega)) ?_
            refine G_skip (X_then (G_seq (G_block (G_seq (G_region ?_)))))
            refine G_val (V_move rfl rfl) rfl rfl (.none rfl) ?_
            refine G_val (V_move rfl rfl) rfl rfl (.none rfl) ?_
            refine G_val (V_idxAddr rfl rfl rfl (SlE.rd (by assumption)) (by omega) (by omega)) rfl rfl (.none rfl) ?_
            refine G_val (V_loadS rfl rfl (SlE.rd (by assumption)) (by assumption) (by simp)) rfl rfl (.none rfl) ?_
            refine G_callv (k := 85) (.mk rfl rfl rfl rfl) rfl rfl (.none rfl) (indext_call _ _ _ (by assumption)) ?_
            refine G_val (V_assign rfl rfl) rfl rfl (.none rfl) ?_
            refine G_end (X_then (G_seq ?_))
            refine G_draw mixed (by kernel_rfl) ?_
            refine Q_val (V_move rfl rfl) rfl rfl (.none rfl) ?_
            refine Q_val (V_move rfl rfl) rfl rfl (.none rfl) ?_
            refine Q_val (V_lenS rfl rfl) rfl rfl (.none rfl) ?_
            refine Q_val (V_geq rfl rfl rfl) rfl rfl (.none rfl) ?_
            refine Q_val (V_move rfl rfl) rfl rfl (.none rfl) ?_
            refine Q_bool_f 33 rfl (decide_eq_false (by omega)) ?_
            refine Q_val (V_move rfl rfl) rfl rfl (.yes rfl rfl rfl rfl) ?_
            refine Q_val (V_lss rfl rfl rfl) rfl rfl (.yes rfl rfl rfl rfl) ?_
            refine Q_val (V_move rfl rfl) rfl rfl (.yes rfl rfl rfl rfl) ?_
            refine Q_bool_t 36 rfl (by kernel_rfl) ?_
            refine Q_val (V_move rfl rfl) rfl rfl (.yes rfl rfl rfl rfl) ?_
            refine Q_val (V_move rfl rfl) rfl rfl (.yes rfl rfl rfl rfl) ?_
            refine Q_val (V_idxAddr rfl rfl rfl (SlE.rd (by assumption)) (by omega) (by omega)) rfl rfl (.yes rfl rfl rfl rfl) ?_
            refine Q_val (V_loadS rfl rfl (SlE.rd (by assumption)) (by assumption) (by simp)) rfl rfl (.yes rfl rfl rfl rfl) ?_
            refine Q_val (V_lss rfl rfl rfl) rfl rfl (.yes rfl rfl rfl rfl) ?_
            refine Q_val (V_move rfl rfl) rfl rfl (.yes rfl rfl rfl rfl) ?_
            apply Q_joinOr 9 42 51 rfl
            · intro H1
              dsimp only [List.take]
              simp only [Bool.and_eq_true, Bool.or_eq_true, Bool.not_eq_true', Bool.not_eq_false', Bool.and_eq_false_iff, Bool.or_eq_false_iff, Bool.not_not, decide_eq_true_eq, decide_eq_false_iff_not, ne_eq, Decidable.not_not, Bool.decide_eq_true] at H1
              refine Q_stay (.no rfl rfl rfl rfl) rfl rfl ?_
              refine Q_stay (.no rfl rfl rfl rfl) rfl rfl ?_
              refine Q_stay (.no rfl rfl rfl rfl) rfl rfl ?_
              refine Q_stay (.no rfl rfl rfl rfl) rfl rfl ?_
              refine Q_stay (.no rfl rfl rfl rfl) rfl rfl ?_
              refine Q_stay (.no rfl rfl rfl rfl) rfl rfl ?_
              refine Q_stay (.no rfl rfl rfl rfl) rfl rfl ?_
              refine Q_stay (.no rfl rfl rfl rfl) rfl rfl ?_
              refine Q_val (V_pick_t rfl rfl rfl) rfl rfl (.yes rfl rfl rfl rfl) ?_
              exact FQ_end 9 rfl rfl (by kernel_rfl)
            · intro H2
              dsimp only [List.take]
              simp only [Bool.and_eq_true, Bool.or_eq_true, Bool.not_eq_true', Bool.not_eq_false', Bool.and_eq_false_iff, Bool.or_eq_false_iff, Bool.not_not, decide_eq_true_eq, decide_eq_false_iff_not, ne_eq, Decidable.not_not, Bool.decide_eq_true] at H2
              refine Q_val (V_move rfl rfl) rfl rfl (.yes rfl rfl rfl rfl) ?_
              refine Q_val (V_move rfl rfl) rfl rfl (.yes rfl rfl rfl rfl) ?_
              refine Q_val (V_idxAddr rfl rfl rfl (SlE.rd (by assumption)) (by omega) (by omega)) rfl rfl (.yes rfl rfl rfl rfl) ?_
              refine Q_val (V_loadS rfl rfl (SlE.rd (by assumption)) (by assumption) (by simp)) rfl rfl (.yes rfl rfl rfl rfl) ?_
              refine Q_val (V_fieldAddr rfl rfl (by decide)) rfl rfl (.yes rfl rfl rfl rfl) ?_
              refine Q_val (V_load rfl rfl (Cell.own (.head _) rfl)) rfl rfl (.yes rfl rfl rfl rfl) ?_
              refine Q_val (V_lenS rfl rfl) rfl rfl (.yes rfl rfl rfl rfl) ?_
              refine Q_val (V_geq rfl rfl rfl) rfl rfl (.yes rfl rfl rfl rfl) ?_
              refine Q_val (V_pick_f rfl rfl rfl) rfl rfl (.yes rfl rfl rfl rfl) ?_
              exact FQ_end 9 rfl rfl (by kernel_rfl)
            dsimp only [List.drop]
            refine Q_val (V_pick_t rfl rfl rfl) rfl rfl (.yes rfl rfl rfl rfl) ?_
            refine Q_val (V_pick_f rfl rfl rfl) rfl rfl (.none rfl) ?_
            refine Q_end ?_
            refine X_then ?_
            refine G_cond rfl (fun H3 => ?_) (fun H3 => ?_)
            · simp only [Bool.and_eq_true, Bool.or_eq_true, Bool.not_eq_true', Bool.not_eq_false', Bool.and_eq_false_iff, Bool.or_eq_false_iff, Bool.not_not, decide_eq_true_eq, decide_eq_false_iff_not, ne_eq, Decidable.not_not, Bool.decide_eq_true] at H3
              refine G_seq (G_region ?_)
              refine G_val (V_assign rfl rfl) rfl rfl (.none rfl) ?_
              refine G_val (V_assign rfl rfl) rfl rfl (.none rfl) ?_
              refine G_end (X_then (G_ret (X_block_ret (X_then_ret (X_then_ret (X_block_ret (X_then_ret ?_)))))))
              refine G_leaveS (.drop _ (.nil _)) (by exact (.cons (.tmp rfl) (.cons (.tmp rfl) (.nil)))) rfl ?_ ?_
              · exact hE4
              exact ⟨(by kernel_rfl), rfl⟩
            simp only [Bool.and_eq_true, Bool.or_eq_true, Bool.not_eq_true', Bool.not_eq_false', Bool.and_eq_false_iff, Bool.or_eq_false_iff, Bool.not_not, decide_eq_true_eq, decide_eq_false_iff_not, ne_eq, Decidable.not_not, Bool.decide_eq_true] at H3
            (exfalso; omega)
          · refine G_seq ?_
            refine G_seq (G_region ?_)
            refine G_val (V_move rfl rfl) rfl rfl (.none rfl) ?_
            refine G_val (V_move rfl rfl) rfl rfl (.none rfl) ?_
            refine G_val (V_lenS rfl rfl) rfl rfl (.none rfl) ?_
            refine G_val (V_lss rfl rfl rfl) rfl rfl (.none rfl) ?_
            refine G_end (X_then ?_)
            refine G_cond_t rfl (decide_eq_true (by omega)) ?_
            refine G_skip (X_then (G_seq (G_block (G_seq (G_region ?_)))))
            refine G_val (V_move rfl rfl) rfl rfl (.none rfl) ?_
            refine G_val (V_move rfl rfl) rfl rfl (.none rfl) ?_
            refine G_val (V_idxAddr rfl rfl rfl (SlE.rd (by assumption)) (by omega) (by omega)) rfl rfl (.none rfl) ?_
            refine G_val (V_loadS rfl rfl (SlE.rd (by assumption)) (by assumption) (by simp)) rfl rfl (.none rfl) ?_
            refine G_callv (k := 85) (.mk rfl rfl rfl rfl) rfl rfl (.none rfl) (indexn_call _ _ _ (by omega) (by omega)) ?_
            refine G_val (V_assign rfl rfl) rfl rfl (.none rfl) ?_
            refine G_end (X_then (G_seq ?_))
            refine G_draw mixed (by kernel_rfl) ?_
            refine Q_val (V_move rfl rfl) rfl rfl (.none rfl) ?_
            refine Q_val (V_move rfl rfl) rfl rfl (.none rfl) ?_
            refine Q_val (V_lenS rfl rfl) rfl rfl (.none rfl) ?_
            refine Q_val (V_geq rfl rfl rfl) rfl rfl (.none rfl) ?_
            refine Q_val (V_move rfl rfl) rfl rfl (.none rfl) ?_
            refine Q_bool_t 33 rfl (decide_eq_true (by omega)) ?_
            refine Q_stay (.no rfl rfl rfl rfl) rfl rfl ?_
            refine Q_stay (.no rfl rfl rfl rfl) rfl rfl ?_
            refine Q_stay (.no rfl rfl rfl rfl) rfl rfl ?_
            refine Q_stay (.un rfl rfl rfl rfl) rfl rfl ?_
            refine Q_stay (.un rfl rfl rfl rfl) rfl rfl ?_
            refine Q_stay (.un rfl rfl rfl rfl) rfl rfl ?_
            refine Q_stay (.un rfl rfl rfl rfl) rfl rfl ?_
            refine Q_stay (.un rfl rfl rfl rfl) rfl rfl ?_
            refine Q_stay (.un rfl rfl rfl rfl) rfl rfl ?_
            refine Q_stay (.un rfl rfl rfl rfl) rfl rfl ?_
            refine Q_stay (.un rfl rfl rfl rfl) rfl rfl ?_
            refine Q_stay (.un rfl rfl rfl rfl) rfl rfl ?_
            refine Q_stay (.un rfl rfl rfl rfl) rfl rfl ?_
            refine Q_stay (.un rfl rfl rfl rfl) rfl rfl ?_
            refine Q_stay (.un rfl rfl rfl rfl) rfl rfl ?_
            refine Q_stay (.un rfl rfl rfl rfl) rfl rfl ?_
            refine Q_stay (.un rfl rfl rfl rfl) rfl rfl ?_
            refine Q_stay (.un rfl rfl rfl rfl) rfl rfl ?_
            refine Q_stay (.no rfl rfl rfl rfl) rfl rfl ?_
            refine Q_val (V_pick_t rfl rfl rfl) rfl rfl (.none rfl) ?_
            refine Q_end ?_
            refine X_then ?_
            refine G_cond_t rfl rfl ?_
            refine G_seq (G_region ?_)
            refine G_val (V_assign rfl rfl) rfl rfl (.none rfl) ?_
            refine G_val (V_assign rfl rfl) rfl rfl (.none rfl) ?_
            refine G_end (X_then (G_ret (X_block_ret (X_then_ret (X_then_ret (X_block_ret (X_then_ret ?_)))))))
            refine G_leaveS (.drop _ (.nil _)) (by exact (.cons (.tmp rfl) (.cons (.tmp rfl) (.nil)))) rfl ?_ ?_
            · exact hE4
            exact ⟨(by kernel_rfl), rfl⟩
    · have e3 : emptyM g r = (r.all (goodB false (nullM g)), 0) := by rw [e2, if_neg (by rw [any_none fun k hk => hall k (by omega) hk]; decide)]
      have hsy : ∀ s, s ∈ r → s < 16 + (g.names.length : Int) := by
        intro s hs
        obtain ⟨k, hk, rfl⟩ := List.getElem_of_mem hs
        have := hall k (by omega) hk
        simp only [termB, ntB] at this
        simp at this
        omega
      have hrd := Z7.rd (L := GB b2 g tp tc np nc pp pc :: L)
      rw [e3]
      refine G_seq (G_seq (G_region ?_))
      refine G_val (V_move rfl rfl) rfl rfl (.none rfl) ?_
      refine G_val (V_move rfl rfl) rfl rfl (.none rfl) ?_
      refine G_val (V_lenS rfl rfl) rfl rfl (.none rfl) ?_
      refine G_val (V_lss rfl rfl rfl) rfl rfl (.none rfl) ?_
      refine G_end (X_then ?_)
      refine G_cond_f rfl (decide_eq_false (by omega)) ?_
      refine G_exit (X_then_exit (X_then_exit (X_block_hit (X_then (G_seq (G_region ?_))))))
      refine G_val (V_move rfl rfl) rfl rfl (.none rfl) ?_
      refine G_val (V_move rfl rfl) rfl rfl (.none rfl) ?_
      refine G_callv (k := 88) (.mk rfl rfl rfl rfl) rfl rfl (.none rfl) (all_call _ _ _ _ _ _ _ _ _ _ (by assumption) (by assumption) (by assumption) (by omega) (by assumption) (by assumption)) ?_
      refine G_val (V_assign rfl rfl) rfl rfl (.none rfl) ?_
      refine G_val (V_assign rfl rfl) rfl rfl (.none rfl) ?_
      refine G_end (X_then (G_ret ?_))
      refine G_leaveS (.drop _ (.nil _)) (by exact (.cons (.tmp rfl) (.cons (.tmp rfl) (.nil)))) rfl ?_ ?_
      · exact hE4
      exact ⟨rfl, rfl⟩
  · have e := okL_neg hv (nullM g)
    rw [emptyM, if_neg hv]
    refine G_seq (G_region ?_)
    (refine G_boxA rfl rfl rfl rfl (.none rfl) ?_; intro b2)
    refine G_val (V_assign rfl rfl) rfl rfl (.none rfl) ?_
    refine G_val (V_assign rfl rfl) rfl rfl (.none rfl) ?_
    refine G_end (X_then (G_seq (G_region ?_)))
    refine G_val (V_loadA rfl rfl (Cells.own (.head _)) rfl) rfl rfl (.none rfl) ?_
    refine G_call (k := 39) (.mk rfl rfl rfl rfl) rfl rfl (.none rfl) (NullableR_call _ _ _ _ (by assumption) (by assumption)) ?_
    rintro r1 E2 L3 hE4 ⟨z5, ⟨z6, ⟨rfl, ⟨Z7, rfl⟩⟩⟩⟩
    replace hr := hr.mono hE4
    replace hg0 := hg0.mono hE4
    replace ht := ht.mono hE4
    replace hn := hn.mono hE4
    replace hps := hps.mono hE4
    refine G_val (V_move rfl rfl) rfl rfl (.none rfl) ?_
    refine G_val (V_extract rfl rfl rfl) rfl rfl (.none rfl) ?_
    refine G_val (V_extract rfl rfl rfl) rfl rfl (.none rfl) ?_
    refine G_val (V_assign rfl rfl) rfl rfl (.none rfl) ?_
    refine G_val (V_assign rfl rfl) rfl rfl (.none rfl) ?_
    refine G_end (X_then (G_seq (G_seq (G_region ?_))))
    refine G_val (V_move rfl rfl) rfl rfl (.none rfl) ?_
    refine G_val (V_neq rfl rfl rfl) rfl rfl (.none rfl) ?_
    refine G_end (X_then ?_)
    refine G_cond_t rfl (decide_eq_true (by omega)) ?_
    refine G_seq (G_region ?_)
    refine G_val (V_move rfl rfl) rfl rfl (.none rfl) ?_
    refine G_val (V_assign rfl rfl) rfl rfl (.none rfl) ?_
    refine G_val (V_assign rfl rfl) rfl rfl (.none rfl) ?_
    refine G_end (X_then (G_ret (X_then_ret ?_)))
    refine G_leaveS (.drop _ (.nil _)) (by exact (.cons (.tmp rfl) (.cons (.tmp rfl) (.nil)))) rfl ?_ ?_
    · exact hE4
    exact ⟨rfl, rfl⟩
end
end Go.Proofs.Ytaoinojdijbhaaa
set_option linter.unusedSimpArgs false
set_option linter.unusedVariables false
set_option maxHeartbeats 2000000
set_option maxRecDepth 20000
namespace Go.Proofs.Ytaoinojdijbhaaa
open Go.RowKit
section
variable (E : Env) (L : List Res)
theorem SameGrammar_call (gv hv : Value) (g : Gr) (hg : GrE E gv g) (hh : GrE E hv g) (hl : Light g) : CallV Try.prog 30 #[gv, hv] E L (.bool true) := by
  obtain ⟨tp, tc, np, nc, pp, pc, rfl, ht, hn, ⟨rows, hrows, hps, hre⟩, k1, k2, k3⟩ := hg
  obtain ⟨tp', tc', np', nc', pp', pc', rfl, ht', hn', ⟨rows', hrows', hps', hre'⟩, k1', k2', k3'⟩ := hh
  have hlen : g.prods.length = rows.length := by rw [← hrows]; simp
  have hlen' : g.prods.length = rows'.length := by rw [← hrows']; simp
  have q1 := hl.t; have q2 := hl.n; have q3 := hl.p
  refine CallS.toV (CallS.intro (l := [_, _]) _ Try.func30 rfl Try.ntmps30 rfl ?_)
  refine G_seq (G_region ?_)
  (refine G_boxA rfl rfl rfl rfl (.none rfl) ?_; intro b2)
  (refine G_boxA rfl rfl rfl rfl (.none rfl) ?_; intro b3)
  refine G_val (V_assign rfl rfl) rfl rfl (.none rfl) ?_
  refine G_end (X_then (G_seq (G_seq (G_region ?_))))
  refine G_val (V_fieldAddr rfl rfl (by decide)) rfl rfl (.none rfl) ?_
  refine G_val (V_load rfl rfl (Cell.own (.tail _ (.head _)) rfl)) rfl rfl (.none rfl) ?_
  refine G_val (V_fieldAddr rfl rfl (by decide)) rfl rfl (.none rfl) ?_
  refine G_val (V_load rfl rfl (Cell.own (.head _) rfl)) rfl rfl (.none rfl) ?_
  refine G_val (V_neq rfl rfl rfl) rfl rfl (.none rfl) ?_
  refine G_val (V_move rfl rfl) rfl rfl (.none rfl) ?_
  refine G.bool_f 11 rfl (decide_eq_false (by omega)) ?_
  refine G_val (V_fieldAddr rfl rfl (by decide)) rfl rfl (.yes rfl rfl rfl rfl) ?_
  refine G_val (V_load rfl rfl (Cell.own (.tail _ (.head _)) rfl)) rfl rfl (.yes rfl rfl rfl rfl) ?_
  refine G_val (V_fieldAddr rfl rfl (by decide)) rfl rfl (.yes rfl rfl rfl rfl) ?_
  refine G_val (V_load rfl rfl (Cell.own (.head _) rfl)) rfl rfl (.yes rfl rfl rfl rfl) ?_
  refine G_callv (k := 79) (.mk rfl rfl rfl rfl) rfl rfl (.yes rfl rfl rfl rfl) (SameTexts_call' _ _ _ _ _ _ _ _ _ _ (by assumption) (by assumption) (by omega) (by omega)) ?_
  refine G_val (V_not rfl rfl) rfl rfl (.yes rfl rfl rfl rfl) ?_
  refine G_val (V_pick_f rfl rfl rfl) rfl rfl (.none rfl) ?_
  refine G_val (V_move rfl rfl) rfl rfl (.none rfl) ?_
  refine G.bool_f 19 rfl (by simp [*]; done) ?_
  refine G_val (V_fieldAddr rfl rfl (by decide)) rfl rfl (.yes rfl rfl rfl rfl) ?_
  refine G_val (V_load rfl rfl (Cell.own (.tail _ (.head _)) rfl)) rfl rfl (.yes rfl rfl rfl rfl) ?_
  refine G_val (V_fieldAddr rfl rfl (by decide)) rfl rfl (.yes rfl rfl rfl rfl) ?_
  refine G_val (V_load rfl rfl (Cell.own (.head _) rfl)) rfl rfl (.yes rfl rfl rfl rfl) ?_
  refine G_val (V_sneq rfl rfl rfl) rfl rfl (.yes rfl rfl rfl rfl) ?_
  refine G_val (V_pick_f rfl rfl rfl) rfl rfl (.none rfl) ?_
  refine G_val (V_move rfl rfl) rfl rfl (.none rfl) ?_
  refine G.bool_f 26 rfl (by simp [*]; done) ?_
  refine G_val (V_fieldAddr rfl rfl (by decide)) rfl rfl (.yes rfl rfl rfl rfl) ?_
  refine G_val (V_load rfl rfl (Cell.own (.tail _ (.head _)) rfl)) rfl rfl (.yes rfl rfl rfl rfl) ?_
  refine G_val (V_fieldAddr rfl rfl (by decide)) rfl rfl (.yes rfl rfl rfl rfl) ?_
  refine G_val (V_load rfl rfl (Cell.own (.head _) rfl)) rfl rfl (.yes rfl rfl rfl rfl) ?_
  refine G_callv (k := 79) (.mk rfl rfl rfl rfl) rfl rfl (.yes rfl rfl rfl rfl) (SameTexts_call' _ _ _ _ _ _ _ _ _ _ (by assumption) (by assumption) (by omega) (by omega)) ?_
  refine G_val (V_not rfl rfl) rfl rfl (.yes rfl rfl rfl rfl) ?_
  refine G_val (V_pick_f rfl rfl rfl) rfl rfl (.none rfl) ?_
  refine G_val (V_move rfl rfl) rfl rfl (.none rfl) ?_
  refine G.bool_f 34 rfl (by simp [*]; done) ?_
  refine G_val (V_fieldAddr rfl rfl (by decide)) rfl rfl (.yes rfl rfl rfl rfl) ?_
  refine G_val (V_load rfl rfl (Cell.own (.tail _ (.head _)) rfl)) rfl rfl (.yes rfl rfl rfl rfl) ?_
  refine G_val (V_fieldAddr rfl rfl (by decide)) rfl rfl (.yes rfl rfl rfl rfl) ?_
  refine G_val (V_load rfl rfl (Cell.own (.head _) rfl)) rfl rfl (.yes rfl rfl rfl rfl) ?_
  refine G_val (V_neq rfl rfl rfl) rfl rfl (.yes rfl rfl rfl rfl) ?_
  refine G_val (V_pick_f rfl rfl rfl) rfl rfl (.none rfl) ?_
  refine G_val (V_move rfl rfl) rfl rfl (.none rfl) ?_
  refine G.bool_f 41 rfl (decide_eq_false (by omega)) ?_
  refine G_val (V_fieldAddr rfl rfl (by decide)) rfl rfl (.yes rfl rfl rfl rfl) ?_
  refine G_val (V_load rfl rfl (Cell.own (.tail _ (.head _)) rfl)) rfl rfl (.yes rfl rfl rfl rfl) ?_
  refine G_val (V_lenS rfl rfl) rfl rfl (.yes rfl rfl rfl rfl) ?_
  refine G_val (V_fieldAddr rfl rfl (by decide)) rfl rfl (.yes rfl rfl rfl rfl) ?_
  refine G_val (V_load rfl rfl (Cell.own (.head _) rfl)) rfl rfl (.yes rfl rfl rfl rfl) ?_
  refine G_val (V_lenS rfl rfl) rfl rfl (.yes rfl rfl rfl rfl) ?_
  refine G_val (V_neq rfl rfl rfl) rfl rfl (.yes rfl rfl rfl rfl) ?_
  refine G_val (V_pick_f rfl rfl rfl) rfl rfl (.none rfl) ?_
  refine G_end (X_then ?_)
  refine G_cond_f rfl (decide_eq_false (by omega)) ?_
  refine G_skip (X_then (G_seq (G_seq (G_region ?_))))
  refine G_val (V_assign rfl rfl) rfl rfl (.none rfl) ?_
  refine G_end (X_then (G_block ?_))
  refine G_loop (α := Nat) (fun i => [(2, .pointer (some ⟨b2, 0, none⟩)), (3, .pointer (some ⟨b3, 0, none⟩)), (5, .int .i64 i)]) (fun _ => E) (fun _ => .blk b3 (.cells #[.int .i64 g.k, .slice tp' g.toks.length tc', .string (S g.sep), .slice np' g.names.length nc', .int .i64 g.start, .slice pp' g.prods.length pc'] 26 (0, 0)) :: .blk b2 (.cells #[.int .i64 g.k, .slice tp g.toks.length tc, .string (S g.sep), .slice np g.names.length nc, .int .i64 g.start, .slice pp g.prods.length pc] 26 (0, 0)) :: L)
    (fun i => i ≤ rows.length) (fun i => rows.length - i) 0 (Nat.zero_le _) ⟨rfl, rfl, rfl, trivial⟩ rfl rfl ?_
  intro i hi
  by_cases hlt : i < rows.length
  · have hg1 := List.getElem?_eq_getElem hlt
    have hlt' : i < rows'.length := by omega
    have hg2 := List.getElem?_eq_getElem hlt'
    have he : rows'[i].2.2 = rows[i].2.2 := by
      have h1 : (rows'.map (·.2.2))[i]? = (rows.map (·.2.2))[i]? := by rw [hrows, hrows']
      simpa [hlt, hlt'] using h1
    have hyl := prows_left hg1
    have hyr := prows_right hg1
    have hyl' := prows_left hg2
    have hyr' := prows_right hg2
    have hre1 := hre.get hg1
    have hre2 := hre'.get hg2
    rw [he] at hyl' hyr' hre2
    have hp : rows[i].2.2 ∈ g.prods := by rw [← hrows]; exact List.mem_map.2 ⟨rows[i], List.getElem_mem hlt, rfl⟩
    have h8 := hl.ps _ hp
    refine G_seq (G_seq (G_region ?_))
    refine G_val (V_move rfl rfl) rfl rfl (.none rfl) ?_
    refine G_val (V_fieldAddr rfl rfl (by decide)) rfl rfl (.none rfl) ?_
    refine G_val (V_load rfl rfl (Cell.own (.tail _ (.head _)) rfl)) rfl rfl (.none rfl) ?_
    refine G_val (V_lenS rfl rfl) rfl rfl (.none rfl) ?_
    refine G_val (V_lss rfl rfl rfl) rfl rfl (.none rfl) ?_
    refine G_end (X_then ?_)
    refine G_cond_t rfl (decide_eq_true (by omega)) ?_
    refine G_skip (X_then (G_seq (G_block (G_seq ?_))))
    refine G_draw mixed (by kernel_rfl) ?_
    refine Q_val (V_fieldAddr rfl rfl (by decide)) rfl rfl (.none rfl) ?_
    refine Q_val (V_load rfl rfl (Cell.own (.tail _ (.head _)) rfl)) rfl rfl (.none rfl) ?_
    refine Q_val (V_move rfl rfl) rfl rfl (.none rfl) ?_
    refine Q_val (V_idxAddr rfl rfl rfl (SlE.rd (by assumption)) (by omega) (by omega)) rfl rfl (.none rfl) ?_
    refine Q_val (V_fieldAddrE rfl rfl (by assumption) (by omega) (by decide)) rfl rfl (.none rfl) ?_
    refine Q_val (V_loadS rfl rfl (SlE.rd (by assumption)) hyl (by simp)) rfl rfl (.none rfl) ?_
    refine Q_val (V_fieldAddr rfl rfl (by decide)) rfl rfl (.none rfl) ?_
    refine Q_val (V_load rfl rfl (Cell.own (.head _) rfl)) rfl rfl (.none rfl) ?_
    refine Q_val (V_move rfl rfl) rfl rfl (.none rfl) ?_
    refine Q_val (V_idxAddr rfl rfl rfl (SlE.rd (by assumption)) (by omega) (by omega)) rfl rfl (.none rfl) ?_
    refine Q_val (V_fieldAddrE rfl rfl (by assumption) (by omega) (by decide)) rfl rfl (.none rfl) ?_
    refine Q_val (V_loadS rfl rfl (SlE.rd (by assumption)) hyl' (by simp)) rfl rfl (.none rfl) ?_
    refine Q_val (V_neq rfl rfl rfl) rfl rfl (.none rfl) ?_
    refine Q_val (V_move rfl rfl) rfl rfl (.none rfl) ?_
    refine Q_bool_f 70 rfl (decide_eq_false (by omega)) ?_
    refine Q_val (V_fieldAddr rfl rfl (by decide)) rfl rfl (.yes rfl rfl rfl rfl) ?_
    refine Q_val (V_load rfl rfl (Cell.own (.tail _ (.head _)) rfl)) rfl rfl (.yes rfl rfl rfl rfl) ?_
    refine Q_val (V_move rfl rfl) rfl rfl (.yes rfl rfl rfl rfl) ?_
    refine Q_val (V_idxAddr rfl rfl rfl (SlE.rd (by assumption)) (by omega) (by omega)) rfl rfl (.yes rfl rfl rfl rfl) ?_
    refine Q_val (V_fieldAddrE rfl rfl (by assumption) (by omega) (by decide)) rfl rfl (.yes rfl rfl rfl rfl) ?_
    refine Q_val (V_loadS rfl rfl (SlE.rd (by assumption)) (by assumption) (by simp)) rfl rfl (.yes rfl rfl rfl rfl) ?_
    refine Q_val (V_fieldAddr rfl rfl (by decide)) rfl rfl (.yes rfl rfl rfl rfl) ?_
    refine Q_val (V_load rfl rfl (Cell.own (.head _) rfl)) rfl rfl (.yes rfl rfl rfl rfl) ?_
    refine Q_val (V_move rfl rfl) rfl rfl (.yes rfl rfl rfl rfl) ?_
    refine Q_val (V_idxAddr rfl rfl rfl (SlE.rd (by assumption)) (by omega) (by omega)) rfl rfl (.yes rfl rfl rfl rfl) ?_
    refine Q_val (V_fieldAddrE rfl rfl (by assumption) (by omega) (by decide)) rfl rfl (.yes rfl rfl rfl rfl) ?_
    refine Q_val (V_loadS rfl rfl (SlE.rd (by assumption)) (by assumption) (by simp)) rfl rfl (.yes rfl rfl rfl rfl) ?_
    refine Q_callv (k := 27) (.mk rfl rfl rfl rfl) rfl rfl (.yes rfl rfl rfl rfl) (SameInts_call' _ _ _ _ _ _ _ _ _ _ (by assumption) (by assumption) (by omega) (by omega)) ?_
    refine Q_val (V_not rfl rfl) rfl rfl (.yes rfl rfl rfl rfl) ?_
    refine Q_val (V_pick_f rfl rfl rfl) rfl rfl (.none rfl) ?_
    refine Q_end ?_
    refine X_then ?_
    refine G_cond_f rfl (by simp [*]; done) ?_
    refine G_skip (X_block (X_then (G_region ?_)))
    refine G_val (V_move rfl rfl) rfl rfl (.none rfl) ?_
    refine G_val (V_add_i64 rfl rfl rfl (by omega) (by omega)) rfl rfl (.none rfl) ?_
    refine G_val (V_assign rfl rfl) rfl rfl (.none rfl) ?_
    refine G_end (X_then ?_)
    exact G_again (i + 1) hlt (by omega) ⟨rfl, rfl, rfl, trivial⟩ rfl rfl
  · refine G_seq ?_
    refine G_seq (G_region ?_)
    refine G_val (V_move rfl rfl) rfl rfl (.none rfl) ?_
    refine G_val (V_fieldAddr rfl rfl (by decide)) rfl rfl (.none rfl) ?_
    refine G_val (V_load rfl rfl (Cell.own (.tail _ (.head _)) rfl)) rfl rfl (.none rfl) ?_
    refine G_val (V_lenS rfl rfl) rfl rfl (.none rfl) ?_
    refine G_val (V_lss rfl rfl rfl) rfl rfl (.none rfl) ?_
    refine G_end (X_then ?_)
    refine G_cond_f rfl (decide_eq_false (by omega)) ?_
    refine G_exit (X_then_exit (X_then_exit (X_block_hit (X_then (G_seq (G_region ?_))))))
    refine G_val (V_assign rfl rfl) rfl rfl (.none rfl) ?_
    refine G_end (X_then (G_ret ?_))
    refine G_leaveS (.drop _ (.drop _ (.nil _))) (by exact (.cons (.tmp rfl) (.nil))) rfl ?_ ?_
    · exact (.refl _)
    exact ⟨(by kernel_rfl), rfl⟩
end
end Go.Proofs.Ytaoinojdijbhaaa
set_option linter.unusedSimpArgs false
set_option linter.unusedVariables false
set_option maxHeartbeats 2000000
set_option maxRecDepth 20000
namespace Go.Proofs.Ytaoinojdijbhaaa
open Go.RowKit
section
variable (E : Env) (L : List Res)
theorem OwnTexts_call' (p : Option Addr) (c : Nat) (l : List (List UInt8)) (hl : SlE E 1 p l.length (strs l)) (hn : l.length ≤ 1000000000) :
    CallS Try.prog 71 #[.slice p l.length c] E L (fun r E' L' => ∃ a c', r = .slice a l.length c' ∧ SlE E' 1 a l.length (strs l) ∧ l.length ≤ c' ∧ L' = L) := by
  refine CallS.intro (l := [.slice p l.length c]) _ Try.func71 rfl Try.ntmps71 rfl ?_
  refine G_seq (G_region ?_)
  refine G_val (V_assign rfl rfl) rfl rfl (.none rfl) ?_
  refine G_end (X_then (G_seq (G_region ?_)))
  refine G_lit0 rfl rfl rfl (.none rfl) ?_
  intro b3
  refine G_val (V_move rfl rfl) rfl rfl (.none rfl) ?_
  refine G_append rfl rfl rfl (SlE.rd hl) (strs_one l) (by omega) (by omega) rfl rfl (.none rfl) (fun _ _ => .head _ _ _) ?_
  intro a5 c5
  refine G.freezeSl (.head _ _) ?_
  intro E1 hE1 hal hc
  simp only [Nat.zero_add, List.nil_append] at hal hc ⊢
  refine G_val (V_assign rfl rfl) rfl rfl (.none rfl) ?_
  refine G_end (X_then (G_ret ?_))
  refine G_leaveS (.nil _) (by exact (.cons (.tmp rfl) (.nil))) rfl ?_ ?_
  · exact hE1
  exact ⟨_, ⟨_, ⟨rfl, ⟨(by assumption), ⟨(by assumption), rfl⟩⟩⟩⟩⟩
theorem OwnGrammar_call (gv : Value) (g : Gr) (hg : GrE E gv g) (hl : Light g) : CallS Try.prog 18 #[gv] E L (fun r E' L' => GrE E' r g ∧ L' = L) := by
  obtain ⟨tp, tc, np, nc, pp, pc, rfl, ht, hn, ⟨rows, hrows, hps, hre⟩, k1, k2, k3⟩ := hg
  have hlen : g.prods.length = rows.length := by rw [← hrows]; simp
  have q1 := hl.t; have q2 := hl.n; have q3 := hl.p
  refine CallS.intro (l := [_]) _ Try.func18 rfl Try.ntmps18 rfl ?_
  refine G_seq (G_region ?_)
  (refine G_boxA rfl rfl rfl rfl (.none rfl) ?_; intro b1)
  (refine G_alloc rfl rfl rfl (.none rfl) ?_; intro b2)
  refine G_end (X_then (G_seq (G_region ?_)))
  refine G_val (V_fieldAddr rfl rfl (by decide)) rfl rfl (.none rfl) ?_
  refine G_val (V_load rfl rfl (Cell.own (.tail _ (.head _)) rfl)) rfl rfl (.none rfl) ?_
  refine G_call (k := 71) (.mk rfl rfl rfl rfl) rfl rfl (.none rfl) (OwnTexts_call' _ _ _ _ _ (by assumption) (by omega)) ?_
  rintro r1 E2 L3 hE4 ⟨z5, ⟨z6, ⟨rfl, ⟨Z7, ⟨Z8, rfl⟩⟩⟩⟩⟩
  replace ht := ht.mono hE4
  replace hn := hn.mono hE4
  replace hps := hps.mono hE4
  refine G_val (V_fieldAddr rfl rfl (by decide)) rfl rfl (.none rfl) ?_
  refine G_storeAt rfl rfl rfl rfl rfl rfl (.none rfl) (.tail _ (.head _ _ _)) (Nat.le_of_ble_eq_true rfl) (by simp only [putAll, Nat.zero_add, Nat.reduceAdd, List.setIfInBounds_toArray, List.set_cons_succ, List.set_cons_zero]; rfl) ?_
  refine G_end (X_then (G_seq (G_region ?_)))
  refine G_val (V_fieldAddr rfl rfl (by decide)) rfl rfl (.none rfl) ?_
  refine G_val (V_load rfl rfl (Cell.own (.tail _ (.head _)) rfl)) rfl rfl (.none rfl) ?_
  refine G_call (k := 71) (.mk rfl rfl rfl rfl) rfl rfl (.none rfl) (OwnTexts_call' _ _ _ _ _ (by assumption) (by omega)) ?_
  rintro r9 E10 L11 hE12 ⟨z13, ⟨z14, ⟨rfl, ⟨Z15, ⟨Z16, rfl⟩⟩⟩⟩⟩
  replace Z7 := Z7.mono hE12
  replace ht := ht.mono hE12
  replace hn := hn.mono hE12
  replace hps := hps.mono hE12
  refine G_val (V_fieldAddr rfl rfl (by decide)) rfl rfl (.none rfl) ?_
  refine G_storeAt rfl rfl rfl rfl rfl rfl (.none rfl) (.tail _ (.head _ _ _)) (Nat.le_of_ble_eq_true rfl) (by simp only [putAll, Nat.zero_add, Nat.reduceAdd, List.setIfInBounds_toArray, List.set_cons_succ, List.set_cons_zero]; rfl) ?_
  refine G_end (X_then (G_seq (G_region ?_)))
  refine G_val (V_assign rfl rfl) rfl rfl (.none rfl) ?_
  refine G_end (X_then (G_seq (G_seq (G_region ?_))))
  refine G_val (V_assign rfl rfl) rfl rfl (.none rfl) ?_
  refine G_end (X_then (G_block ?_))
  replace hre := (hre.mono hE4).mono hE12
  refine G.nilSl 62 2 ?_
  refine G_loop (α := Nat × Env × Option Addr × Nat × List Row) (fun x => [(1, .pointer (some ⟨b1, 0, none⟩)), (2, .pointer (some ⟨b2, 0, none⟩)), (3, .slice x.2.2.1 x.1 x.2.2.2.1), (4, .int .i64 x.1)]) (fun x => x.2.1)
    (fun x => .sl 62 2 x.2.2.1 x.1 x.2.2.2.1 (prows x.2.2.2.2) :: .blk b2 (.cells #[.int .i64 0, .slice none 0 0, .string ⟨#[]⟩, .slice none 0 0, .int .i64 0, .slice none 0 0] 26 (0, 0)) :: .blk b1 (.cells #[.int .i64 g.k, .slice z5 g.toks.length z6, .string (S g.sep), .slice z13 g.names.length z14, .int .i64 g.start, .slice pp g.prods.length pc] 26 (0, 0)) :: L)
    (fun x => E10.Le x.2.1 ∧ x.1 ≤ rows.length ∧ x.2.2.2.2.map (·.2.2) = (rows.take x.1).map (·.2.2) ∧ RowsE x.2.1 x.2.2.2.2) (fun x => rows.length - x.1) (0, E10, none, 0, [])
    ⟨.refl _, Nat.zero_le _, rfl, fun r hr => (by cases hr)⟩ ⟨rfl, rfl, rfl, rfl, trivial⟩ rfl rfl ?_
  rintro ⟨i, E, a, ca, rs⟩ ⟨hE, hi, hrs, hrE⟩
  simp only at hE hi hrs hrE ⊢
  replace hps := hps.mono hE
  replace hre := hre.mono hE
  have hrl : rs.length = i := by have := congrArg List.length hrs; simp at this; omega
  by_cases hlt : i < rows.length
  · have hg1 := List.getElem?_eq_getElem hlt
    have hyl := prows_left hg1
    have hyr := prows_right hg1
    have hre1 := hre.get hg1
    have hp : rows[i].2.2 ∈ g.prods := by rw [← hrows]; exact List.mem_map.2 ⟨rows[i], List.getElem_mem hlt, rfl⟩
    have h8 := hl.ps _ hp
    have htk : (rows.take (i + 1)).map (·.2.2) = (rows.take i).map (·.2.2) ++ [rows[i].2.2] := by rw [List.take_succ_eq_append_getElem hlt, List.map_append]; rfl
    have hrl2 := prows_len rs
    refine G_seq (G_seq (G_region ?_))
    refine G_val (V_move rfl rfl) rfl rfl (.none rfl) ?_
    refine G_val (V_fieldAddr rfl rfl (by decide)) rfl rfl (.none rfl) ?_
    refine G_val (V_load rfl rfl (Cell.own (.tail _ (.tail _ (.head _))) rfl)) rfl rfl (.none rfl) ?_
    refine G_val (V_lenS rfl rfl) rfl rfl (.none rfl) ?_
    refine G_val (V_lss rfl rfl rfl) rfl rfl (.none rfl) ?_
    refine G_end (X_then ?_)
    refine G_cond_t rfl (decide_eq_true (by omega)) ?_
    refine G_skip (X_then (G_seq (G_block ?_)))
    refine G_drawX 16 [(0, 0), (1, 0), (2, 1), (3, 0), (4, 1), (5, 0), (6, 1), (7, 0), (8, 1), (9, 0), (10, 1), (11, 0), (12, 1), (13, 3), (14, 0), (15, 2)] mixed (by kernel_rfl) ?_
    refine F_pure rfl (fun _ _ => V_move rfl rfl) rfl rfl (.none rfl) ?_
    refine F_pure rfl (fun _ _ => V_fieldAddr rfl rfl (by decide)) rfl rfl (.none rfl) ?_
    refine F_load rfl (.tail _ (.tail _ (.head _))) (V_load rfl rfl (Cell.own (.head _) rfl)) rfl rfl (.none rfl) ?_
    refine F_pure rfl (fun _ _ => V_move rfl rfl) rfl rfl (.none rfl) ?_
    refine F_loadE rfl (V_idxAddr rfl rfl rfl (SlE.rd (by assumption)) (by omega) (by omega)) rfl rfl (.none rfl) ?_
    refine F_pure rfl (fun _ _ => V_fieldAddrX rfl rfl (by assumption) (by omega) (by decide)) rfl rfl (.none rfl) ?_
    refine F_loadE rfl (V_loadS rfl rfl (SlE.rd (by assumption)) hyl (by simp)) rfl rfl (.none rfl) ?_
    refine F_pure rfl (fun _ _ => V_fieldAddr rfl rfl (by decide)) rfl rfl (.none rfl) ?_
    refine F_load rfl (.tail _ (.tail _ (.head _))) (V_load rfl rfl (Cell.own (.head _) rfl)) rfl rfl (.none rfl) ?_
    refine F_pure rfl (fun _ _ => V_move rfl rfl) rfl rfl (.none rfl) ?_
    refine F_loadE rfl (V_idxAddr rfl rfl rfl (SlE.rd (by assumption)) (by omega) (by omega)) rfl rfl (.none rfl) ?_
    refine F_pure rfl (fun _ _ => V_fieldAddrX rfl rfl (by assumption) (by omega) (by decide)) rfl rfl (.none rfl) ?_
    refine F_loadE rfl (V_loadS rfl rfl (SlE.rd (by assumption)) (by assumption) (by simp)) rfl rfl (.none rfl) ?_
    apply F_call (k := 32) rfl (.mk rfl rfl rfl rfl) rfl rfl (.none rfl)
    · (intro L0; refine CallS.mono (OwnInts_call _ _ _ _ _ (by assumption) (by omega)) ?_; exact fun _ _ _ _ h => h)
    · (rintro L0 r E' L' ⟨z1, ⟨z2, ⟨rfl, ⟨Z3, rfl⟩⟩⟩⟩; exact ⟨rfl, ⟨_, ⟨_, ⟨rfl, ⟨(by assumption), rfl⟩⟩⟩⟩⟩)
    rintro r4 E5 hE6 ⟨z7, ⟨z8, ⟨rfl, ⟨Z9, _⟩⟩⟩⟩
    replace hps := hps.mono hE6
    replace hre1 := hre1.mono hE6
    refine F_pure rfl (fun _ _ => V_build rfl rfl (by simp [fillV, setLs, setL, Value.cells]; rfl)) rfl rfl (.none rfl) ?_
    (refine F_litZ rfl rfl rfl (by decide) (by simp [fillS, zeros, setLs, setL, Value.cells, List.range, List.range.loop]; rfl) (by rfl) rfl rfl (.none rfl) ?_; intro b35 E35 hE35 hs35)
    replace Z9 := Z9.mono hE35
    replace hps := hps.mono hE35
    replace hre1 := hre1.mono hE35
    (refine F_end (.nil _) ?_; dsimp only [List.drop])
    (refine G_append rfl rfl rfl (SlE.rd (by assumption)) (by simp [Value.oneCell']) (by omega) (by omega) rfl rfl (.none rfl) (fun _ _ => (.head _ _ _)) ?_; intro a36 c36)
    refine G_val (V_assign rfl rfl) rfl rfl (.none rfl) ?_
    refine G_end (X_block (X_then (G_region ?_)))
    refine G_val (V_move rfl rfl) rfl rfl (.none rfl) ?_
    refine G_val (V_add_i64 rfl rfl rfl (by omega) (by omega)) rfl rfl (.none rfl) ?_
    refine G_val (V_assign rfl rfl) rfl rfl (.none rfl) ?_
    refine G_end (X_then ?_)
    have hap := prows_append rs [(z7, z8, rows[i].2.2)]
    refine G_again (i + 1, E35, a36, c36, rs ++ [(z7, z8, rows[i].2.2)]) ⟨(hE.trans hE6).trans hE35, hlt, by rw [List.map_append, hrs, htk]; rfl, ?_⟩ (by simp only; omega) ⟨rfl, rfl, rfl, rfl, trivial⟩ rfl (by rw [hap]; rfl)
    intro r hr
    rcases List.mem_append.1 hr with h | h
    · exact ((hrE.mono hE6).mono hE35) r h
    · rw [List.mem_singleton.1 h]; assumption
  · refine G.freezeSl (.head _ _) ?_
    intro E1 hE1 hal hc
    have hi2 : i = rows.length := by omega
    have hfin : GrE E1 (.agg #[.int .i64 g.k, .slice z5 g.toks.length z6, .string (S g.sep), .slice z13 g.names.length z14, .int .i64 g.start, .slice a i ca]) g := by
      have := GrE.mk (E := E1) (g := g) (pp := a) (pc := ca) ((Z7.mono hE).mono hE1) ((Z15.mono hE).mono hE1) ⟨rs, by rw [hrs, hi2, List.take_length, hrows], by rw [hlen, ← hi2]; exact hal, hrE.mono hE1⟩ Z8 Z16 (by omega)
      rwa [hlen, ← hi2] at this
    refine G_seq (G_seq (G_region ?_))
    refine G_val (V_move rfl rfl) rfl rfl (.none rfl) ?_
    refine G_val (V_fieldAddr rfl rfl (by decide)) rfl rfl (.none rfl) ?_
    refine G_val (V_load rfl rfl (Cell.own (.tail _ (.head _)) rfl)) rfl rfl (.none rfl) ?_
    refine G_val (V_lenS rfl rfl) rfl rfl (.none rfl) ?_
    refine G_val (V_lss rfl rfl rfl) rfl rfl (.none rfl) ?_
    refine G_end (X_then ?_)
    refine G_cond_f rfl (decide_eq_false (by omega)) ?_
    refine G_exit (X_then_exit (X_then_exit (X_block_hit (X_then (G_seq (G_region ?_))))))
    refine G_val (V_move rfl rfl) rfl rfl (.none rfl) ?_
    refine G_val (V_fieldAddr rfl rfl (by decide)) rfl rfl (.none rfl) ?_
    refine G_storeAt rfl rfl rfl rfl rfl rfl (.none rfl) (.tail _ (.head _ _ _)) (Nat.le_of_ble_eq_true rfl) (by simp only [putAll, Nat.zero_add, Nat.reduceAdd, List.setIfInBounds_toArray, List.set_cons_succ, List.set_cons_zero]; rfl) ?_
    refine G_end (X_then (G_seq (G_region ?_)))
    refine G_val (V_loadA rfl rfl (Cells.own (.tail _ (.head _))) rfl) rfl rfl (.none rfl) ?_
    refine G_storeA rfl rfl rfl rfl (by simp [Value.oneCell']) rfl (.none rfl) (.head _ _ _) rfl ?_
    refine G_end (X_then (G_ret ?_))
    refine G_leaveS (.drop _ (.drop _ (.nil _))) (by exact (.cons (.cellA rfl (Cells.own (.head _)) rfl) (.nil))) rfl ?_ ?_
    · exact (((hE4.trans hE12).trans hE).trans hE1)
    exact ⟨(by assumption), rfl⟩
end
end Go.Proofs.Ytaoinojdijbhaaa
set_option linter.unusedSimpArgs false
set_option linter.unusedVariables false
set_option maxHeartbeats 2000000
set_option maxRecDepth 20000
namespace Go.Proofs.Ytaoinojdijbhaaa
open Go.RowKit
abbrev heavyB (g : Gr) : Bool := (decide ((10 : Int) < g.toks.length) || decide ((10 : Int) < g.names.length) || decide ((30 : Int) < g.prods.length) || decide ((40 : Int) < g.sep.length) || !g.toks.all fun s => decide ((s.length : Int) ≤ 40)) || !g.names.all fun s => decide ((s.length : Int) ≤ 40)
theorem heavy_iff {g : Gr} : heavyB g = false ↔ g.toks.length ≤ 10 ∧ g.names.length ≤ 10 ∧ g.prods.length ≤ 30 ∧ g.sep.length ≤ 40 ∧ (∀ s, s ∈ g.toks → s.length ≤ 40) ∧ ∀ s, s ∈ g.names → s.length ≤ 40 := by
  simp only [heavyB, Bool.or_eq_false_iff, decide_eq_false_iff_not, Bool.not_eq_false', List.all_eq_true, decide_eq_true_eq]
  constructor
  · rintro ⟨⟨⟨⟨⟨h1, h2⟩, h3⟩, h4⟩, h5⟩, h6⟩
    exact ⟨by omega, by omega, by omega, by omega, fun s hs => by have := h5 s hs; omega, fun s hs => by have := h6 s hs; omega⟩
  · rintro ⟨h1, h2, h3, h4, h5, h6⟩
    exact ⟨⟨⟨⟨⟨by omega, by omega⟩, by omega⟩, by omega⟩, fun s hs => by have := h5 s hs; omega⟩, fun s hs => by have := h6 s hs; omega⟩
section
variable (E : Env) (L : List Res)
theorem LightGrammar_call (gv : Value) (g : Gr) (hg : GrE E gv g) (h1 : g.toks.length ≤ 9223372036854775807) (h2 : g.names.length ≤ 9223372036854775807) (h3 : g.prods.length ≤ 9223372036854775807) (h4 : ∀ p, p ∈ g.prods → p.2.length ≤ 9223372036854775807) : CallV Try.prog 21 #[gv] E L (.bool (lightB g)) := by
  obtain ⟨tp, tc, np, nc, pp, pc, rfl, ht, hn, ⟨rows, hrows, hps, hre⟩, k1, k2, k3⟩ := hg
  have hlen : g.prods.length = rows.length := by rw [← hrows]; simp
  refine CallS.toV (CallS.intro (l := [_]) _ Try.func21 rfl Try.ntmps21 rfl ?_)
  cases hc : heavyB g with
  | true =>
    have hno : lightB g = false := by
      refine Bool.eq_false_iff.2 fun h => ?_
      have hl := lightB_iff.1 h
      rw [heavy_iff.2 ⟨hl.t, hl.n, hl.p, hl.sep, hl.ts, hl.ns⟩] at hc
      cases hc
    rw [hno]
    refine G_seq (G_region ?_)
    (refine G_boxA rfl rfl rfl rfl (.none rfl) ?_; intro b1)
    refine G_val (V_assign rfl rfl) rfl rfl (.none rfl) ?_
    refine G_end (X_then (G_seq (G_seq (G_region ?_))))
    refine G_val (V_fieldAddr rfl rfl (by decide)) rfl rfl (.none rfl) ?_
    refine G_val (V_load rfl rfl (Cell.own (.head _) rfl)) rfl rfl (.none rfl) ?_
    refine G_val (V_lenS rfl rfl) rfl rfl (.none rfl) ?_
    refine G_val (V_gtr rfl rfl rfl) rfl rfl (.none rfl) ?_
    refine G_val (V_move rfl rfl) rfl rfl (.none rfl) ?_
    apply G_joinOr 5 8 13 rfl
    · intro H1
      dsimp only [List.take]
      simp only [Bool.and_eq_true, Bool.or_eq_true, Bool.not_eq_true', Bool.not_eq_false', Bool.and_eq_false_iff, Bool.or_eq_false_iff, Bool.not_not, decide_eq_true_eq, decide_eq_false_iff_not, ne_eq, Decidable.not_not, Bool.decide_eq_true] at H1
      refine G_stay (.no rfl rfl rfl rfl) rfl rfl ?_
      refine G_stay (.no rfl rfl rfl rfl) rfl rfl ?_
      refine G_stay (.no rfl rfl rfl rfl) rfl rfl ?_
      refine G_stay (.no rfl rfl rfl rfl) rfl rfl ?_
      refine G_val (V_pick_t rfl rfl rfl) rfl rfl (.none rfl) ?_
      refine G_end ?_
      exact JQ_end 5 rfl rfl (by kernel_rfl)
    · intro H2
      dsimp only [List.take]
      simp only [Bool.and_eq_true, Bool.or_eq_true, Bool.not_eq_true', Bool.not_eq_false', Bool.and_eq_false_iff, Bool.or_eq_false_iff, Bool.not_not, decide_eq_true_eq, decide_eq_false_iff_not, ne_eq, Decidable.not_not, Bool.decide_eq_true] at H2
      refine G_val (V_fieldAddr rfl rfl (by decide)) rfl rfl (.yes rfl rfl rfl rfl) ?_
      refine G_val (V_load rfl rfl (Cell.own (.head _) rfl)) rfl rfl (.yes rfl rfl rfl rfl) ?_
      refine G_val (V_lenS rfl rfl) rfl rfl (.yes rfl rfl rfl rfl) ?_
      refine G_val (V_gtr rfl rfl rfl) rfl rfl (.yes rfl rfl rfl rfl) ?_
      refine G_val (V_pick_f rfl rfl rfl) rfl rfl (.none rfl) ?_
      refine G_end ?_
      exact JQ_end 5 rfl rfl (by kernel_rfl)
    dsimp only [List.drop]
    refine G_val (V_move rfl rfl) rfl rfl (.none rfl) ?_
    apply G_joinOr 5 14 19 rfl
    · intro H3
      dsimp only [List.take]
      simp only [Bool.and_eq_true, Bool.or_eq_true, Bool.not_eq_true', Bool.not_eq_false', Bool.and_eq_false_iff, Bool.or_eq_false_iff, Bool.not_not, decide_eq_true_eq, decide_eq_false_iff_not, ne_eq, Decidable.not_not, Bool.decide_eq_true] at H3
      refine G_stay (.no rfl rfl rfl rfl) rfl rfl ?_
      refine G_stay (.no rfl rfl rfl rfl) rfl rfl ?_
      refine G_stay (.no rfl rfl rfl rfl) rfl rfl ?_
      refine G_stay (.no rfl rfl rfl rfl) rfl rfl ?_
      refine G_val (V_pick_t rfl rfl rfl) rfl rfl (.none rfl) ?_
      refine G_end ?_
      exact JQ_end 5 rfl rfl (by kernel_rfl)
    · intro H4
      dsimp only [List.take]
      simp only [Bool.and_eq_true, Bool.or_eq_true, Bool.not_eq_true', Bool.not_eq_false', Bool.and_eq_false_iff, Bool.or_eq_false_iff, Bool.not_not, decide_eq_true_eq, decide_eq_false_iff_not, ne_eq, Decidable.not_not, Bool.decide_eq_true] at H4
      refine G_val (V_fieldAddr rfl rfl (by decide)) rfl rfl (.yes rfl rfl rfl rfl) ?_
      refine G_val (V_load rfl rfl (Cell.own (.head _) rfl)) rfl rfl (.yes rfl rfl rfl rfl) ?_
      refine G_val (V_lenS rfl rfl) rfl rfl (.yes rfl rfl rfl rfl) ?_
      refine G_val (V_gtr rfl rfl rfl) rfl rfl (.yes rfl rfl rfl rfl) ?_
      refine G_val (V_pick_f rfl rfl rfl) rfl rfl (.none rfl) ?_
      refine G_end ?_
      exact JQ_end 5 rfl rfl (by kernel_rfl)
    dsimp only [List.drop]
    refine G_val (V_move rfl rfl) rfl rfl (.none rfl) ?_
    apply G_joinOr 5 20 25 rfl
    · intro H5
      dsimp only [List.take]
      simp only [Bool.and_eq_true, Bool.or_eq_true, Bool.not_eq_true', Bool.not_eq_false', Bool.and_eq_false_iff, Bool.or_eq_false_iff, Bool.not_not, decide_eq_true_eq, decide_eq_false_iff_not, ne_eq, Decidable.not_not, Bool.decide_eq_true] at H5
      refine G_stay (.no rfl rfl rfl rfl) rfl rfl ?_
      refine G_stay (.no rfl rfl rfl rfl) rfl rfl ?_
      refine G_stay (.no rfl rfl rfl rfl) rfl rfl ?_
      refine G_stay (.no rfl rfl rfl rfl) rfl rfl ?_
      refine G_val (V_pick_t rfl rfl rfl) rfl rfl (.none rfl) ?_
      refine G_end ?_
      exact JQ_end 5 rfl rfl (by kernel_rfl)
    · intro H6
      dsimp only [List.take]
      simp only [Bool.and_eq_true, Bool.or_eq_true, Bool.not_eq_true', Bool.not_eq_false', Bool.and_eq_false_iff, Bool.or_eq_false_iff, Bool.not_not, decide_eq_true_eq, decide_eq_false_iff_not, ne_eq, Decidable.not_not, Bool.decide_eq_true] at H6
      refine G_val (V_fieldAddr rfl rfl (by decide)) rfl rfl (.yes rfl rfl rfl rfl) ?_
      refine G_val (V_load rfl rfl (Cell.own (.head _) rfl)) rfl rfl (.yes rfl rfl rfl rfl) ?_
      refine G_val (V_len rfl rfl) rfl rfl (.yes rfl rfl rfl rfl) ?_
      refine G_val (V_gtr rfl rfl rfl) rfl rfl (.yes rfl rfl rfl rfl) ?_
      refine G_val (V_pick_f rfl rfl rfl) rfl rfl (.none rfl) ?_
      refine G_end ?_
      exact JQ_end 5 rfl rfl (by kernel_rfl)
    dsimp only [List.drop]
    refine G_val (V_move rfl rfl) rfl rfl (.none rfl) ?_
    apply G_joinOr 5 26 31 rfl
    · intro H7
      dsimp only [List.take]
      simp only [Bool.and_eq_true, Bool.or_eq_true, Bool.not_eq_true', Bool.not_eq_false', Bool.and_eq_false_iff, Bool.or_eq_false_iff, Bool.not_not, decide_eq_true_eq, decide_eq_false_iff_not, ne_eq, Decidable.not_not, Bool.decide_eq_true] at H7
      refine G_stay (.no rfl rfl rfl rfl) rfl rfl ?_
      refine G_stay (.no rfl rfl rfl rfl) rfl rfl ?_
      refine G_stay (.no rfl rfl rfl rfl) rfl rfl ?_
      refine G_stay (.no rfl rfl rfl rfl) rfl rfl ?_
      refine G_val (V_pick_t rfl rfl rfl) rfl rfl (.none rfl) ?_
      refine G_end ?_
      exact JQ_end 5 rfl rfl (by kernel_rfl)
    · intro H8
      dsimp only [List.take]
      simp only [Bool.and_eq_true, Bool.or_eq_true, Bool.not_eq_true', Bool.not_eq_false', Bool.and_eq_false_iff, Bool.or_eq_false_iff, Bool.not_not, decide_eq_true_eq, decide_eq_false_iff_not, ne_eq, Decidable.not_not, Bool.decide_eq_true] at H8
      refine G_val (V_fieldAddr rfl rfl (by decide)) rfl rfl (.yes rfl rfl rfl rfl) ?_
      refine G_val (V_load rfl rfl (Cell.own (.head _) rfl)) rfl rfl (.yes rfl rfl rfl rfl) ?_
      refine G_callv (k := 72) (.mk rfl rfl rfl rfl) rfl rfl (.yes rfl rfl rfl rfl) (Short_call _ _ _ _ _ (by assumption) (by assumption) _) ?_
      refine G_val (V_not rfl rfl) rfl rfl (.yes rfl rfl rfl rfl) ?_
      refine G_val (V_pick_f rfl rfl rfl) rfl rfl (.none rfl) ?_
      refine G_end ?_
      exact JQ_end 5 rfl rfl (by kernel_rfl)
    dsimp only [List.drop]
    refine G_val (V_move rfl rfl) rfl rfl (.none rfl) ?_
    apply G_joinOr 5 32 37 rfl
    · intro H9
      dsimp only [List.take]
      simp only [Bool.and_eq_true, Bool.or_eq_true, Bool.not_eq_true', Bool.not_eq_false', Bool.and_eq_false_iff, Bool.or_eq_false_iff, Bool.not_not, decide_eq_true_eq, decide_eq_false_iff_not, ne_eq, Decidable.not_not, Bool.decide_eq_true] at H9
      refine G_stay (.no rfl rfl rfl rfl) rfl rfl ?_
      refine G_stay (.no rfl rfl rfl rfl) rfl rfl ?_
      refine G_stay (.no rfl rfl rfl rfl) rfl rfl ?_
      refine G_stay (.no rfl rfl rfl rfl) rfl rfl ?_
      refine G_val (V_pick_t rfl rfl rfl) rfl rfl (.none rfl) ?_
      refine G_end ?_
      exact JQ_end 5 rfl rfl (by kernel_rfl)
    · intro H10
      dsimp only [List.take]
      simp only [Bool.and_eq_true, Bool.or_eq_true, Bool.not_eq_true', Bool.not_eq_false', Bool.and_eq_false_iff, Bool.or_eq_false_iff, Bool.not_not, decide_eq_true_eq, decide_eq_false_iff_not, ne_eq, Decidable.not_not, Bool.decide_eq_true] at H10
      refine G_val (V_fieldAddr rfl rfl (by decide)) rfl rfl (.yes rfl rfl rfl rfl) ?_
      refine G_val (V_load rfl rfl (Cell.own (.head _) rfl)) rfl rfl (.yes rfl rfl rfl rfl) ?_
      refine G_callv (k := 72) (.mk rfl rfl rfl rfl) rfl rfl (.yes rfl rfl rfl rfl) (Short_call _ _ _ _ _ (by assumption) (by assumption) _) ?_
      refine G_val (V_not rfl rfl) rfl rfl (.yes rfl rfl rfl rfl) ?_
      refine G_val (V_pick_f rfl rfl rfl) rfl rfl (.none rfl) ?_
      refine G_end ?_
      exact JQ_end 5 rfl rfl (by kernel_rfl)
    dsimp only [List.drop]
    refine G_end (X_then ?_)
    refine G_cond_t rfl (by assumption) ?_
    refine G_seq (G_region ?_)
    refine G_val (V_assign rfl rfl) rfl rfl (.none rfl) ?_
    refine G_end (X_then (G_ret (X_then_ret ?_)))
    refine G_leaveS (.drop _ (.nil _)) (by exact (.cons (.tmp rfl) (.nil))) rfl ?_ ?_
    · exact (.refl _)
    exact ⟨(by kernel_rfl), rfl⟩
  | false =>
    refine G_seq (G_region ?_)
    (refine G_boxA rfl rfl rfl rfl (.none rfl) ?_; intro b1)
    refine G_val (V_assign rfl rfl) rfl rfl (.none rfl) ?_
    refine G_end (X_then (G_seq (G_seq (G_region ?_))))
    refine G_val (V_fieldAddr rfl rfl (by decide)) rfl rfl (.none rfl) ?_
    refine G_val (V_load rfl rfl (Cell.own (.head _) rfl)) rfl rfl (.none rfl) ?_
    refine G_val (V_lenS rfl rfl) rfl rfl (.none rfl) ?_
    refine G_val (V_gtr rfl rfl rfl) rfl rfl (.none rfl) ?_
    refine G_val (V_move rfl rfl) rfl rfl (.none rfl) ?_
    apply G_joinOr 5 8 13 rfl
    · intro H1
      dsimp only [List.take]
      simp only [Bool.and_eq_true, Bool.or_eq_true, Bool.not_eq_true', Bool.not_eq_false', Bool.and_eq_false_iff, Bool.or_eq_false_iff, Bool.not_not, decide_eq_true_eq, decide_eq_false_iff_not, ne_eq, Decidable.not_not, Bool.decide_eq_true] at H1
      refine G_stay (.no rfl rfl rfl rfl) rfl rfl ?_
      refine G_stay (.no rfl rfl rfl rfl) rfl rfl ?_
      refine G_stay (.no rfl rfl rfl rfl) rfl rfl ?_
      refine G_stay (.no rfl rfl rfl rfl) rfl rfl ?_
      refine G_val (V_pick_t rfl rfl rfl) rfl rfl (.none rfl) ?_
      refine G_end ?_
      exact JQ_end 5 rfl rfl (by kernel_rfl)
    · intro H2
      dsimp only [List.take]
      simp only [Bool.and_eq_true, Bool.or_eq_true, Bool.not_eq_true', Bool.not_eq_false', Bool.and_eq_false_iff, Bool.or_eq_false_iff, Bool.not_not, decide_eq_true_eq, decide_eq_false_iff_not, ne_eq, Decidable.not_not, Bool.decide_eq_true] at H2
      refine G_val (V_fieldAddr rfl rfl (by decide)) rfl rfl (.yes rfl rfl rfl rfl) ?_
      refine G_val (V_load rfl rfl (Cell.own (.head _) rfl)) rfl rfl (.yes rfl rfl rfl rfl) ?_
      refine G_val (V_lenS rfl rfl) rfl rfl (.yes rfl rfl rfl rfl) ?_
      refine G_val (V_gtr rfl rfl rfl) rfl rfl (.yes rfl rfl rfl rfl) ?_
      refine G_val (V_pick_f rfl rfl rfl) rfl rfl (.none rfl) ?_
      refine G_end ?_
      exact JQ_end 5 rfl rfl (by kernel_rfl)
    dsimp only [List.drop]
    refine G_val (V_move rfl rfl) rfl rfl (.none rfl) ?_
    apply G_joinOr 5 14 19 rfl
    · intro H3
      dsimp only [List.take]
      simp only [Bool.and_eq_true, Bool.or_eq_true, Bool.not_eq_true', Bool.not_eq_false', Bool.and_eq_false_iff, Bool.or_eq_false_iff, Bool.not_not, decide_eq_true_eq, decide_eq_false_iff_not, ne_eq, Decidable.not_not, Bool.decide_eq_true] at H3
      refine G_stay (.no rfl rfl rfl rfl) rfl rfl ?_
      refine G_stay (.no rfl rfl rfl rfl) rfl rfl ?_
      refine G_stay (.no rfl rfl rfl rfl) rfl rfl ?_
      refine G_stay (.no rfl rfl rfl rfl) rfl rfl ?_
      refine G_val (V_pick_t rfl rfl rfl) rfl rfl (.none rfl) ?_
      refine G_end ?_
      exact JQ_end 5 rfl rfl (by kernel_rfl)
    · intro H4
      dsimp only [List.take]
      simp only [Bool.and_eq_true, Bool.or_eq_true, Bool.not_eq_true', Bool.not_eq_false', Bool.and_eq_false_iff, Bool.or_eq_false_iff, Bool.not_not, decide_eq_true_eq, decide_eq_false_iff_not, ne_eq, Decidable.not_not, Bool.decide_eq_true] at H4
      refine G_val (V_fieldAddr rfl rfl (by decide)) rfl rfl (.yes rfl rfl rfl rfl) ?_
      refine G_val (V_load rfl rfl (Cell.own (.head _) rfl)) rfl rfl (.yes rfl rfl rfl rfl) ?_
      refine G_val (V_lenS rfl rfl) rfl rfl (.yes rfl rfl rfl rfl) ?_
      refine G_val (V_gtr rfl rfl rfl) rfl rfl (.yes rfl rfl rfl rfl) ?_
      refine G_val (V_pick_f rfl rfl rfl) rfl rfl (.none rfl) ?_
      refine G_end ?_
      exact JQ_end 5 rfl rfl (by kernel_rfl)
    dsimp only [List.drop]
    refine G_val (V_move rfl rfl) rfl rfl (.none rfl) ?_
    apply G_joinOr 5 20 25 rfl
    · intro H5
      dsimp only [List.take]
      simp only [Bool.and_eq_true, Bool.or_eq_true, Bool.not_eq_true', Bool.not_eq_false', Bool.and_eq_false_iff, Bool.or_eq_false_iff, Bool.not_not, decide_eq_true_eq, decide_eq_false_iff_not, ne_eq, Decidable.not_not, Bool.decide_eq_true] at H5
      refine G_stay (.no rfl rfl rfl rfl) rfl rfl ?_
      refine G_stay (.no rfl rfl rfl rfl) rfl rfl ?_
      refine G_stay (.no rfl rfl rfl rfl) rfl rfl ?_
      refine G_stay (.no rfl rfl rfl rfl) rfl rfl ?_
      refine G_val (V_pick_t rfl rfl rfl) rfl rfl (.none rfl) ?_
      refine G_end ?_
      exact JQ_end 5 rfl rfl (by kernel_rfl)
    · intro H6
      dsimp only [List.take]
      simp only [Bool.and_eq_true, Bool.or_eq_true, Bool.not_eq_true', Bool.not_eq_false', Bool.and_eq_false_iff, Bool.or_eq_false_iff, Bool.not_not, decide_eq_true_eq, decide_eq_false_iff_not, ne_eq, Decidable.not_not, Bool.decide_eq_true] at H6
      refine G_val (V_fieldAddr rfl rfl (by decide)) rfl rfl (.yes rfl rfl rfl rfl) ?_
      refine G_val (V_load rfl rfl (Cell.own (.head _) rfl)) rfl rfl (.yes rfl rfl rfl rfl) ?_
      refine G_val (V_len rfl rfl) rfl rfl (.yes rfl rfl rfl rfl) ?_
      refine G_val (V_gtr rfl rfl rfl) rfl rfl (.yes rfl rfl rfl rfl) ?_
      refine G_val (V_pick_f rfl rfl rfl) rfl rfl (.none rfl) ?_
      refine G_end ?_
      exact JQ_end 5 rfl rfl (by kernel_rfl)
    dsimp only [List.drop]
    refine G_val (V_move rfl rfl) rfl rfl (.none rfl) ?_
    apply G_joinOr 5 26 31 rfl
    · intro H7
      dsimp only [List.take]
      simp only [Bool.and_eq_true, Bool.or_eq_true, Bool.not_eq_true', Bool.not_eq_false', Bool.and_eq_false_iff, Bool.or_eq_false_iff, Bool.not_not, decide_eq_true_eq, decide_eq_false_iff_not, ne_eq, Decidable.not_not, Bool.decide_eq_true] at H7
      refine G_stay (.no rfl rfl rfl rfl) rfl rfl ?_
      refine G_stay (.no rfl rfl rfl rfl) rfl rfl ?_
      refine G_stay (.no rfl rfl rfl rfl) rfl rfl ?_
      refine G_stay (.no rfl rfl rfl rfl) rfl rfl ?_
      refine G_val (V_pick_t rfl rfl rfl) rfl rfl (.none rfl) ?_
      refine G_end ?_
      exact JQ_end 5 rfl rfl (by kernel_rfl)
    · intro H8
      dsimp only [List.take]
      simp only [Bool.and_eq_true, Bool.or_eq_true, Bool.not_eq_true', Bool.not_eq_false', Bool.and_eq_false_iff, Bool.or_eq_false_iff, Bool.not_not, decide_eq_true_eq, decide_eq_false_iff_not, ne_eq, Decidable.not_not, Bool.decide_eq_true] at H8
      refine G_val (V_fieldAddr rfl rfl (by decide)) rfl rfl (.yes rfl rfl rfl rfl) ?_
      refine G_val (V_load rfl rfl (Cell.own (.head _) rfl)) rfl rfl (.yes rfl rfl rfl rfl) ?_
      refine G_callv (k := 72) (.mk rfl rfl rfl rfl) rfl rfl (.yes rfl rfl rfl rfl) (Short_call _ _ _ _ _ (by assumption) (by assumption) _) ?_
      refine G_val (V_not rfl rfl) rfl rfl (.yes rfl rfl rfl rfl) ?_
      refine G_val (V_pick_f rfl rfl rfl) rfl rfl (.none rfl) ?_
      refine G_end ?_
      exact JQ_end 5 rfl rfl (by kernel_rfl)
    dsimp only [List.drop]
    refine G_val (V_move rfl rfl) rfl rfl (.none rfl) ?_
    apply G_joinOr 5 32 37 rfl
    · intro H9
      dsimp only [List.take]
      simp only [Bool.and_eq_true, Bool.or_eq_true, Bool.not_eq_true', Bool.not_eq_false', Bool.and_eq_false_iff, Bool.or_eq_false_iff, Bool.not_not, decide_eq_true_eq, decide_eq_false_iff_not, ne_eq, Decidable.not_not, Bool.decide_eq_true] at H9
      refine G_stay (.no rfl rfl rfl rfl) rfl rfl ?_
      refine G_stay (.no rfl rfl rfl rfl) rfl rfl ?_
      refine G_stay (.no rfl rfl rfl rfl) rfl rfl ?_
      refine G_stay (.no rfl rfl rfl rfl) rfl rfl ?_
      refine G_val (V_pick_t rfl rfl rfl) rfl rfl (.none rfl) ?_
      refine G_end ?_
      exact JQ_end 5 rfl rfl (by kernel_rfl)
    · intro H10
      dsimp only [List.take]
      simp only [Bool.and_eq_true, Bool.or_eq_true, Bool.not_eq_true', Bool.not_eq_false', Bool.and_eq_false_iff, Bool.or_eq_false_iff, Bool.not_not, decide_eq_true_eq, decide_eq_false_iff_not, ne_eq, Decidable.not_not, Bool.decide_eq_true] at H10
      refine G_val (V_fieldAddr rfl rfl (by decide)) rfl rfl (.yes rfl rfl rfl rfl) ?_
      refine G_val (V_load rfl rfl (Cell.own (.head _) rfl)) rfl rfl (.yes rfl rfl rfl rfl) ?_
      refine G_callv (k := 72) (.mk rfl rfl rfl rfl) rfl rfl (.yes rfl rfl rfl rfl) (Short_call _ _ _ _ _ (by assumption) (by assumption) _) ?_
      refine G_val (V_not rfl rfl) rfl rfl (.yes rfl rfl rfl rfl) ?_
      refine G_val (V_pick_f rfl rfl rfl) rfl rfl (.none rfl) ?_
      refine G_end ?_
      exact JQ_end 5 rfl rfl (by kernel_rfl)
    dsimp only [List.drop]
    refine G_end (X_then ?_)
    refine G_cond_f rfl (by assumption) ?_
    refine G_skip (X_then (G_seq (G_seq (G_region ?_))))
    refine G_val (V_assign rfl rfl) rfl rfl (.none rfl) ?_
    refine G_end (X_then (G_block ?_))
    have hh := heavy_iff.1 hc
    refine G_loop (α := Nat) (fun i => [(1, .pointer (some ⟨b1, 0, none⟩)), (3, .int .i64 i)]) (fun _ => E) (fun _ => .blk b1 (.cells #[.int .i64 g.k, .slice tp g.toks.length tc, .string (S g.sep), .slice np g.names.length nc, .int .i64 g.start, .slice pp g.prods.length pc] 26 (0, 0)) :: L)
      (fun i => i ≤ rows.length ∧ ∀ k, k < i → (hk : k < rows.length) → rows[k].2.2.2.length ≤ 8) (fun i => rows.length - i) 0 ⟨Nat.zero_le _, fun k hk => by cases hk⟩ ⟨rfl, rfl, trivial⟩ rfl rfl ?_
    rintro i ⟨hi, hall⟩
    by_cases hlt : i < rows.length
    · have hg1 := List.getElem?_eq_getElem hlt
      have hyr := prows_right hg1
      have hp : rows[i].2.2 ∈ g.prods := by rw [← hrows]; exact List.mem_map.2 ⟨rows[i], List.getElem_mem hlt, rfl⟩
      have h5 := h4 _ hp
      by_cases h8 : rows[i].2.2.2.length ≤ 8
      · refine G_seq ?_
        refine G_seq (G_region ?_)
        refine G_val (V_move rfl rfl) rfl rfl (.none rfl) ?_
        refine G_val (V_fieldAddr rfl rfl (by decide)) rfl rfl (.none rfl) ?_
        refine G_val (V_load rfl rfl (Cell.own (.head _) rfl)) rfl rfl (.none rfl) ?_
        refine G_val (V_lenS rfl rfl) rfl rfl (.none rfl) ?_
        refine G_val (V_lss rfl rfl rfl) rfl rfl (.none rfl) ?_
        refine G_end (X_then ?_)
        refine G_cond_t rfl (decide_eq_true (by omega)) ?_
        refine G_skip (X_then (G_seq (G_block (G_seq (G_region ?_)))))
        refine G_val (V_fieldAddr rfl rfl (by decide)) rfl rfl (.none rfl) ?_
        refine G_val (V_load rfl rfl (Cell.own (.head _) rfl)) rfl rfl (.none rfl) ?_
        refine G_val (V_move rfl rfl) rfl rfl (.none rfl) ?_
        refine G_val (V_idxAddr rfl rfl rfl (SlE.rd (by assumption)) (by omega) (by omega)) rfl rfl (.none rfl) ?_
        refine G_val (V_fieldAddrE rfl rfl (by assumption) (by omega) (by decide)) rfl rfl (.none rfl) ?_
        refine G_val (V_loadS rfl rfl (SlE.rd (by assumption)) (by assumption) (by simp)) rfl rfl (.none rfl) ?_
        refine G_val (V_lenS rfl rfl) rfl rfl (.none rfl) ?_
        refine G_val (V_gtr rfl rfl rfl) rfl rfl (.none rfl) ?_
        refine G_end (X_then ?_)
        refine G_cond_f rfl (decide_eq_false (by omega)) ?_
        refine G_skip (X_block (X_then (G_region ?_)))
        refine G_val (V_move rfl rfl) rfl rfl (.none rfl) ?_
        refine G_val (V_add_i64 rfl rfl rfl (by omega) (by omega)) rfl rfl (.none rfl) ?_
        refine G_val (V_assign rfl rfl) rfl rfl (.none rfl) ?_
        refine G_end (X_then ?_)
        refine G_again (i + 1) ⟨hlt, ?_⟩ (by omega) ⟨rfl, rfl, trivial⟩ rfl rfl
        intro k hk hk2
        by_cases he : k = i
        · subst he; exact h8
        · exact hall k (by omega) hk2
      · have hno : lightB g = false := by
          refine Bool.eq_false_iff.2 fun h => ?_
          exact h8 ((lightB_iff.1 h).ps _ hp)
        rw [hno]
        refine G_seq (G_seq (G_region ?_))
        refine G_val (V_move rfl rfl) rfl rfl (.none rfl) ?_
        refine G_val (V_fieldAddr rfl rfl (by decide)) rfl rfl (.none rfl) ?_
        refine G_val (V_load rfl rfl (Cell.own (.head _) rfl)) rfl rfl (.none rfl) ?_
        refine G_val (V_lenS rfl rfl) rfl rfl (.none rfl) ?_
        refine G_val (V_lss rfl rfl rfl) rfl rfl (.none rfl) ?_
        refine G_end (X_then ?_)
        refine G_cond_t rfl (decide_eq_true (by omega)) ?_
        refine G_skip (X_then (G_seq (G_block (G_seq (G_region ?_)))))
        refine G_val (V_fieldAddr rfl rfl (by decide)) rfl rfl (.none rfl) ?_
        refine G_val (V_load rfl rfl (Cell.own (.head _) rfl)) rfl rfl (.none rfl) ?_
        refine G_val (V_move rfl rfl) rfl rfl (.none rfl) ?_
        refine G_val (V_idxAddr rfl rfl rfl (SlE.rd (by assumption)) (by omega) (by omega)) rfl rfl (.none rfl) ?_
        refine G_val (V_fieldAddrE rfl rfl (by assumption) (by omega) (by decide)) rfl rfl (.none rfl) ?_
        refine G_val (V_loadS rfl rfl (SlE.rd (by assumption)) (by assumption) (by simp)) rfl rfl (.none rfl) ?_
        refine G_val (V_lenS rfl rfl) rfl rfl (.none rfl) ?_
        refine G_val (V_gtr rfl rfl rfl) rfl rfl (.none rfl) ?_
        refine G_end (X_then ?_)
        refine G_cond_t rfl (decide_eq_true (by omega)) ?_
        refine G_seq (G_region ?_)
        refine G_val (V_assign rfl rfl) rfl rfl (.none rfl) ?_
        refine G_end (X_then (G_ret (X_block_ret (X_then_ret (X_then_ret (X_block_ret (X_then_ret ?_)))))))
        refine G_leaveS (.drop _ (.nil _)) (by exact (.cons (.tmp rfl) (.nil))) rfl ?_ ?_
        · exact (.refl _)
        exact ⟨(by kernel_rfl), rfl⟩
    · have hyes : lightB g = true := lightB_iff.2 ⟨hh.1, hh.2.1, hh.2.2.1, hh.2.2.2.1, hh.2.2.2.2.1, hh.2.2.2.2.2, fun p hp => by
        rw [← hrows] at hp
        obtain ⟨x, hx, rfl⟩ := List.mem_map.1 hp
        obtain ⟨k, hk, rfl⟩ := List.getElem_of_mem hx
        exact hall k (by omega) hk⟩
      rw [hyes]
      refine G_seq (G_seq (G_region ?_))
      refine G_val (V_move rfl rfl) rfl rfl (.none rfl) ?_
      refine G_val (V_fieldAddr rfl rfl (by decide)) rfl rfl (.none rfl) ?_
      refine G_val (V_load rfl rfl (Cell.own (.head _) rfl)) rfl rfl (.none rfl) ?_
      refine G_val (V_lenS rfl rfl) rfl rfl (.none rfl) ?_
      refine G_val (V_lss rfl rfl rfl) rfl rfl (.none rfl) ?_
      refine G_end (X_then ?_)
      refine G_cond_f rfl (decide_eq_false (by omega)) ?_
      refine G_exit (X_then_exit (X_then_exit (X_block_hit (X_then (G_seq (G_region ?_))))))
      refine G_val (V_assign rfl rfl) rfl rfl (.none rfl) ?_
      refine G_end (X_then (G_ret ?_))
      refine G_leaveS (.drop _ (.nil _)) (by exact (.cons (.tmp rfl) (.nil))) rfl ?_ ?_
      · exact (.refl _)
      exact ⟨(by kernel_rfl), rfl⟩
end
end Go.Proofs.Ytaoinojdijbhaaa
