/-
  Rules and contracts, packed: B18.
-/
import Derived.Test.YtimiokmgnclggaaGreatQ11
set_option maxHeartbeats 1000000
set_option linter.unusedSimpArgs false
set_option linter.unusedVariables false
set_option maxHeartbeats 2000000
set_option maxRecDepth 20000
namespace Go.Proofs.YtimiokmgnclggaaGreat
open Go.RowKit
/-! The law ConfigFirst. -/
theorem gc_range {g : Gr} (h0 : gcheck g = 0) : (1 ≤ g.k ∧ g.k ≤ 4) ∧ 1 ≤ g.toks.length ∧ g.toks.length ≤ 8 := by
  simp only [gcheck, gc0, gc1] at h0
  split at h0
  · omega
  split at h0
  · omega
  split at h0
  · omega
  rename_i a b c
  simp only [fullB, shortB, Bool.or_eq_true, decide_eq_true_eq, not_or] at b c
  omega
theorem ckM_first {g : Gr} (h0 : gcheck g = 0) (s : Int) (hs : 0 ≤ s) : ckM g 1 s [] [] 0 0 false [] = 0 := by
  have h1 : chkS g [] = 0 := by
    unfold chkS
    rw [if_neg (by rw [h0]; simp), if_neg (by simp)]
    rfl
  have h2 : placM s ([] : List UInt8).length [] 0 0 = 0 := by
    unfold placM
    rw [if_neg (by simp [contB]), if_pos rfl, if_neg (by simp; omega)]
  have h3 : partM [] g.toks.length 0 = 0 := by simp [partM, begE]
  simp only [ckM, h1, h2, h3]
  rfl
section
variable (E : Env) (L : List Res) (r s : Int) (hr : 0 ≤ r ∧ r ≤ 1099511627776) (hs : 0 ≤ s ∧ s ≤ 1099511627776) (gv : Value) (g : Gr) (hg : GrE E gv g) (h0 : gcheck g = 0) (hl : Light g)
include hr hs hg h0 hl
theorem gring_first : gringB g.k g.toks.length [] 0 0 = true := by
  have _ := hr
  have _ := hs
  have _ := hg
  have _ := hl
  obtain ⟨⟨a1, a2⟩, a3, a4⟩ := gc_range h0
  simp [gringB, ordB]
  omega
theorem rng_first : rngB r s = true := by
  have _ := hg
  have _ := h0
  have _ := hl
  simp [rngB, hr, hs]
theorem Waits_first : CallV Tryz.prog 12 #[gv, cfV 1 r s [] none 0 0 0 0 false none 0 0] E L (.tuple #[.bool true, .int .i64 0]) := by
  have := CWaits_call E L 1 r s [] none 0 0 0 0 false none 0 0 gv g hg hl h0 (.inl rfl) (rng_first E r s hr hs gv g hg h0 hl) (by simp) [] SlE.nilT (gring_first E r s hr hs gv g hg h0 hl) [] SlE.nil (by omega)
  rwa [ckM_first h0 s hs.1, if_pos rfl] at this
theorem Place_first : CallV Tryz.prog 13 #[gv, cfV 1 r s [] none 0 0 0 0 false none 0 0] E L (.tuple #[.int .i64 s, .int .i64 0]) := by
  have := CPlace_call E L 1 r s [] none 0 0 0 0 false none 0 0 gv g hg hl h0 (.inl rfl) (rng_first E r s hr hs gv g hg h0 hl) (by simp) [] SlE.nilT (gring_first E r s hr hs gv g hg h0 hl) [] SlE.nil (by omega) rfl
  rw [ckM_first h0 s hs.1, if_pos rfl] at this
  rwa [show plcC s ([] : List UInt8).length [] = s from Int.sub_zero s] at this
theorem Check_first : CallV Tryz.prog 15 #[gv, cfV 1 r s [] none 0 0 0 0 false none 0 0] E L (.int .i64 0) := by
  have := CCheck_call E L 1 r s [] none 0 0 0 0 false none 0 0 gv g hg hl h0 (.inl rfl) (rng_first E r s hr hs gv g hg h0 hl) (by simp) [] SlE.nilT (gring_first E r s hr hs gv g hg h0 hl) [] SlE.nil (by omega)
  rwa [ckM_first h0 s hs.1] at this
end
section
variable (E : Env) (L : List Res)
theorem CSame_first (u v w : Int) : CallV Tryz.prog 18 #[cfV u v w [] none 0 0 0 0 false none 0 0, cfV u v w [] none 0 0 0 0 false none 0 0] E L (.bool true) :=
  CallV.castV (CSame_call E L u v w u v w [] [] none none 0 0 0 0 0 0 0 0 false false none none 0 0 0 0 [] [] [] [] SlE.nilT SlE.nilT SlE.nil SlE.nil (by omega) (by omega) (by omega) (by omega)) (by simp)
theorem Stopped_first (r s : Int) : CallV Tryz.prog 17 #[cfV 1 r s [] none 0 0 0 0 false none 0 0] E L (.bool false) := Stopped_call E L 1 r s [] none 0 0 0 0 false none 0 0
theorem New_first (d q s r : Int) (hd : 1 ≤ d ∧ d ≤ 64) (hq : 1 ≤ q ∧ q ≤ 64) (hs : 0 ≤ s ∧ s ≤ 1099511627776) (hr : 0 ≤ r ∧ r ≤ 1099511627776) : CallV Tryz.prog 16 #[.agg #[.int .i64 d, .int .i64 q, .int .i64 s, .int .i64 r]] E L (.tuple #[cfV 1 r s [] none 0 0 0 0 false none 0 0, .int .i64 0]) := by
  have h1 : limM d q s r = 0 := by
    unfold limM
    rw [if_neg (by omega), if_neg (by omega), if_neg (by simp [hs, hr])]
  have := New_call E L d q s r
  rwa [fstV, h1, if_pos rfl] at this
theorem ConfigFirst_call (n d q s r : Int) (hn : -9223372036854775808 ≤ n ∧ n ≤ 9223372036854775807) (hd : -9223372036854775808 ≤ d ∧ d ≤ 9223372036854775807) (hq : -9223372036854775808 ≤ q ∧ q ≤ 9223372036854775807) (hs : -9223372036854775808 ≤ s ∧ s ≤ 9223372036854775807) (hr : -9223372036854775808 ≤ r ∧ r ≤ 9223372036854775807) :
    CallS Tryz.prog 5 #[.int .i64 n, .int .i64 d, .int .i64 q, .int .i64 s, .int .i64 r] E L (fun r E' L' => r = .bool true ∧ L' = L) := by
  have d1 := Int.emod_nonneg d (b := 64) (by omega)
  have d2 := Int.emod_lt_of_pos d (b := 64) (by omega)
  have q1 := Int.emod_nonneg q (b := 64) (by omega)
  have q2 := Int.emod_lt_of_pos q (b := 64) (by omega)
  have s1 := Int.emod_nonneg s (b := 1099511627777) (by omega)
  have s2 := Int.emod_lt_of_pos s (b := 1099511627777) (by omega)
  have r1 := Int.emod_nonneg r (b := 1099511627777) (by omega)
  have r2 := Int.emod_lt_of_pos r (b := 1099511627777) (by omega)
  have m1 := fun E0 L0 => Mod_call' E0 L0 d 64 hd (by omega)
  have m2 := fun E0 L0 => Mod_call' E0 L0 q 64 hq (by omega)
  have m3 := fun E0 L0 => Mod_call' E0 L0 s 1099511627777 hs (by omega)
  have m4 := fun E0 L0 => Mod_call' E0 L0 r 1099511627777 hr (by omega)
  generalize d % 64 = d' at *
  generalize q % 64 = q' at *
  generalize s % 1099511627777 = s' at *
  generalize r % 1099511627777 = r' at *
  refine CallS.intro (l := [_, _, _, _, _]) _ Tryz.func5 rfl Tryz.ntmps5 rfl ?_
  refine G_seq (G_region ?_)
  refine Ga ?_
  refine G_end (X_then (G_seq (G_region ?_)))
  refine Gm ?_
  refine G_call (k := 6) (.mk rfl rfl rfl rfl) rfl rfl (.none rfl) (KGrammar_call _ _ n hn) ?_
  rintro x1 E1 L1 hE1 ⟨g, hg, h0, hl, rfl⟩
  have hg0 := hg
  obtain ⟨tp, tc, np, nc, pp, pc, rfl, _⟩ := hg0
  (refine G_alloc rfl rfl rfl (.none rfl) ?_; intro b11)
  refine G_storeA rfl rfl rfl rfl (by simp [Value.oneCell']) rfl (.none rfl) (.head _ _ _) rfl ?_
  refine G_end (X_then (G_seq (G_region ?_)))
  refine Gm ?_
  refine G_callv (k := 14) (.mk rfl rfl rfl rfl) rfl rfl (.none rfl) (m1 _ _) ?_
  refine Gv (V_add_i64 rfl rfl rfl (by omega) (by omega)) ?_
  refine Gm ?_
  refine G_callv (k := 14) (.mk rfl rfl rfl rfl) rfl rfl (.none rfl) (m2 _ _) ?_
  refine Gv (V_add_i64 rfl rfl rfl (by omega) (by omega)) ?_
  refine Gm ?_
  refine G_callv (k := 14) (.mk rfl rfl rfl rfl) rfl rfl (.none rfl) (m3 _ _) ?_
  refine Gm ?_
  refine G_callv (k := 14) (.mk rfl rfl rfl rfl) rfl rfl (.none rfl) (m4 _ _) ?_
  refine Gv (V_build rfl rfl (by simp [fillV, setLs, setL, Value.cells]; rfl)) ?_
  (refine G_alloc rfl rfl rfl (.none rfl) ?_; intro b12)
  refine G_storeA rfl rfl rfl rfl (by simp [Value.oneCell']) rfl (.none rfl) (.head _ _ _) rfl ?_
  refine G_end (X_then (G_seq (G_region ?_)))
  refine Gv (V_loadA rfl rfl (Cells.own (.head _)) rfl) ?_
  refine G_callv (k := 16) (.mk rfl rfl rfl rfl) rfl rfl (.none rfl) (New_first _ _ _ _ _ _ (by omega) (by omega) (by omega) (by omega)) ?_
  refine Gm ?_
  refine Gv (V_extract rfl rfl rfl) ?_
  refine Gv (V_extract rfl rfl rfl) ?_
  (refine G_alloc rfl rfl rfl (.none rfl) ?_; intro b13)
  refine G_storeA rfl rfl rfl rfl (by simp [Value.oneCell']) rfl (.none rfl) (.head _ _ _) rfl ?_
  refine Ga ?_
  refine G_end (X_then (G_seq (G_region ?_)))
  refine Gv (V_loadA rfl rfl (Cells.own (.tail _ (.tail _ (.head _)))) rfl) ?_
  refine Gv (V_loadA rfl rfl (Cells.own (.head _)) rfl) ?_
  refine G_callv (k := 12) (.mk rfl rfl rfl rfl) rfl rfl (.none rfl) (Waits_first _ _ r' s' (by omega) (by omega) _ g hg h0 hl) ?_
  refine Gm ?_
  refine Gv (V_extract rfl rfl rfl) ?_
  refine Gv (V_extract rfl rfl rfl) ?_
  refine Ga ?_
  refine Ga ?_
  refine G_end (X_then (G_seq (G_region ?_)))
  refine Gv (V_loadA rfl rfl (Cells.own (.tail _ (.tail _ (.head _)))) rfl) ?_
  refine Gv (V_loadA rfl rfl (Cells.own (.head _)) rfl) ?_
  refine G_callv (k := 13) (.mk rfl rfl rfl rfl) rfl rfl (.none rfl) (Place_first _ _ r' s' (by omega) (by omega) _ g hg h0 hl) ?_
  refine Gm ?_
  refine Gv (V_extract rfl rfl rfl) ?_
  refine Gv (V_extract rfl rfl rfl) ?_
  refine Ga ?_
  refine Ga ?_
  refine G_end (X_then (G_seq (G_region ?_)))
  refine Gm ?_
  refine Gv (V_eql rfl rfl rfl) ?_
  refine Gm ?_
  refine G.bool_t 51 rfl (by kernel_rfl) ?_
  refine Gy (V_move rfl rfl) ?_
  refine Gy (V_eql rfl rfl rfl) ?_
  refine Gv (V_pick_t rfl rfl rfl) ?_
  refine Gm ?_
  refine G.bool_t 55 rfl (by kernel_rfl) ?_
  refine Gy (V_move rfl rfl) ?_
  refine Gv (V_pick_t rfl rfl rfl) ?_
  refine Gm ?_
  refine Gy (V_move rfl rfl) ?_
  refine Gy (V_eql rfl rfl rfl) ?_
  refine Gv (V_pick_t rfl rfl rfl) ?_
  refine Gm ?_
  refine G.bool_t 62 rfl (by kernel_rfl) ?_
  refine Gy (V_move rfl rfl) ?_
  refine Gy (V_fieldAddr rfl rfl (by decide)) ?_
  refine Gy (V_load rfl rfl (Cell.own (.tail _ (.head _)) rfl)) ?_
  refine Gy (V_eql rfl rfl rfl) ?_
  refine Gv (V_pick_t rfl rfl rfl) ?_
  refine Gm ?_
  refine G.bool_t 68 rfl (decide_eq_true (by omega)) ?_
  refine Gy (V_loadA rfl rfl (Cells.own (.tail _ (.tail _ (.head _)))) rfl) ?_
  refine Gy (V_loadA rfl rfl (Cells.own (.head _)) rfl) ?_
  refine G_callv (k := 15) (.mk rfl rfl rfl rfl) rfl rfl (.yes rfl rfl rfl rfl) (Check_first _ _ r' s' (by omega) (by omega) _ g hg h0 hl) ?_
  refine Gy (V_eql rfl rfl rfl) ?_
  refine Gv (V_pick_t rfl rfl rfl) ?_
  refine Gm ?_
  refine G.bool_t 74 rfl (by kernel_rfl) ?_
  refine Gy (V_loadA rfl rfl (Cells.own (.head _)) rfl) ?_
  refine G_callv (k := 17) (.mk rfl rfl rfl rfl) rfl rfl (.yes rfl rfl rfl rfl) (Stopped_first _ _ r' s') ?_
  refine Gy (V_not rfl rfl) ?_
  refine Gv (V_pick_t rfl rfl rfl) ?_
  refine Gm ?_
  refine G.bool_t 79 rfl (by kernel_rfl) ?_
  refine Gy (V_loadA rfl rfl (Cells.own (.head _)) rfl) ?_
  refine Gy (V_loadA rfl rfl (Cells.own (.head _)) rfl) ?_
  refine G_callv (k := 18) (.mk rfl rfl rfl rfl) rfl rfl (.yes rfl rfl rfl rfl) (CSame_first _ _ 1 r' s') ?_
  refine Gv (V_pick_t rfl rfl rfl) ?_
  refine Gm ?_
  refine G_call (k := 8) (.mk rfl rfl rfl rfl) rfl rfl (.yes rfl rfl rfl rfl) (awake_call' _ _) ?_
  rintro x2 E2 L2 hE2 ⟨rfl, rfl⟩
  refine Gv (V_pick_t rfl rfl rfl) ?_
  refine Ga ?_
  refine G_end (X_then (G_ret ?_))
  refine G_leaveS (.drop _ (.drop _ (.drop _ (.nil _)))) (by exact (.cons (.tmp rfl) (.nil))) rfl ?_ ?_
  · exact (hE1.trans hE2)
  exact ⟨(by kernel_rfl), rfl⟩
end
end Go.Proofs.YtimiokmgnclggaaGreat
