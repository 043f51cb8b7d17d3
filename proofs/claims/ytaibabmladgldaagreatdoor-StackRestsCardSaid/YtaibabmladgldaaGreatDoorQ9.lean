/-
  Rules and contracts, packed: S14, S15, L3, T8, T3, T4, T5, Sep38, T6, T7, T9, S21, T10, T11, Sep39.
-/
import Derived.Test.YtaibabmladgldaaGreatDoorQ8
set_option maxHeartbeats 1000000
set_option linter.unusedSimpArgs false
set_option linter.unusedVariables false
set_option maxHeartbeats 2000000
set_option maxRecDepth 20000
namespace Go.Proofs.YtaibabmladgldaaGreatDoor
open Go.RowKit
/-! The law's awake. -/
section
variable (E : Env) (L : List Res)
theorem awaits25_call (kd sy : Int) (p : Option Addr) (n c : Nat) (xs : List Int) (hx : SlE E 1 p n (i64s xs)) (hn : n ≤ 20) (h0 : decide (awaitM shG (prs xs) = (kd, sy, 0)) = true) :
    CallS Tryz.prog 18 #[.int .i64 kd, .int .i64 sy, .slice p n c] E L (fun r E' L' => r = .bool true ∧ L' = L) := by
  have h := of_decide_eq_true h0
  refine CallS.intro (l := [_, _, _]) _ Tryz.func18 rfl Tryz.ntmps18 rfl ?_
  refine G_seq (G_region ?_)
  refine Ga ?_
  refine G_end (X_then (G_seq (G_region ?_)))
  refine G_call (k := 12) (.mk rfl rfl rfl rfl) rfl rfl (.none rfl) (shown25_call' _ _) ?_
  rintro gv E1 L1 hE1 ⟨hg, rfl⟩
  replace hx := hx.mono hE1
  have hg0 := hg
  obtain ⟨gp, gc, np, nc, pp, pc, rfl, _⟩ := hg0
  refine Gm ?_
  refine G_call (k := 13) (.mk rfl rfl rfl rfl) rfl rfl (.none rfl) (of_call _ _ p n c xs hx (by omega)) ?_
  rintro x2 E2 L2 hE2 ⟨a, k, c', rfl, hs, hc, rfl⟩
  replace hg := hg.mono hE2
  have hk := hs.nSp
  have hkl := prs_len xs
  have hxl := hx.nI
  have ha := fun L0 => Awaits_call E2 L0 _ shG hg shG_light a k c' (prs xs) hs (by omega)
  rw [h] at ha
  skip
  refine G_callv (k := 24) (.mk rfl rfl rfl rfl) rfl rfl (.none rfl) (ha _) ?_
  refine Gm ?_
  refine Gv (V_extract rfl rfl rfl) ?_
  refine Gv (V_extract rfl rfl rfl) ?_
  refine Gv (V_extract rfl rfl rfl) ?_
  refine Ga ?_
  refine Ga ?_
  refine Ga ?_
  refine G_end (X_then (G_seq (G_region ?_)))
  refine Gm ?_
  refine Gv (V_eql rfl rfl rfl) ?_
  refine Gm ?_
  refine G.bool_t 20 rfl (by simp [*]; done) ?_
  refine Gy (V_move rfl rfl) ?_
  refine Gy (V_move rfl rfl) ?_
  refine Gy (V_eql rfl rfl rfl) ?_
  refine Gv (V_pick_t rfl rfl rfl) ?_
  refine Gm ?_
  refine G.bool_t 25 rfl (decide_eq_true (by omega)) ?_
  refine Gy (V_move rfl rfl) ?_
  refine Gy (V_move rfl rfl) ?_
  refine Gy (V_eql rfl rfl rfl) ?_
  refine Gv (V_pick_t rfl rfl rfl) ?_
  refine Ga ?_
  refine G_end (X_then (G_ret ?_))
  refine G_leaveS (.nil _) (by exact (.cons (.tmp rfl) (.nil))) rfl ?_ ?_
  · exact (hE1.trans hE2)
  exact ⟨(by (simp (discharger := omega) only [resVal, if_pos, if_neg]; first | done | rfl)), (by rfl)⟩
theorem checks25_call (w : Int) (p : Option Addr) (n c : Nat) (xs : List Int) (hx : SlE E 1 p n (i64s xs)) (hn : n ≤ 20) (h0 : decide (chkS shG (prs xs) = w) = true) :
    CallS Tryz.prog 19 #[.int .i64 w, .slice p n c] E L (fun r E' L' => r = .bool true ∧ L' = L) := by
  have h := of_decide_eq_true h0
  refine CallS.intro (l := [_, _]) _ Tryz.func19 rfl Tryz.ntmps19 rfl ?_
  refine G_seq (G_region ?_)
  refine Ga ?_
  refine G_end (X_then (G_seq (G_region ?_)))
  refine G_call (k := 12) (.mk rfl rfl rfl rfl) rfl rfl (.none rfl) (shown25_call' _ _) ?_
  rintro gv E1 L1 hE1 ⟨hg, rfl⟩
  replace hx := hx.mono hE1
  have hg0 := hg
  obtain ⟨gp, gc, np, nc, pp, pc, rfl, _⟩ := hg0
  refine Gm ?_
  refine G_call (k := 13) (.mk rfl rfl rfl rfl) rfl rfl (.none rfl) (of_call _ _ p n c xs hx (by omega)) ?_
  rintro x2 E2 L2 hE2 ⟨a, k, c', rfl, hs, hc, rfl⟩
  replace hg := hg.mono hE2
  have hk := hs.nSp
  have hkl := prs_len xs
  have hxl := hx.nI
  have ha := fun L0 => SCheck_call E2 L0 _ shG hg shG_light a k c' (prs xs) hs (by omega)
  rw [h] at ha
  skip
  refine G_callv (k := 23) (.mk rfl rfl rfl rfl) rfl rfl (.none rfl) (ha _) ?_
  refine Gm ?_
  refine Gv (V_eql rfl rfl rfl) ?_
  refine Ga ?_
  refine G_end (X_then (G_ret ?_))
  refine G_leaveS (.nil _) (by exact (.cons (.tmp rfl) (.nil))) rfl ?_ ?_
  · exact (hE1.trans hE2)
  exact ⟨(by (simp (discharger := omega) only [resVal, if_pos, if_neg]; first | done | rfl)), (by rfl)⟩
theorem push_ex (gv : Value) (hg : GrE E gv shG) (p : Option Addr) (n c : Nat) (hs : SlE E 2 p n (spC (prs [0, 1]))) (hc : n ≤ c) : CallS Tryz.prog 11 #[gv, .slice p n c, .int .i64 2] E L (fun r E' L' => ∃ a n' c', r = .tuple #[.slice a n' c', .int .i64 0] ∧ SlE E' 2 a n' (spC [(0, 2), (2, 0)]) ∧ n' ≤ 1000 ∧ L' = L) := by
  have hn := hs.nSp
  have hp : pushM shG (prs [0, 1]) 2 = ([(0, 2), (2, 0)], 0) := by decide +kernel
  have hl : (prs [0, 1]).length = 1 := rfl
  refine CallS.mono (SPush_call E L gv shG hg shG_light p n c (prs [0, 1]) hs (by omega) hc 2) ?_
  rintro r E' L' _ ⟨⟨a, n', c', h1, h2, _, h4⟩, h5⟩
  rw [hp] at h1 h2
  exact ⟨a, n', c', h1, h2, h4, h5⟩
theorem text_ex (p : Option Addr) (n c : Nat) (hs : SlE E 2 p n (spC (prs [0, 2, 2, 1]))) : CallS Tryz.prog 26 #[.slice p n c] E L (fun r E' L' => r = .tuple #[.string (S [48, 58, 50, 32, 50, 58, 49]), .int .i64 0] ∧ L' = L) := by
  have hn := hs.nSp
  have hl : (prs [0, 2, 2, 1]).length = 2 := rfl
  have hp : txtM (prs [0, 2, 2, 1]) = ([48, 58, 50, 32, 50, 58, 49], 0) := by decide +kernel
  refine CallS.mono (SText_call E L (fun x => 0 ≤ x ∧ x < 10) (fun E0 x _ h L0 => Itoa1_call E0 L0 x h) p n c (prs [0, 2, 2, 1]) hs (by omega) (fun s h _ => ?_)) ?_
  · simp only [prs, List.mem_cons, List.not_mem_nil, or_false] at h
    rcases h with rfl | rfl <;> decide
  · rintro r E' L' _ ⟨h1, h2⟩
    rw [hp] at h1
    exact ⟨h1, h2⟩
end
end Go.Proofs.YtaibabmladgldaaGreatDoor
set_option linter.unusedSimpArgs false
set_option linter.unusedVariables false
set_option maxHeartbeats 2000000
set_option maxRecDepth 20000
namespace Go.Proofs.YtaibabmladgldaaGreatDoor
open Go.RowKit
/-! The law's awake. -/
section
variable (E : Env) (L : List Res)
theorem awake25_call : CallS Tryz.prog 7 #[] E L (fun r E' L' => r = .bool true ∧ L' = L) := by
  refine CallS.intro (l := []) _ Tryz.func7 rfl Tryz.ntmps7 rfl ?_
  refine G_seq (G_region ?_)
  refine Ga ?_
  refine G_end (X_then (G_seq (G_region ?_)))
  refine G_call (k := 12) (.mk rfl rfl rfl rfl) rfl rfl (.none rfl) (shown25_call' _ _) ?_
  rintro r1 E2 L3 hE4 ⟨Z5, rfl⟩
  (refine G_litZ rfl rfl (by decide) (by simp [fillS, zeros, setLs, setL, Value.cells, List.range, List.range.loop]; rfl) (by rfl) rfl rfl (.none rfl) ?_; intro b7 E7 hE7 hs7)
  replace Z5 := Z5.mono hE7
  refine G_call (k := 13) (.mk rfl rfl rfl rfl) rfl rfl (.none rfl) (of_call _ _ _ _ _ _ (by exact SlE.toI (by assumption) rfl) (by omega)) ?_
  rintro r6 E8 L9 hE10 ⟨z11, ⟨z12, ⟨z13, ⟨rfl, ⟨Z14, ⟨Z15, rfl⟩⟩⟩⟩⟩⟩
  replace hs7 := hs7.mono hE10
  replace Z5 := Z5.mono hE10
  refine G_call (k := 11) (.mk rfl rfl rfl rfl) rfl rfl (.none rfl) (push_ex _ _ _ (by assumption) _ _ _ (by assumption) (by assumption)) ?_
  rintro r16 E17 L18 hE19 ⟨z20, ⟨z21, ⟨z22, ⟨rfl, ⟨Z23, ⟨Z24, rfl⟩⟩⟩⟩⟩⟩
  replace Z14 := Z14.mono hE19
  replace hs7 := hs7.mono hE19
  replace Z5 := Z5.mono hE19
  refine Gm ?_
  refine Gv (V_extract rfl rfl rfl) ?_
  refine Gv (V_extract rfl rfl rfl) ?_
  refine Ga ?_
  refine Ga ?_
  refine G_end (X_then (G_seq (G_region ?_)))
  (refine G_litZ rfl rfl (by decide) (by simp [fillS, zeros, setLs, setL, Value.cells, List.range, List.range.loop]; rfl) (by rfl) rfl rfl (.none rfl) ?_; intro b13 E13 hE13 hs13)
  replace Z23 := Z23.mono hE13
  replace Z14 := Z14.mono hE13
  replace hs7 := hs7.mono hE13
  replace Z5 := Z5.mono hE13
  refine G_call (k := 13) (.mk rfl rfl rfl rfl) rfl rfl (.none rfl) (of_call _ _ _ _ _ _ (by exact SlE.toI (by assumption) rfl) (by omega)) ?_
  rintro r25 E26 L27 hE28 ⟨z29, ⟨z30, ⟨z31, ⟨rfl, ⟨Z32, ⟨Z33, rfl⟩⟩⟩⟩⟩⟩
  replace hs13 := hs13.mono hE28
  replace Z23 := Z23.mono hE28
  replace Z14 := Z14.mono hE28
  replace hs7 := hs7.mono hE28
  replace Z5 := Z5.mono hE28
  refine G_call (k := 26) (.mk rfl rfl rfl rfl) rfl rfl (.none rfl) (text_ex _ _ _ _ _ (by assumption)) ?_
  rintro r34 E35 L36 hE37 ⟨rfl, rfl⟩
  replace Z32 := Z32.mono hE37
  replace hs13 := hs13.mono hE37
  replace Z23 := Z23.mono hE37
  replace Z14 := Z14.mono hE37
  replace hs7 := hs7.mono hE37
  replace Z5 := Z5.mono hE37
  refine Gm ?_
  refine Gv (V_extract rfl rfl rfl) ?_
  refine Gv (V_extract rfl rfl rfl) ?_
  refine Ga ?_
  refine Ga ?_
  refine G_end (X_then (G_seq (G_region ?_)))
  (refine G_litZ rfl rfl (by decide) (by simp [fillS, zeros, setLs, setL, Value.cells, List.range, List.range.loop]; rfl) (by rfl) rfl rfl (.none rfl) ?_; intro b18 E18 hE18 hs18)
  replace Z32 := Z32.mono hE18
  replace hs13 := hs13.mono hE18
  replace Z23 := Z23.mono hE18
  replace Z14 := Z14.mono hE18
  replace hs7 := hs7.mono hE18
  replace Z5 := Z5.mono hE18
  refine G_call (k := 18) (.mk rfl rfl rfl rfl) rfl rfl (.none rfl) (awaits25_call _ _ _ _ _ _ _ _ (by exact SlE.toI (by assumption) rfl) (by omega) (by exact (by kernel_rfl : (_ : Bool) = _))) ?_
  rintro r38 E39 L40 hE41 ⟨rfl, rfl⟩
  replace hs18 := hs18.mono hE41
  replace Z32 := Z32.mono hE41
  replace hs13 := hs13.mono hE41
  replace Z23 := Z23.mono hE41
  replace Z14 := Z14.mono hE41
  replace hs7 := hs7.mono hE41
  replace Z5 := Z5.mono hE41
  refine Gm ?_
  (refine G_litZ rfl rfl (by decide) (by simp [fillS, zeros, setLs, setL, Value.cells, List.range, List.range.loop]; rfl) (by rfl) rfl rfl (.yes rfl rfl rfl rfl) ?_; intro b21 E21 hE21 hs21)
  replace hs18 := hs18.mono hE21
  replace Z32 := Z32.mono hE21
  replace hs13 := hs13.mono hE21
  replace Z23 := Z23.mono hE21
  replace Z14 := Z14.mono hE21
  replace hs7 := hs7.mono hE21
  replace Z5 := Z5.mono hE21
  refine G_call (k := 18) (.mk rfl rfl rfl rfl) rfl rfl (.yes rfl rfl rfl rfl) (awaits25_call _ _ _ _ _ _ _ _ (by exact SlE.toI (by assumption) rfl) (by omega) (by exact (by kernel_rfl : (_ : Bool) = _))) ?_
  rintro r42 E43 L44 hE45 ⟨rfl, rfl⟩
  replace hs21 := hs21.mono hE45
  replace hs18 := hs18.mono hE45
  replace Z32 := Z32.mono hE45
  replace hs13 := hs13.mono hE45
  replace Z23 := Z23.mono hE45
  replace Z14 := Z14.mono hE45
  replace hs7 := hs7.mono hE45
  replace Z5 := Z5.mono hE45
  refine Gv (V_pick_t rfl rfl rfl) ?_
  refine Gm ?_
  (refine G_litZ rfl rfl (by decide) (by simp [fillS, zeros, setLs, setL, Value.cells, List.range, List.range.loop]; rfl) (by rfl) rfl rfl (.yes rfl rfl rfl rfl) ?_; intro b25 E25 hE25 hs25)
  replace hs21 := hs21.mono hE25
  replace hs18 := hs18.mono hE25
  replace Z32 := Z32.mono hE25
  replace hs13 := hs13.mono hE25
  replace Z23 := Z23.mono hE25
  replace Z14 := Z14.mono hE25
  replace hs7 := hs7.mono hE25
  replace Z5 := Z5.mono hE25
  refine G_call (k := 18) (.mk rfl rfl rfl rfl) rfl rfl (.yes rfl rfl rfl rfl) (awaits25_call _ _ _ _ _ _ _ _ (by exact SlE.toI (by assumption) rfl) (by omega) (by exact (by kernel_rfl : (_ : Bool) = _))) ?_
  rintro r46 E47 L48 hE49 ⟨rfl, rfl⟩
  replace hs25 := hs25.mono hE49
  replace hs21 := hs21.mono hE49
  replace hs18 := hs18.mono hE49
  replace Z32 := Z32.mono hE49
  replace hs13 := hs13.mono hE49
  replace Z23 := Z23.mono hE49
  replace Z14 := Z14.mono hE49
  replace hs7 := hs7.mono hE49
  replace Z5 := Z5.mono hE49
  refine Gv (V_pick_t rfl rfl rfl) ?_
  refine Gm ?_
  refine Gy (V_move rfl rfl) ?_
  refine Gy (V_eql rfl rfl rfl) ?_
  refine Gv (V_pick_t rfl rfl rfl) ?_
  refine Gm ?_
  refine G.bool_t 32 rfl (by kernel_rfl) ?_
  refine Gy (V_move rfl rfl) ?_
  (refine G_litZ rfl rfl (by decide) (by simp [fillS, zeros, setLs, setL, Value.cells, List.range, List.range.loop]; rfl) (by rfl) rfl rfl (.yes rfl rfl rfl rfl) ?_; intro b34 E34 hE34 hs34)
  replace hs25 := hs25.mono hE34
  replace hs21 := hs21.mono hE34
  replace hs18 := hs18.mono hE34
  replace Z32 := Z32.mono hE34
  replace hs13 := hs13.mono hE34
  replace Z23 := Z23.mono hE34
  replace Z14 := Z14.mono hE34
  replace hs7 := hs7.mono hE34
  replace Z5 := Z5.mono hE34
  refine G_call (k := 13) (.mk rfl rfl rfl rfl) rfl rfl (.yes rfl rfl rfl rfl) (of_call _ _ _ _ _ _ (by exact SlE.toI (by assumption) rfl) (by omega)) ?_
  rintro r50 E51 L52 hE53 ⟨z54, ⟨z55, ⟨z56, ⟨rfl, ⟨Z57, ⟨Z58, rfl⟩⟩⟩⟩⟩⟩
  replace hs34 := hs34.mono hE53
  replace hs25 := hs25.mono hE53
  replace hs21 := hs21.mono hE53
  replace hs18 := hs18.mono hE53
  replace Z32 := Z32.mono hE53
  replace hs13 := hs13.mono hE53
  replace Z23 := Z23.mono hE53
  replace Z14 := Z14.mono hE53
  replace hs7 := hs7.mono hE53
  replace Z5 := Z5.mono hE53
  have g1 : SlE E51 2 z54 z55 (spC (prs [0, 2, 2, 0])) := by assumption
  have g2 := g1.nSp
  have g3 : (prs [0, 2, 2, 0]).length = 2 := rfl
  refine G_callv (k := 10) (.mk rfl rfl rfl rfl) rfl rfl (.yes rfl rfl rfl rfl) (Same25_call _ _ _ _ _ _ _ _ _ _ (by assumption) (by assumption) (by omega) (by omega)) ?_
  refine Gv (V_pick_t rfl rfl rfl) ?_
  refine Gm ?_
  refine G.bool_t 38 rfl (by kernel_rfl) ?_
  refine Gy (V_move rfl rfl) ?_
  refine Gy (V_eql rfl rfl rfl) ?_
  refine Gv (V_pick_t rfl rfl rfl) ?_
  refine Gm ?_
  refine G.bool_t 42 rfl (by kernel_rfl) ?_
  refine Gy (V_move rfl rfl) ?_
  refine Gy (V_seql rfl rfl rfl) ?_
  refine Gv (V_pick_t rfl rfl rfl) ?_
  refine Gm ?_
  refine G.bool_t 46 rfl (by kernel_rfl) ?_
  (refine G_litZ rfl rfl (by decide) (by simp [fillS, zeros, setLs, setL, Value.cells, List.range, List.range.loop]; rfl) (by rfl) rfl rfl (.yes rfl rfl rfl rfl) ?_; intro b47 E47 hE47 hs47)
  replace Z57 := Z57.mono hE47
  replace hs34 := hs34.mono hE47
  replace hs25 := hs25.mono hE47
  replace hs21 := hs21.mono hE47
  replace hs18 := hs18.mono hE47
  replace Z32 := Z32.mono hE47
  replace hs13 := hs13.mono hE47
  replace Z23 := Z23.mono hE47
  replace Z14 := Z14.mono hE47
  replace hs7 := hs7.mono hE47
  replace Z5 := Z5.mono hE47
  replace g1 := g1.mono hE47
  refine G_call (k := 19) (.mk rfl rfl rfl rfl) rfl rfl (.yes rfl rfl rfl rfl) (checks25_call _ _ _ _ _ _ _ (by exact SlE.toI (by assumption) rfl) (by omega) (by exact (by kernel_rfl : (_ : Bool) = _))) ?_
  rintro r2 E3 L4 hE5 ⟨rfl, rfl⟩
  replace hs47 := hs47.mono hE5
  replace Z57 := Z57.mono hE5
  replace hs34 := hs34.mono hE5
  replace hs25 := hs25.mono hE5
  replace hs21 := hs21.mono hE5
  replace hs18 := hs18.mono hE5
  replace Z32 := Z32.mono hE5
  replace hs13 := hs13.mono hE5
  replace Z23 := Z23.mono hE5
  replace Z14 := Z14.mono hE5
  replace hs7 := hs7.mono hE5
  replace Z5 := Z5.mono hE5
  replace g1 := g1.mono hE5
  refine Gv (V_pick_t rfl rfl rfl) ?_
  refine Ga ?_
  refine G_end (X_then (G_ret ?_))
  refine G_leaveS (.nil _) (by exact (.cons (.tmp rfl) (.nil))) rfl ?_ ?_
  · exact ((((((((((((((((hE4.trans hE7).trans hE10).trans hE19).trans hE13).trans hE28).trans hE37).trans hE18).trans hE41).trans hE21).trans hE45).trans hE25).trans hE49).trans hE34).trans hE53).trans hE47).trans hE5)
  exact ⟨(by kernel_rfl), rfl⟩
end
end Go.Proofs.YtaibabmladgldaaGreatDoor
set_option linter.unusedSimpArgs false
set_option linter.unusedVariables false
set_option maxHeartbeats 2000000
set_option maxRecDepth 20000
namespace Go.Proofs.YtaibabmladgldaaGreatDoor
open Go.RowKit
/-- A string cut at the first byte c. -/
def cutB (c : UInt8) : List UInt8 → List UInt8 × List UInt8 × Bool
  | [] => ([], [], false)
  | b :: l => if b = c then ([], l, true) else (b :: (cutB c l).1, (cutB c l).2.1, (cutB c l).2.2)
theorem cutB_found {c : UInt8} : ∀ {s : List UInt8}, (cutB c s).2.2 = true → s = (cutB c s).1 ++ c :: (cutB c s).2.1 := by
  intro s
  induction s with
  | nil => intro h; cases h
  | cons b l ih =>
    intro h
    unfold cutB at h ⊢
    split
    · rename_i e; subst e; rfl
    · rename_i e
      rw [if_neg e] at h
      exact congrArg (b :: ·) (ih h)
theorem cutB_none {c : UInt8} : ∀ {s : List UInt8}, (cutB c s).2.2 = false → (cutB c s).1 = s ∧ (cutB c s).2.1 = [] := by
  intro s
  induction s with
  | nil => intro _; exact ⟨rfl, rfl⟩
  | cons b l ih =>
    intro h
    unfold cutB at h ⊢
    split
    · rename_i e; rw [if_pos e] at h; cases h
    · rename_i e
      rw [if_neg e] at h
      exact ⟨congrArg (b :: ·) (ih h).1, (ih h).2⟩
theorem cutB_notin (c : UInt8) : ∀ (s : List UInt8), c ∉ (cutB c s).1 := by
  intro s
  induction s with
  | nil => intro h; cases h
  | cons b l ih =>
    unfold cutB
    split
    · intro h; cases h
    · rename_i e
      intro h
      rcases List.mem_cons.1 h with h | h
      · exact e h.symm
      · exact ih h
theorem cutB_app {c : UInt8} : ∀ {a : List UInt8} {r : List UInt8}, c ∉ a → cutB c (a ++ c :: r) = (a, r, true) := by
  intro a
  induction a with
  | nil => intro r _; simp [cutB]
  | cons b l ih =>
    intro r h
    have h1 : ¬ b = c := fun e => h (e ▸ .head _)
    rw [List.cons_append, cutB, if_neg h1, ih (fun h2 => h (.tail _ h2))]
theorem idxB_eq (c : UInt8) : ∀ (s : List UInt8), idxB s c = if (cutB c s).2.2 = true then ((cutB c s).1.length : Int) else -1 := by
  intro s
  induction s with
  | nil => rfl
  | cons b l ih =>
    unfold idxB Lib.indexByte cutB
    unfold idxB at ih
    by_cases e : b = c
    · simp [e]
    · have e2 : (b == c) = false := by simpa using e
      rw [if_neg e, e2]
      simp only [Bool.false_eq_true, if_false]
      rw [ih]
      cases h : (cutB c l).2.2 with
      | true =>
        have e3 : (((cutB c l).1.length : Int) == -1) = false := by rw [beq_eq_false_iff_ne]; omega
        simp only [if_true, e3, Bool.false_eq_true, if_false, List.length_cons]
        omega
      | false => simp
theorem cutB_le (c : UInt8) (s : List UInt8) : (cutB c s).1.length ≤ s.length := by
  cases h : (cutB c s).2.2 with
  | true => have := congrArg List.length (cutB_found h); simp at this; omega
  | false => rw [(cutB_none h).1]; exact Nat.le_refl _
theorem cutB_lt {c : UInt8} {s : List UInt8} (h : (cutB c s).2.2 = true) : s.length = (cutB c s).1.length + 1 + (cutB c s).2.1.length := by
  have := congrArg List.length (cutB_found h); simp at this; omega
theorem cutB_take (c : UInt8) (s : List UInt8) : s.take (cutB c s).1.length = (cutB c s).1 := by
  cases h : (cutB c s).2.2 with
  | true =>
    have := cutB_found h
    generalize (cutB c s).1 = x at *
    rw [this, List.take_left]
  | false => rw [(cutB_none h).1, List.take_length]
theorem cutB_drop {c : UInt8} {s : List UInt8} (h : (cutB c s).2.2 = true) : s.drop ((cutB c s).1.length + 1) = (cutB c s).2.1 := by
  have := cutB_found h
  generalize (cutB c s).1 = x at *
  generalize (cutB c s).2.1 = y at *
  rw [this, ← List.drop_drop, List.drop_left]
  rfl
section
variable (E : Env) (L : List Res)
theorem slIndexByte_call (s : List UInt8) (c : Nat) : CallV Tryz.prog 75 #[.string (S s), .int .u8 c] E L (.int .i64 (idxB s c.toUInt8)) := by
  refine CallS.toV (CallS.intro (l := [_, _]) _ Tryz.func75 rfl Tryz.ntmps75 rfl ?_)
  refine G_seq (G_region ?_)
  refine Ga ?_
  refine G_end (X_then (G_seq (G_region ?_)))
  refine Gm ?_
  refine Gm ?_
  refine Gv (IndexByteString_val (.mk rfl rfl rfl rfl)) ?_
  refine Ga ?_
  refine G_end (X_then (G_ret ?_))
  refine G_leaveS (.nil _) (by exact (.cons (.tmp rfl) (.nil))) rfl ?_ ?_
  · exact (.refl _)
  exact ⟨rfl, rfl⟩
theorem u8_back (c : UInt8) : (c.toNat).toUInt8 = c := by simp [Nat.toUInt8, UInt8.ofNat_toNat]
theorem slIndex1_call (s : List UInt8) (c : UInt8) (hs : s.length ≤ 9223372036854775807) : CallV Tryz.prog 59 #[.string (S s), .string (S [c])] E L (.int .i64 (idxB s c)) := by
  refine CallS.toV (CallS.intro (l := [_, _]) _ Tryz.func59 rfl Tryz.ntmps59 rfl ?_)
  have hl : [c].length = 1 := rfl
  have h0 : [c][0]? = some c := rfl
  by_cases h : [c] = s
  · have e : idxB s c = 0 := by rw [← h]; simp [idxB, Lib.indexByte]
    rw [e]
    refine G_seq (G_region ?_)
    refine Ga ?_
    refine G_end (X_then (G_seq (G_region ?_)))
    refine Gm ?_
    refine Gv (V_len rfl rfl) ?_
    refine Ga ?_
    refine G_end (X_then (G_seq (G_block (G_seq (G_region ?_)))))
    refine Gm ?_
    refine Gv (V_eql rfl rfl rfl) ?_
    refine Gm ?_
    refine G.bool_f 19 rfl (decide_eq_false (by omega)) ?_
    refine Gy (V_move rfl rfl) ?_
    refine Gy (V_move rfl rfl) ?_
    refine Gy (V_seql rfl rfl rfl) ?_
    refine Gv (V_pick_f rfl rfl rfl) ?_
    refine Ga ?_
    refine G_end (X_then ?_)
    refine G_cond_t rfl (decide_eq_true (by omega)) ?_
    refine G_seq (G_region ?_)
    refine Ga ?_
    refine G_end (X_then (G_ret (X_block_ret (X_then_ret ?_))))
    refine G_leaveS (.nil _) (by exact (.cons (.tmp rfl) (.nil))) rfl ?_ ?_
    · exact (.refl _)
    exact ⟨(by kernel_rfl), rfl⟩
  · have hb := u8_back c
    refine G_seq (G_region ?_)
    refine Ga ?_
    refine G_end (X_then (G_seq (G_region ?_)))
    refine Gm ?_
    refine Gv (V_len rfl rfl) ?_
    refine Ga ?_
    refine G_end (X_then (G_seq (G_block (G_seq (G_region ?_)))))
    refine Gm ?_
    refine Gv (V_eql rfl rfl rfl) ?_
    refine Gm ?_
    refine G.bool_f 19 rfl (decide_eq_false (by omega)) ?_
    refine Gy (V_move rfl rfl) ?_
    refine Gy (V_move rfl rfl) ?_
    refine Gy (V_seql rfl rfl rfl) ?_
    refine Gv (V_pick_f rfl rfl rfl) ?_
    refine Ga ?_
    refine G_end (X_then ?_)
    refine G_cond_f rfl (decide_eq_false (by omega)) ?_
    refine G_seq (G_region ?_)
    refine Gm ?_
    refine Gv (V_eql rfl rfl rfl) ?_
    refine Ga ?_
    refine G_end (X_then ?_)
    refine G_cond_t rfl (decide_eq_true (by omega)) ?_
    refine G_seq (G_region ?_)
    refine Gm ?_
    refine Gm ?_
    refine Gv (V_sidx rfl rfl rfl (by omega) (by assumption)) ?_
    refine G_callv (k := 75) (.mk rfl rfl rfl rfl) rfl rfl (.none rfl) (slIndexByte_call _ _ _ _) ?_
    refine Ga ?_
    refine G_end (X_then (G_ret (X_block_ret (X_then_ret ?_))))
    refine G_leaveS (.nil _) (by exact (.cons (.tmp rfl) (.nil))) rfl ?_ ?_
    · exact (.refl _)
    exact ⟨(by (simp [resVal, *]; done)), (by rfl)⟩
theorem Index1_call (s : List UInt8) (c : UInt8) (hs : s.length ≤ 9223372036854775807) : CallV Tryz.prog 58 #[.string (S s), .string (S [c])] E L (.int .i64 (idxB s c)) := by
  refine CallS.toV (CallS.intro (l := [_, _]) _ Tryz.func58 rfl Tryz.ntmps58 rfl ?_)
  refine G_seq (G_region ?_)
  refine Ga ?_
  refine G_end (X_then (G_seq (G_region ?_)))
  refine Gm ?_
  refine Gm ?_
  refine G_callv (k := 59) (.mk rfl rfl rfl rfl) rfl rfl (.none rfl) (slIndex1_call _ _ _ _ (by assumption)) ?_
  refine Ga ?_
  refine G_end (X_then (G_ret ?_))
  refine G_leaveS (.nil _) (by exact (.cons (.tmp rfl) (.nil))) rfl ?_ ?_
  · exact (.refl _)
  exact ⟨rfl, rfl⟩
theorem slCut1_call (s : List UInt8) (c : UInt8) (hs : s.length ≤ 9223372036854775807) : CallV Tryz.prog 43 #[.string (S s), .string (S [c])] E L (.tuple #[.string (S (cutB c s).1), .string (S (cutB c s).2.1), .bool (cutB c s).2.2]) := by
  refine CallS.toV (CallS.intro (l := [_, _]) _ Tryz.func43 rfl Tryz.ntmps43 rfl ?_)
  have hi := idxB_eq c s
  have hl : [c].length = 1 := rfl
  cases h : (cutB c s).2.2 with
  | true =>
    rw [h, if_pos rfl] at hi
    have hlt := cutB_lt h
    have e1 := cutB_take c s
    have e2 := cutB_drop h
    have e3 : (idxB s c).toNat = (cutB c s).1.length := by omega
    have e4 : (idxB s c + ([c].length : Int)).toNat = (cutB c s).1.length + 1 := by rw [hl]; omega
    refine G_seq (G_region ?_)
    refine Ga ?_
    refine Ga ?_
    refine Ga ?_
    refine G_end (X_then (G_seq (G_seq (G_region ?_))))
    refine Gm ?_
    refine Gm ?_
    refine G_callv (k := 59) (.mk rfl rfl rfl rfl) rfl rfl (.none rfl) (slIndex1_call _ _ _ _ (by assumption)) ?_
    refine Ga ?_
    refine G_end (X_then (G_seq (G_region ?_)))
    refine Gm ?_
    refine Gv (V_geq rfl rfl rfl) ?_
    refine G_end (X_then ?_)
    refine G_cond_t rfl (decide_eq_true (by omega)) ?_
    refine G_seq ?_
    refine G_draw mixed (by kernel_rfl) ?_
    refine Q_val (V_move rfl rfl) rfl rfl (.none rfl) ?_
    refine Q_val (V_move rfl rfl) rfl rfl (.none rfl) ?_
    refine Q_val (V_front rfl rfl rfl (by omega) (by omega)) rfl rfl (.none rfl) ?_
    refine Q_val (V_move rfl rfl) rfl rfl (.none rfl) ?_
    refine Q_val (V_move rfl rfl) rfl rfl (.none rfl) ?_
    refine Q_val (V_move rfl rfl) rfl rfl (.none rfl) ?_
    refine Q_val (V_len rfl rfl) rfl rfl (.none rfl) ?_
    refine Q_val (V_add_i64 rfl rfl rfl (by omega) (by omega)) rfl rfl (.none rfl) ?_
    refine Q_val (V_back rfl rfl rfl (by omega) (by omega)) rfl rfl (.none rfl) ?_
    refine Q_val (V_assign rfl rfl) rfl rfl (.none rfl) ?_
    refine Q_val (V_assign rfl rfl) rfl rfl (.none rfl) ?_
    refine Q_val (V_assign rfl rfl) rfl rfl (.none rfl) ?_
    refine Q_end ?_
    refine X_then (G_ret (X_then_ret ?_))
    refine G_leaveS (.nil _) (by exact (.cons (.tmp rfl) (.cons (.tmp rfl) (.cons (.tmp rfl) (.nil))))) rfl ?_ ?_
    · exact (.refl _)
    exact ⟨(by (simp (discharger := omega) only [resVal, e3, e4, e1, e2, if_pos, if_neg]; first | done | rfl)), (by rfl)⟩
  | false =>
    rw [h, if_neg (by decide)] at hi
    rw [(cutB_none h).1, (cutB_none h).2]
    refine G_seq (G_region ?_)
    refine Ga ?_
    refine Ga ?_
    refine Ga ?_
    refine G_end (X_then (G_seq (G_seq (G_region ?_))))
    refine Gm ?_
    refine Gm ?_
    refine G_callv (k := 59) (.mk rfl rfl rfl rfl) rfl rfl (.none rfl) (slIndex1_call _ _ _ _ (by assumption)) ?_
    refine Ga ?_
    refine G_end (X_then (G_seq (G_region ?_)))
    refine Gm ?_
    refine Gv (V_geq rfl rfl rfl) ?_
    refine G_end (X_then ?_)
    refine G_cond_f rfl (decide_eq_false (by omega)) ?_
    refine G_skip (X_then (G_seq (G_region ?_)))
    refine Gm ?_
    refine Ga ?_
    refine Ga ?_
    refine Ga ?_
    refine G_end (X_then (G_ret ?_))
    refine G_leaveS (.nil _) (by exact (.cons (.tmp rfl) (.cons (.tmp rfl) (.cons (.tmp rfl) (.nil))))) rfl ?_ ?_
    · exact (.refl _)
    exact ⟨rfl, rfl⟩
theorem Cut1_call (s : List UInt8) (c : UInt8) (hs : s.length ≤ 9223372036854775807) : CallV Tryz.prog 29 #[.string (S s), .string (S [c])] E L (.tuple #[.string (S (cutB c s).1), .string (S (cutB c s).2.1), .bool (cutB c s).2.2]) := by
  refine CallS.toV (CallS.intro (l := [_, _]) _ Tryz.func29 rfl Tryz.ntmps29 rfl ?_)
  refine G_seq (G_region ?_)
  refine Ga ?_
  refine Ga ?_
  refine Ga ?_
  refine G_end (X_then (G_seq (G_region ?_)))
  refine Gm ?_
  refine Gm ?_
  refine G_callv (k := 43) (.mk rfl rfl rfl rfl) rfl rfl (.none rfl) (slCut1_call _ _ _ _ (by assumption)) ?_
  refine Gv (V_extract rfl rfl rfl) ?_
  refine Gv (V_extract rfl rfl rfl) ?_
  refine Gv (V_extract rfl rfl rfl) ?_
  refine Ga ?_
  refine Ga ?_
  refine Ga ?_
  refine G_end (X_then (G_ret ?_))
  refine G_leaveS (.nil _) (by exact (.cons (.tmp rfl) (.cons (.tmp rfl) (.cons (.tmp rfl) (.nil))))) rfl ?_ ?_
  · exact (.refl _)
  exact ⟨rfl, rfl⟩
end
end Go.Proofs.YtaibabmladgldaaGreatDoor
set_option linter.unusedSimpArgs false
set_option linter.unusedVariables false
set_option maxHeartbeats 2000000
set_option maxRecDepth 20000
namespace Go.Proofs.YtaibabmladgldaaGreatDoor
open Go.RowKit
/-! strings.SplitSeq at one byte. -/
def splitB (c : UInt8) : List UInt8 → List (List UInt8)
  | [] => [[]]
  | b :: s => if b = c then [] :: splitB c s else match splitB c s with
    | [] => [[b]]
    | p :: ps => (b :: p) :: ps
theorem splitB_ne (c : UInt8) : ∀ s, splitB c s ≠ [] := by
  intro s
  cases s with
  | nil => simp [splitB]
  | cons b s =>
    unfold splitB
    split
    · simp
    · split <;> simp
theorem splitB_len (c : UInt8) : ∀ s : List UInt8, (splitB c s).length = s.count c + 1 := by
  intro s
  induction s with
  | nil => rfl
  | cons b s ih =>
    unfold splitB
    by_cases h : b = c
    · rw [if_pos h, List.length_cons, ih, h, List.count_cons_self]
    · rw [if_neg h, List.count_cons_of_ne h]
      split
      · rename_i h1; exact absurd h1 (splitB_ne c s)
      · rename_i p ps h1
        rw [h1] at ih
        simpa using ih
theorem splitB_notin (c : UInt8) : ∀ a : List UInt8, c ∉ a → splitB c a = [a] := by
  intro a
  induction a with
  | nil => intro _; rfl
  | cons b a ih =>
    intro h
    have hb : b ≠ c := fun e => h (by rw [e]; exact .head _)
    rw [splitB, if_neg hb, ih (fun h1 => h (.tail _ h1))]
theorem splitB_app (c : UInt8) : ∀ (a r : List UInt8), c ∉ a → splitB c (a ++ c :: r) = a :: splitB c r := by
  intro a
  induction a with
  | nil => intro r _; rw [List.nil_append, splitB, if_pos rfl]
  | cons b a ih =>
    intro r h
    have hb : b ≠ c := fun e => h (by rw [e]; exact .head _)
    rw [List.cons_append, splitB, if_neg hb, ih r (fun h1 => h (.tail _ h1))]
theorem splitB_cut (c : UInt8) (s : List UInt8) : splitB c s = if (cutB c s).2.2 = true then (cutB c s).1 :: splitB c (cutB c s).2.1 else [s] := by
  by_cases h : (cutB c s).2.2 = true
  · rw [if_pos h]
    conv => lhs; rw [cutB_found h]
    exact splitB_app c _ _ (cutB_notin c s)
  · rw [if_neg h]
    have h1 := cutB_none (c := c) (s := s) (by simpa using h)
    have h2 := cutB_notin c s
    rw [h1.1] at h2
    exact splitB_notin c s h2
theorem splitB_found {c : UInt8} {s : List UInt8} (h : (cutB c s).2.2 = true) : splitB c s = (cutB c s).1 :: splitB c (cutB c s).2.1 := by rw [splitB_cut, if_pos h]
theorem splitB_none {c : UInt8} {s : List UInt8} (h : (cutB c s).2.2 = false) : splitB c s = [s] := by rw [splitB_cut, if_neg (by rw [h]; decide)]
abbrev lblk0 (c1 c2 c3 : Nat) (c : UInt8) (s : List UInt8) (L : List Res) : List Res :=
  .blk c1 (.cells #[.string (S [c])] 9 (0, 0)) :: .blk c2 (.cells #[.string (S s)] 9 (0, 0)) :: .blk c3 (.cells #[.int .i64 0] 3 (0, 0)) :: L
theorem iter_split (c1 c2 c3 : Nat) (c : UInt8) (s : List UInt8) (hs : s.length ≤ 1000000000000) (E : Env) :
    Iter Tryz.prog 56 #[.pointer (some ⟨c1, 0, none⟩), .pointer (some ⟨c2, 0, none⟩), .pointer (some ⟨c3, 0, none⟩)] (fun x : List UInt8 => [Value.string (S x)].toArray) (splitB c s) E (lblk0 c1 c2 c3 c s []) := by
  intro y E0 L0 Inv InvX hE0 h0 hy
  refine CallS.intro (L := lblk0 c1 c2 c3 c s L0) (l := [.func (.yield y) #[] #[], .pointer (some ⟨c1, 0, none⟩), .pointer (some ⟨c2, 0, none⟩), .pointer (some ⟨c3, 0, none⟩)]) _ Tryz.func56 rfl Tryz.ntmps56 rfl ?_
  have hc1 : [c].length = 1 := rfl
  refine G_seq (G_seq (G_region ?_))
  refine Gv (V_load rfl rfl (Cell.own1 (.head _))) ?_
  refine Gv (V_len rfl rfl) ?_
  refine Gv (V_eql rfl rfl rfl) ?_
  refine G_end (X_then ?_)
  refine G_cond_f rfl (decide_eq_false (by omega)) ?_
  refine G_skip (X_then (G_seq (G_block ?_)))
  refine G_loop (α := List (List UInt8) × List UInt8 × Env × List Res) (fun _ => [(0, .func (.yield y) #[] #[]), (1, .pointer (some ⟨c1, 0, none⟩)), (2, .pointer (some ⟨c2, 0, none⟩)), (3, .pointer (some ⟨c3, 0, none⟩))]) (fun x => x.2.2.1) (fun x => lblk0 c1 c2 c3 c x.2.1 x.2.2.2)
    (fun x => E0.Le x.2.2.1 ∧ x.2.1.length ≤ s.length ∧ splitB c s = x.1 ++ splitB c x.2.1 ∧ Inv x.1 x.2.2.1 x.2.2.2) (fun x => x.2.1.length) ([], s, E0, L0)
    ⟨.refl _, Nat.le_refl _, rfl, h0⟩ ⟨rfl, rfl, rfl, rfl, trivial⟩ rfl rfl ?_
  rintro ⟨pre, r, E, L⟩ ⟨hE, hl, hv, hI⟩
  simp only at hE hl hv hI ⊢
  have hi := idxB_eq c r
  cases h : (cutB c r).2.2 with
  | true =>
    rw [h, if_pos rfl] at hi
    have hlt := cutB_lt h
    have hf := cutB_found h
    have e1 : r.take (cutB c r).1.length = (cutB c r).1 := cutB_take c r
    have e2 := cutB_drop h
    have e3 : (idxB r c + 0).toNat = (cutB c r).1.length := by omega
    have e4 : (idxB r c + ([c].length : Int)).toNat = (cutB c r).1.length + 1 := by rw [hc1]; omega
    have hsp := splitB_found h
    rw [hsp] at hv
    have hpre : pre ++ [(cutB c r).1] <+: splitB c s := by rw [hv]; exact ⟨splitB c (cutB c r).2.1, by simp⟩
    refine G_block (G_seq (G_region ?_))
    refine Gv (V_load rfl rfl (Cell.own1 (.tail _ (.head _)))) ?_
    refine Gv (V_load rfl rfl (Cell.own1 (.head _))) ?_
    refine G_callv (k := 58) (.mk rfl rfl rfl rfl) rfl rfl (.none rfl) (Index1_call _ _ _ _ (by omega)) ?_
    refine Ga ?_
    refine G_end (X_then (G_seq (G_seq (G_region ?_))))
    refine Gm ?_
    refine Gv (V_lss rfl rfl rfl) ?_
    refine G_end (X_then ?_)
    refine G_cond_f rfl (decide_eq_false (by omega)) ?_
    refine G_skip (X_then (G_seq (G_region ?_)))
    refine Gv (V_load rfl rfl (Cell.own1 (.tail _ (.head _)))) ?_
    refine Gm ?_
    refine Gv (V_load rfl rfl (Cell.own1 (.tail _ (.tail _ (.head _))))) ?_
    refine Gv (V_add_i64 rfl rfl rfl (by omega) (by omega)) ?_
    refine Gv (V_front rfl rfl rfl (by omega) (by omega)) ?_
    refine Ga ?_
    refine G_end (X_then (G_seq (G_seq (G_region ?_))))
    refine Gm ?_
    refine Gm ?_
    rw [e3, e1]
    refine G_yield (.mk rfl rfl rfl rfl) rfl rfl (.none rfl) (hy pre _ E L (lblk0 c1 c2 c3 c r []) hE hpre hI) ?_
    rintro r2 E' L' hE' ⟨L3, rfl, (⟨rfl, hI'⟩ | ⟨rfl, hI'⟩)⟩
    · simp only [List.cons_append, List.nil_append]
      refine Gv (V_not rfl rfl) ?_
      refine G_end (X_then ?_)
      refine G_cond_f rfl (by kernel_rfl) ?_
      refine G_skip (X_then (G_region ?_))
      refine Gv (V_load rfl rfl (Cell.own1 (.tail _ (.head _)))) ?_
      refine Gm ?_
      refine Gv (V_load rfl rfl (Cell.own1 (.head _))) ?_
      refine Gv (V_len rfl rfl) ?_
      refine Gv (V_add_i64 rfl rfl rfl (by omega) (by omega)) ?_
      refine Gv (V_back rfl rfl rfl (by omega) (by omega)) ?_
      refine G_store1 rfl rfl rfl rfl rfl rfl (.none rfl) (.tail _ (.head _ _ _)) ?_
      refine G_end (X_block (X_then ?_))
      rw [e4, e2]
      exact G_again (pre ++ [(cutB c r).1], (cutB c r).2.1, E', L3) ⟨hE.trans hE', by simp only; omega, by simp only; rw [hv]; simp, hI'⟩ (by simp only; omega) ⟨rfl, rfl, rfl, rfl, trivial⟩ rfl rfl
    · refine Gv (V_not rfl rfl) ?_
      refine G_end (X_then ?_)
      refine G_cond_t rfl (by kernel_rfl) ?_
      refine G_ret (X_then_ret (X_block_ret (X_then_ret (X_block_ret (X_then_ret ?_)))))
      exact G_leave_n 0 .nil rfl (hE.trans hE') ⟨lblk0 c1 c2 c3 c r [], L3, rfl, .inr ⟨_, hpre, hI'⟩⟩
  | false =>
    rw [h, if_neg (by decide)] at hi
    have hsp := splitB_none h
    rw [hsp] at hv
    have hpre : pre ++ [r] <+: splitB c s := by rw [hv]; exact List.prefix_refl _
    refine G_block (G_seq (G_region ?_))
    refine Gv (V_load rfl rfl (Cell.own1 (.tail _ (.head _)))) ?_
    refine Gv (V_load rfl rfl (Cell.own1 (.head _))) ?_
    refine G_callv (k := 58) (.mk rfl rfl rfl rfl) rfl rfl (.none rfl) (Index1_call _ _ _ _ (by omega)) ?_
    refine Ga ?_
    refine G_end (X_then (G_seq (G_seq (G_region ?_))))
    refine Gm ?_
    refine Gv (V_lss rfl rfl rfl) ?_
    refine G_end (X_then ?_)
    refine G_cond_t rfl (decide_eq_true (by omega)) ?_
    refine G_exit (X_then_exit ?_)
    refine X_block_miss rfl ?_
    refine X_then_exit (X_block_hit (X_then (G_region ?_)))
    refine Gm ?_
    refine Gv (V_load rfl rfl (Cell.own1 (.tail _ (.head _)))) ?_
    refine G_yield (.mk rfl rfl rfl rfl) rfl rfl (.none rfl) (hy pre _ E L (lblk0 c1 c2 c3 c r []) hE hpre hI) ?_
    rintro r2 E' L' hE' ⟨L3, rfl, (⟨rfl, hI'⟩ | ⟨rfl, hI'⟩)⟩
    · refine G_end ?_
      exact G_leave_n 0 .nil rfl (hE.trans hE') ⟨lblk0 c1 c2 c3 c r [], L3, rfl, .inl (by rw [hv]; exact hI')⟩
    · refine G_end ?_
      exact G_leave_n 0 .nil rfl (hE.trans hE') ⟨lblk0 c1 c2 c3 c r [], L3, rfl, .inr ⟨_, hpre, hI'⟩⟩
section
variable (E : Env) (L : List Res)
theorem splitSeq0_call (s : List UInt8) (c : UInt8) : CallS Tryz.prog 42 #[.string (S s), .string (S [c]), .int .i64 0] E L (fun r E' L' => ∃ c1 c2 c3, r = .func (.func 56) #[] #[.pointer (some ⟨c1, 0, none⟩), .pointer (some ⟨c2, 0, none⟩), .pointer (some ⟨c3, 0, none⟩)] ∧ E = E' ∧ L' = lblk0 c1 c2 c3 c s L) := by
  refine CallS.intro (l := [_, _, _]) _ Tryz.func42 rfl Tryz.ntmps42 rfl ?_
  refine G_seq (G_region ?_)
  (refine G_box1 rfl rfl rfl rfl rfl (.none rfl) ?_; intro b3)
  (refine G_box1 rfl rfl rfl rfl rfl (.none rfl) ?_; intro b4)
  (refine G_box1 rfl rfl rfl rfl rfl (.none rfl) ?_; intro b5)
  refine Ga ?_
  refine G_end (X_then (G_seq (G_region ?_)))
  refine Gv (V_makeFunc rfl rfl rfl) ?_
  refine Ga ?_
  refine G_end (X_then (G_ret ?_))
  refine G.front (.tail _ (.tail _ (.head _ _))) ?_
  refine G.front (.tail _ (.tail _ (.head _ _))) ?_
  refine G_leaveS (.keep _ (.keep _ (.keep _ (.nil _)))) (by exact (.cons (.tmp rfl) (.nil))) rfl ?_ ?_
  · exact (.refl _)
  exact ⟨_, ⟨_, ⟨_, ⟨rfl, ⟨rfl, rfl⟩⟩⟩⟩⟩
theorem SplitSeq_call (s : List UInt8) (c : UInt8) : CallS Tryz.prog 28 #[.string (S s), .string (S [c])] E L (fun r E' L' => ∃ c1 c2 c3, r = .func (.func 56) #[] #[.pointer (some ⟨c1, 0, none⟩), .pointer (some ⟨c2, 0, none⟩), .pointer (some ⟨c3, 0, none⟩)] ∧ E = E' ∧ L' = lblk0 c1 c2 c3 c s L) := by
  refine CallS.intro (l := [_, _]) _ Tryz.func28 rfl Tryz.ntmps28 rfl ?_
  refine G_seq (G_region ?_)
  refine Ga ?_
  refine G_end (X_then (G_seq (G_region ?_)))
  refine Gm ?_
  refine Gm ?_
  refine G_call (k := 42) (.mk rfl rfl rfl rfl) rfl rfl (.none rfl) (splitSeq0_call _ _ _ _) ?_
  rintro r1 E2 L3 hE4 ⟨z5, ⟨z6, ⟨z7, ⟨rfl, ⟨rfl, rfl⟩⟩⟩⟩⟩
  refine Ga ?_
  refine G_end (X_then (G_ret ?_))
  refine G_leaveS (.nil _) (by exact (.cons (.tmp rfl) (.nil))) rfl ?_ ?_
  · exact (.refl _)
  exact ⟨_, ⟨_, ⟨_, ⟨rfl, ⟨rfl, rfl⟩⟩⟩⟩⟩
end
end Go.Proofs.YtaibabmladgldaaGreatDoor
set_option linter.unusedSimpArgs false
set_option linter.unusedVariables false
set_option maxHeartbeats 2000000
set_option maxRecDepth 20000
namespace Go.Proofs.YtaibabmladgldaaGreatDoor
open Go.RowKit
/-! strconv.Itoa of numbers below 1,000: the parts. -/
def smls : List UInt8 := (List.range 100).flatMap fun i => [UInt8.ofNat (48 + i / 10), UInt8.ofNat (48 + i % 10)]
theorem smls_len : smls.length = 200 := by decide +kernel
theorem smls_cut {k : Nat} (h : k < 100) : (smls.take (2 * k + 2)).drop (2 * k) = [UInt8.ofNat (48 + k / 10), UInt8.ofNat (48 + k % 10)] := by
  have : ∀ i : Fin 100, (smls.take (2 * i.val + 2)).drop (2 * i.val) = [UInt8.ofNat (48 + i.val / 10), UInt8.ofNat (48 + i.val % 10)] := by decide +kernel
  exact this ⟨k, h⟩
theorem log10_shr {k : Nat} (h : k < 64) : shrI .i64 ((k : Int) * 78913) 18 = ((k * 78913 / 262144 : Nat) : Int) := by
  have : ∀ i : Fin 64, shrI .i64 ((i.val : Int) * 78913) 18 = ((i.val * 78913 / 262144 : Nat) : Int) := by decide +kernel
  exact this ⟨k, h⟩
section
variable (E : Env) (L : List Res)
theorem small2_call (k : Nat) (h : 10 ≤ k ∧ k < 100) : CallV Tryz.prog 88 #[.int .i64 (k : Nat)] E L (.string (S [UInt8.ofNat (48 + k / 10), UInt8.ofNat (48 + k % 10)])) := by
  have hl := smls_len
  have hc := smls_cut h.2
  refine CallS.toV (CallS.intro (l := [_]) _ Tryz.func88 rfl Tryz.ntmps88 rfl ?_)
  refine G_seq (G_region ?_)
  refine Ga ?_
  refine G_end (X_then (G_seq (G_seq (G_region ?_))))
  refine Gm ?_
  refine Gv (V_lss rfl rfl rfl) ?_
  refine G_end (X_then ?_)
  refine G_cond_f rfl (decide_eq_false (by omega)) ?_
  refine G_skip (X_then (G_seq (G_region ?_)))
  refine Gm ?_
  refine Gv (V_mul_i64 rfl rfl rfl (by omega) (by omega)) ?_
  refine Gm ?_
  refine Gv (V_mul_i64 rfl rfl rfl (by omega) (by omega)) ?_
  refine Gv (V_add_i64 rfl rfl rfl (by omega) (by omega)) ?_
  refine Gv (V_cut (s := smls) rfl (by kernel_rfl) rfl rfl (by omega) (by omega) (by omega)) ?_
  rw [show ((k : Int) * 2 + 2).toNat = 2 * k + 2 by omega, show ((k : Int) * 2).toNat = 2 * k by omega, hc]
  refine Ga ?_
  refine G_end (X_then (G_ret ?_))
  refine G_leaveS (.nil _) (by exact (.cons (.tmp rfl) (.nil))) rfl ?_ ?_
  · exact (.refl _)
  exact ⟨rfl, rfl⟩
theorem log10_call (k : Nat) (h : k < 64) : CallV Tryz.prog 102 #[.int .i64 (k : Nat)] E L (.int .i64 ((k * 78913 / 262144 : Nat) : Int)) := by
  rw [← log10_shr h]
  refine CallS.toV (CallS.intro (l := [_]) _ Tryz.func102 rfl Tryz.ntmps102 rfl ?_)
  refine G_seq (G_region ?_)
  refine Ga ?_
  refine G_end (X_then (G_seq (G_region ?_)))
  refine Gm ?_
  refine Gv (V_mul_i64 rfl rfl rfl (by omega) (by omega)) ?_
  refine Gv (V_shr rfl rfl rfl (by omega)) ?_
  refine Ga ?_
  refine G_end (X_then (G_ret ?_))
  refine G_leaveS (.nil _) (by exact (.cons (.tmp rfl) (.nil))) rfl ?_ ?_
  · exact (.refl _)
  exact ⟨rfl, rfl⟩
theorem bool2_call (b : Bool) : CallV Tryz.prog 104 #[.bool b] E L (.int .i64 (if b then 1 else 0)) := by
  refine CallS.toV (CallS.intro (l := [_]) _ Tryz.func104 rfl Tryz.ntmps104 rfl ?_)
  cases b
  · refine G_seq ?_
    refine G_region ?_
    refine Ga ?_
    refine G_end (X_then (G_seq (G_seq (G_region ?_))))
    refine Gm ?_
    refine G_end (X_then ?_)
    refine G_cond_f rfl rfl ?_
    refine G_skip (X_then (G_seq (G_region ?_)))
    refine Ga ?_
    refine G_end (X_then (G_ret ?_))
    refine G_leaveS (.nil _) (by exact (.cons (.tmp rfl) (.nil))) rfl ?_ ?_
    · exact (.refl _)
    exact ⟨(by kernel_rfl), rfl⟩
  · refine G_seq ?_
    refine G_region ?_
    refine Ga ?_
    refine G_end (X_then (G_seq (G_seq (G_region ?_))))
    refine Gm ?_
    refine G_end (X_then ?_)
    refine G_cond_t rfl rfl ?_
    refine G_seq (G_region ?_)
    refine Ga ?_
    refine G_end (X_then (G_ret (X_then_ret ?_)))
    refine G_leaveS (.nil _) (by exact (.cons (.tmp rfl) (.nil))) rfl ?_ ?_
    · exact (.refl _)
    exact ⟨(by kernel_rfl), rfl⟩
end
end Go.Proofs.YtaibabmladgldaaGreatDoor
set_option linter.unusedSimpArgs false
set_option linter.unusedVariables false
set_option maxHeartbeats 2000000
set_option maxRecDepth 20000
namespace Go.Proofs.YtaibabmladgldaaGreatDoor
open Go.RowKit
/-! The number of digits of numbers from 100 to 999. -/
def len8 : List UInt8 := (List.range 256).map fun i => UInt8.ofNat (if i = 0 then 0 else Nat.log2 i + 1)
def lenN (d : Nat) : Nat := if d < 128 then 7 else if d < 256 then 8 else if d < 512 then 9 else 10
theorem len8_lo {d : Nat} (h : 100 ≤ d ∧ d < 256) : len8[d]? = some (UInt8.ofNat (lenN d)) := by
  have : ∀ i : Fin 256, 100 ≤ i.val → len8[i.val]? = some (UInt8.ofNat (lenN i.val)) := by decide +kernel
  exact this ⟨d, h.2⟩ h.1
theorem len8_hi {d : Nat} (h : 1 ≤ d ∧ d < 4) : len8[d]? = some (UInt8.ofNat (if d < 2 then 1 else 2)) := by
  have : ∀ i : Fin 4, 1 ≤ i.val → len8[i.val]? = some (UInt8.ofNat (if i.val < 2 then 1 else 2)) := by decide +kernel
  exact this ⟨d, h.2⟩ h.1
theorem shr8 {d : Nat} (h : d < 1000) : IntKind.u8.wrap (shrI .u64 (d : Int) 8) = ((d / 256 : Nat) : Int) := by
  have : ∀ i : Fin 1000, IntKind.u8.wrap (shrI .u64 (i.val : Int) 8) = ((i.val / 256 : Nat) : Int) := by decide +kernel
  exact this ⟨d, h⟩
theorem lenN_lo {d : Nat} : ((UInt8.ofNat (lenN d)).toNat : Int) = (lenN d : Nat) := by
  unfold lenN
  split
  · rfl
  · split
    · rfl
    · split <;> rfl
section
variable (E : Env) (L : List Res)
theorem Len64_call (d : Nat) (h : 100 ≤ d ∧ d < 1000) : CallV Tryz.prog 103 #[.int .u64 (d : Nat)] E L (.int .i64 ((lenN d : Nat) : Int)) := by
  refine CallS.toV (CallS.intro (l := [_]) _ Tryz.func103 rfl Tryz.ntmps103 rfl ?_)
  by_cases h2 : d < 256
  · have h8 := len8_lo ⟨h.1, h2⟩
    have h9 : lenN d = 7 ∨ lenN d = 8 := by unfold lenN; split; simp; simp [h2]
    have hw : IntKind.i64.wrap (0 + IntKind.i64.wrap ((UInt8.ofNat (lenN d)).toNat : Int)) = ((lenN d : Nat) : Int) := by
      rw [lenN_lo, wrap_i64 (a := ((lenN d : Nat) : Int)) (by omega) (by omega), wrap_i64 (by omega) (by omega)]; omega
    refine G_seq (G_region ?_)
    refine Ga ?_
    refine G_end (X_then (G_seq (G_seq (G_region ?_))))
    refine Gm ?_
    refine Gv (V_geq rfl rfl rfl) ?_
    refine G_end (X_then ?_)
    refine G_cond_f rfl (decide_eq_false (by omega)) ?_
    refine G_skip (X_then (G_seq (G_seq (G_region ?_))))
    refine Gm ?_
    refine Gv (V_geq rfl rfl rfl) ?_
    refine G_end (X_then ?_)
    refine G_cond_f rfl (decide_eq_false (by omega)) ?_
    refine G_skip (X_then (G_seq (G_seq (G_region ?_))))
    refine Gm ?_
    refine Gv (V_geq rfl rfl rfl) ?_
    refine G_end (X_then ?_)
    refine G_cond_f rfl (decide_eq_false (by omega)) ?_
    refine G_skip (X_then (G_seq (G_region ?_)))
    refine Gm ?_
    refine Gm ?_
    refine Gv (V_conv_u8 rfl rfl (by omega) (by omega)) ?_
    refine Gv (V_sidx rfl rfl rfl (by omega) (by assumption)) ?_
    refine Gv (V_conv rfl rfl) ?_
    refine Gv (V_add rfl rfl rfl) ?_
    refine Ga ?_
    refine G_end (X_then (G_ret ?_))
    refine G_leaveS (.nil _) (by exact (.cons (.tmp rfl) (.nil))) rfl ?_ ?_
    · exact (.refl _)
    exact ⟨(by ((try simp only [resVal]); (repeat' split) <;> first | rfl | (exfalso; omega) | (simp_all; done) | (simp_all; omega))), (by rfl)⟩
  · have h8 := len8_hi (d := d / 256) (by omega)
    have hs := shr8 h.2
    refine G_seq (G_region ?_)
    refine Ga ?_
    refine G_end (X_then (G_seq (G_seq (G_region ?_))))
    refine Gm ?_
    refine Gv (V_geq rfl rfl rfl) ?_
    refine G_end (X_then ?_)
    refine G_cond_f rfl (decide_eq_false (by omega)) ?_
    refine G_skip (X_then (G_seq (G_seq (G_region ?_))))
    refine Gm ?_
    refine Gv (V_geq rfl rfl rfl) ?_
    refine G_end (X_then ?_)
    refine G_cond_f rfl (decide_eq_false (by omega)) ?_
    refine G_skip (X_then (G_seq (G_seq (G_region ?_))))
    refine Gm ?_
    refine Gv (V_geq rfl rfl rfl) ?_
    refine G_end (X_then ?_)
    refine G_cond_t rfl (decide_eq_true (by omega)) ?_
    refine G_seq (G_region ?_)
    refine Gm ?_
    refine Gv (V_shr rfl rfl rfl (by omega)) ?_
    refine Ga ?_
    refine G_end (X_then (G_region ?_))
    refine Gm ?_
    refine Gv (V_add_i64 rfl rfl rfl (by omega) (by omega)) ?_
    refine Ga ?_
    refine G_end (X_then (G_seq (G_region ?_)))
    refine Gm ?_
    refine Gm ?_
    refine Gv (V_conv rfl rfl) ?_
    rw [hs]
    refine Gv (V_sidx (a := len8) (c := UInt8.ofNat (if d / 256 < 2 then 1 else 2)) rfl (by kernel_rfl) rfl (by omega) (by rw [Int.toNat_natCast]; exact h8)) ?_
    by_cases h5 : d < 512
    · rw [if_pos (by omega), show lenN d = 9 by unfold lenN; rw [if_neg (by omega), if_neg h2, if_pos h5]]
      refine Gv (V_conv rfl rfl) ?_
      refine Gv (V_add rfl rfl rfl) ?_
      refine Ga ?_
      refine G_end (X_then (G_ret ?_))
      refine G_leaveS (.nil _) (by exact (.cons (.tmp rfl) (.nil))) rfl ?_ ?_
      · exact (.refl _)
      exact ⟨(by kernel_rfl), rfl⟩
    · rw [if_neg (by omega), show lenN d = 10 by unfold lenN; rw [if_neg (by omega), if_neg h2, if_neg h5]]
      refine Gv (V_conv rfl rfl) ?_
      refine Gv (V_add rfl rfl rfl) ?_
      refine Ga ?_
      refine G_end (X_then (G_ret ?_))
      refine G_leaveS (.nil _) (by exact (.cons (.tmp rfl) (.nil))) rfl ?_ ?_
      · exact (.refl _)
      exact ⟨(by kernel_rfl), rfl⟩
end
end Go.Proofs.YtaibabmladgldaaGreatDoor
set_option linter.unusedSimpArgs false
set_option linter.unusedVariables false
set_option maxHeartbeats 2000000
set_option maxRecDepth 20000
namespace Go.Proofs.YtaibabmladgldaaGreatDoor
open Go.RowKit
/-! numDigits of numbers from 100 to 999. Two cells of the laid table of powers of ten are asked for. -/
theorem SlE.cellAt {E : Env} {L : List Res} {b k n i : Nat} {vals : List Value} {v : Value} (h : SlE E 1 (some ⟨b, k, none⟩) n vals) (hv : vals[i]? = some v) : Cell E L ⟨b, k + i, none⟩ v := fun w hw => by
  obtain ⟨_, h | ⟨p, h1, h2, h3⟩⟩ := h
  · cases h.1
  · cases h1
    have := Env.cell_st (h3 i v hv) hw
    have e : (⟨b, k, none⟩ : Addr).add i = ⟨b, k + i, none⟩ := by unfold Addr.add; split <;> simp_all
    rwa [e] at this
theorem log_lo {d : Nat} (h : 100 ≤ d ∧ d < 512) : lenN d * 78913 / 262144 = 2 := by
  have : lenN d = 7 ∨ lenN d = 8 ∨ lenN d = 9 := by unfold lenN; split; simp; split; simp; rw [if_pos h.2]; simp
  rcases this with h | h | h <;> rw [h]
theorem log_hi {d : Nat} (h : 512 ≤ d) : lenN d * 78913 / 262144 = 3 := by
  have : lenN d = 10 := by unfold lenN; rw [if_neg (by omega), if_neg (by omega), if_neg (by omega)]
  rw [this]
theorem lenN_lt (d : Nat) : lenN d < 64 := by unfold lenN; split; omega; split; omega; split <;> omega
section
variable (E : Env) (L : List Res)
theorem numDigits_call (d : Nat) (h : 100 ≤ d ∧ d < 1000) (hT : SlE E 1 (some ⟨5, 2, none⟩) 2 [.int .u64 100, .int .u64 1000]) : CallV Tryz.prog 89 #[.int .u64 (d : Nat)] E L (.int .i64 3) := by
  have hc2 : Cell E L ⟨5, 0 + ((2 : Nat) : Int).toNat * 1, none⟩ (.int .u64 100) := SlE.cellAt (i := 0) hT rfl
  have hc3 : Cell E L ⟨5, 0 + ((3 : Nat) : Int).toNat * 1, none⟩ (.int .u64 1000) := SlE.cellAt (i := 1) hT rfl
  have hl := log10_call E L (lenN d) (lenN_lt d)
  refine CallS.toV (CallS.intro (l := [_]) _ Tryz.func89 rfl Tryz.ntmps89 rfl ?_)
  by_cases h5 : d < 512
  · rw [log_lo ⟨h.1, h5⟩] at hl
    refine G_seq (G_region ?_)
    refine Ga ?_
    refine G_end (X_then (G_seq (G_region ?_)))
    refine Gm ?_
    refine G_callv (k := 103) (.mk rfl rfl rfl rfl) rfl rfl (.none rfl) (Len64_call _ _ d h) ?_
    skip
    refine G_callv (k := 102) (.mk rfl rfl rfl rfl) rfl rfl (.none rfl) hl ?_
    refine Ga ?_
    refine G_end (X_then (G_seq (G_region ?_)))
    refine Gm ?_
    refine Gm ?_
    refine Gm ?_
    refine Gv (V_idxAddrArr rfl rfl rfl (by omega) (by omega)) ?_
    refine Gv (V_load rfl rfl (by assumption)) ?_
    refine Gv (V_geq rfl rfl rfl) ?_
    refine G_callv (k := 104) (.mk rfl rfl rfl rfl) rfl rfl (.none rfl) (bool2_call _ _ _) ?_
    refine Gv (V_add_i64 rfl rfl rfl (by omega) (by omega)) ?_
    refine Ga ?_
    refine G_end (X_then (G_ret ?_))
    refine G_leaveS (.nil _) (by exact (.cons (.tmp rfl) (.nil))) rfl ?_ ?_
    · exact (.refl _)
    exact ⟨(by ((try simp only [resVal]); (repeat' split) <;> first | rfl | (exfalso; omega) | (simp_all; done) | (simp_all; omega))), (by rfl)⟩
  · rw [log_hi (by omega)] at hl
    refine G_seq (G_region ?_)
    refine Ga ?_
    refine G_end (X_then (G_seq (G_region ?_)))
    refine Gm ?_
    refine G_callv (k := 103) (.mk rfl rfl rfl rfl) rfl rfl (.none rfl) (Len64_call _ _ d h) ?_
    skip
    refine G_callv (k := 102) (.mk rfl rfl rfl rfl) rfl rfl (.none rfl) hl ?_
    refine Ga ?_
    refine G_end (X_then (G_seq (G_region ?_)))
    refine Gm ?_
    refine Gm ?_
    refine Gm ?_
    refine Gv (V_idxAddrArr rfl rfl rfl (by omega) (by omega)) ?_
    refine Gv (V_load rfl rfl (by assumption)) ?_
    refine Gv (V_geq rfl rfl rfl) ?_
    refine G_callv (k := 104) (.mk rfl rfl rfl rfl) rfl rfl (.none rfl) (bool2_call _ _ _) ?_
    refine Gv (V_add_i64 rfl rfl rfl (by omega) (by omega)) ?_
    refine Ga ?_
    refine G_end (X_then (G_ret ?_))
    refine G_leaveS (.nil _) (by exact (.cons (.tmp rfl) (.nil))) rfl ?_ ?_
    · exact (.refl _)
    exact ⟨(by ((try simp only [resVal]); (repeat' split) <;> first | rfl | (exfalso; omega) | (simp_all; done) | (simp_all; omega))), (by rfl)⟩
end
end Go.Proofs.YtaibabmladgldaaGreatDoor
namespace Go.Proofs.YtaibabmladgldaaGreatDoor
open Go.RowKit
section
variable {P : Program} {fs : List (Nat × Value)} {E : Env} {L : List Res} {o : Oper}
theorem V_idxBo {x y : Operand} {t e : TypeId} {d : TypeDesc} {sz sz' : Nat} {ag ag' : Bool} [ht : Ty P t (.slice e) sz' ag'] [he : Ty P e d sz ag] {b off m c : Nat} {k : IntKind} {i : Int}
    (ho : o.op = .indexAddr t x y) (hx : ev fs x = some (.slice (some ⟨b, off, none⟩) m c)) (hy : ev fs y = some (.int k i)) (h0 : 0 ≤ i) (h1 : i < m) : Val P o fs E L (.pointer (some ⟨b, off + i.toNat * sz, none⟩)) :=
  ⟨(by rw [ho]; intro c h; cases h), fun n ds a' w ha hw => by
    have hl : i.toNat < m := by omega
    have hni : ¬ i < 0 := by omega
    have e2 := addr_add b off (i.toNat * sz)
    simp [execOp, ho, ha.eval hx, ha.eval hy, Instr.indexAt, asIntOf, ht.run, h0, h1, he.size, e2]⟩
/-- An array in memory, from an element on to another. -/
theorem V_slArrMid {t e : TypeId} {m sz szt : Nat} {ag ag' : Bool} {td : TypeDesc} [ht : Ty P t (.array m e) szt ag] [he : Ty P e td sz ag'] {x y z : Operand} {p : Addr} {k k' : IntKind} {i j : Int}
    (ho : o.op = .slice t x (some y) (some z) none) (hx : ev fs x = some (.pointer (some p))) (hy : ev fs y = some (.int k i)) (hz : ev fs z = some (.int k' j)) (h0 : 0 ≤ i) (h1 : i ≤ j) (h2 : j ≤ m) (h3 : i < m) : Val P o fs E L (.slice (some (p.add (i.toNat * sz))) (j.toNat - i.toNat) (m - i.toNat)) :=
  ⟨(by rw [ho]; intro c h; cases h), fun n ds a w ha _ => by
    have e3 : ¬ m = i.toNat := by omega
    have e4 : 0 ≤ j := by omega
    have e6 : max j 0 = j := by omega
    simp [execOp, ho, ha.eval hx, ha.eval hy, ha.eval hz, Instr.sliceAt, Instr.sureAddr, Instr.sliceBounds, Instr.sliceBound, asIntOf, h0, h1, h2, e3, e4, e6, ht.run, he.size, Result.andThen]⟩
/-- A value as one of an interface's. -/
theorem V_iface {t : TypeId} {sz : Nat} {ag : Bool} {d : TypeDesc} [ht : Ty P t d sz ag] {x : Operand} {v : Value} (ho : o.op = .makeInterface t x) (hx : ev fs x = some v) (hn : (match d with | .interface _ => false | _ => true) = true) : Val P o fs E L (.iface t v) :=
  ⟨(by rw [ho]; intro c h; cases h), fun n ds a w ha _ => by
    cases d <;> simp_all [execOp, ha.eval hx, Instr.makeInterface, ht.run]⟩
/-! ### Values of an interface, compared -/
section
variable {t u : TypeId} {sz : Nat} {ag : Bool} {ms : Array (String × TypeId)} [ht : Ty P t (.interface ms) sz ag] {x y : Operand}
include ht
theorem run_eqNN (w : World) : (Op.equal t .nilIface .nilIface).run P w = .ok true w := by
  show (Op.equalIn (9999 + 1) t .nilIface .nilIface).run P w = _
  rw [Op.equalIn]
  simp only [Sem.run_bind, ht.run, Result.andThen]
  rfl
theorem run_eqIN (w : World) (a : TypeId) (b : Value) : (Op.equal t (.iface a b) .nilIface).run P w = .ok false w := by
  show (Op.equalIn (9999 + 1) t (.iface a b) .nilIface).run P w = _
  rw [Op.equalIn]
  simp only [Sem.run_bind, ht.run, Result.andThen]
  rfl
theorem V_eqNN {c : Value} (ho : o.op = .binOp .eql t x (.const c) u) (hx : ev fs x = some .nilIface) (hy : ev fs (.const c) = some .nilIface) : Val P o fs E L (.bool true) :=
  V_bin ho hx hy fun w => ⟨by simp [eqGuard], by simp only [binOp, Sem.run_bind, run_eqNN (P := P) (t := t) (ht := ht), Result.andThen]; rfl⟩
theorem V_neNN {c : Value} (ho : o.op = .binOp .neq t x (.const c) u) (hx : ev fs x = some .nilIface) (hy : ev fs (.const c) = some .nilIface) : Val P o fs E L (.bool false) :=
  V_bin ho hx hy fun w => ⟨by simp [eqGuard], by simp only [binOp, Sem.run_bind, run_eqNN (P := P) (t := t) (ht := ht), Result.andThen]; rfl⟩
theorem V_eqIN {a : TypeId} {b : Value} (ho : o.op = .binOp .eql t x y u) (hx : ev fs x = some (.iface a b)) (hy : ev fs y = some .nilIface) : Val P o fs E L (.bool false) :=
  V_bin ho hx hy fun w => ⟨by simp [eqGuard], by simp only [binOp, Sem.run_bind, run_eqIN (P := P) (t := t) (ht := ht), Result.andThen]; rfl⟩
theorem V_neIN {a : TypeId} {b : Value} (ho : o.op = .binOp .neq t x y u) (hx : ev fs x = some (.iface a b)) (hy : ev fs y = some .nilIface) : Val P o fs E L (.bool true) :=
  V_bin ho hx hy fun w => ⟨by simp [eqGuard], by simp only [binOp, Sem.run_bind, run_eqIN (P := P) (t := t) (ht := ht), Result.andThen]; rfl⟩
end
end
end Go.Proofs.YtaibabmladgldaaGreatDoor
set_option linter.unusedSimpArgs false
set_option linter.unusedVariables false
set_option maxHeartbeats 2000000
set_option maxRecDepth 20000
namespace Go.Proofs.YtaibabmladgldaaGreatDoor
open Go.RowKit
/-! strconv.Itoa of numbers from 100 to 999. -/
/-- The array with three digits from its second byte on. -/
abbrev dig24 (b : Nat) (x y z : Value) : Res := .blk b (.cells #[.int .u8 0, x, y, z, .int .u8 0, .int .u8 0, .int .u8 0, .int .u8 0, .int .u8 0, .int .u8 0, .int .u8 0, .int .u8 0, .int .u8 0, .int .u8 0, .int .u8 0, .int .u8 0, .int .u8 0, .int .u8 0, .int .u8 0, .int .u8 0, .int .u8 0, .int .u8 0, .int .u8 0, .int .u8 0] 121 (0, 0))
theorem smls_at {k : Nat} (h : k < 100) : smls[2 * k]? = some (UInt8.ofNat (48 + k / 10)) ∧ smls[2 * k + 1]? = some (UInt8.ofNat (48 + k % 10)) := by
  have : ∀ i : Fin 100, smls[2 * i.val]? = some (UInt8.ofNat (48 + i.val / 10)) ∧ smls[2 * i.val + 1]? = some (UInt8.ofNat (48 + i.val % 10)) := by decide +kernel
  exact this ⟨k, h⟩
theorem u32_mod {d : Nat} (h : d < 1000) : IntKind.u32.wrap ((IntKind.u32.wrap (d : Int)).tmod 100 * 2) = ((2 * (d % 100) : Nat) : Int) := by
  have : ∀ i : Fin 1000, IntKind.u32.wrap ((IntKind.u32.wrap (i.val : Int)).tmod 100 * 2) = ((2 * (i.val % 100) : Nat) : Int) := by decide +kernel
  exact this ⟨d, h⟩
theorem u32_div {d : Nat} (h : d < 1000) : IntKind.u32.wrap ((IntKind.u32.wrap (d : Int)).tdiv 100) = ((d / 100 : Nat) : Int) := by
  have : ∀ i : Fin 1000, IntKind.u32.wrap ((IntKind.u32.wrap (i.val : Int)).tdiv 100) = ((i.val / 100 : Nat) : Int) := by decide +kernel
  exact this ⟨d, h⟩
theorem u8_dig {q : Nat} (h : q < 10) : IntKind.u8.wrap (IntKind.u32.wrap (48 + (q : Int))) = ((48 + q : Nat) : Int) := by
  have : ∀ i : Fin 10, IntKind.u8.wrap (IntKind.u32.wrap (48 + (i.val : Int))) = ((48 + i.val : Nat) : Int) := by decide +kernel
  exact this ⟨q, h⟩
theorem u32_next {k : Nat} (h : k < 200) : IntKind.u32.wrap ((k : Int) + 1) = ((k + 1 : Nat) : Int) := by
  have : ∀ i : Fin 200, IntKind.u32.wrap ((i.val : Int) + 1) = ((i.val + 1 : Nat) : Int) := by decide +kernel
  exact this ⟨k, h⟩
section
variable (E : Env) (L : List Res)
theorem formatBase10_call (b d : Nat) (h : 100 ≤ d ∧ d < 1000) : CallS Tryz.prog 90 #[.slice (some ⟨b, 1, none⟩) 3 23, .int .u64 (d : Nat)] E (dig24 b (.int .u8 0) (.int .u8 0) (.int .u8 0) :: L)
    (fun r E' L' => r = .tuple #[] ∧ E = E' ∧ L' = dig24 b (.int .u8 (48 + d / 100 : Nat)) (.int .u8 ((UInt8.ofNat (48 + d % 100 / 10)).toNat : Int)) (.int .u8 ((UInt8.ofNat (48 + d % 100 % 10)).toNat : Int)) :: L) := by
  have hs := smls_at (k := d % 100) (by omega)
  refine CallS.intro (l := [_, _]) _ Tryz.func90 rfl Tryz.ntmps90 rfl ?_
  refine G_seq (G_region ?_)
  refine Gm ?_
  refine Gv (V_lenS rfl rfl) ?_
  refine Ga ?_
  refine G_end (X_then (G_seq (G_block ?_)))
  refine G_loop (α := Unit) (fun _ => [(0, .slice (some ⟨b, 1, none⟩) 3 23), (1, .int .u64 (d : Nat)), (4, .int .i64 3)]) (fun _ => E) (fun _ => dig24 b (.int .u8 0) (.int .u8 0) (.int .u8 0) :: L) (fun _ => True) (fun _ => 0) () trivial ⟨rfl, rfl, rfl, trivial⟩ rfl rfl ?_
  rintro _ _
  refine G_seq (G_seq (G_region ?_))
  refine Gm ?_
  refine Gv (V_geq rfl rfl rfl) ?_
  refine G_end (X_then ?_)
  refine G_cond_f rfl (by kernel_rfl) ?_
  refine G_exit (X_then_exit (X_then_exit (X_block_hit (X_then (G_seq (G_region ?_))))))
  refine Gm ?_
  refine Gv (V_conv rfl rfl) ?_
  refine Ga ?_
  refine G_end (X_then (G_seq (G_seq (G_region ?_))))
  refine Gm ?_
  refine Gv (V_geq rfl rfl rfl) ?_
  refine G_end (X_then ?_)
  refine G_cond_f rfl (by kernel_rfl) ?_
  refine G_skip (X_then (G_seq (G_seq (G_region ?_))))
  refine Gm ?_
  refine Gv (V_geq rfl rfl rfl) ?_
  refine G_end (X_then ?_)
  refine G_cond_t rfl (by kernel_rfl) ?_
  refine G_seq (G_region ?_)
  refine Gm ?_
  refine Gv (V_rem rfl rfl rfl (by omega)) ?_
  refine Gv (V_mul rfl rfl rfl) ?_
  refine Ga ?_
  refine G_end (X_then (G_seq (G_region ?_)))
  refine Gm ?_
  refine Gv (V_quo rfl rfl rfl (by omega)) ?_
  refine Ga ?_
  refine G_end (X_then (G_seq ?_))
  rw [u32_mod h.2, u32_div h.2]
  have hk : d % 100 < 100 := by omega
  have hd : d / 100 < 10 := by omega
  generalize d % 100 = k at *
  have x1 := hs.1
  have x2 := hs.2
  have hn := u32_next (k := 2 * k) (by omega)
  have hn0 : 0 ≤ IntKind.u32.wrap (((2 * k : Nat) : Int) + 1) := by rw [hn]; omega
  have x3 : smls[(IntKind.u32.wrap (((2 * k : Nat) : Int) + 1)).toNat]? = some (UInt8.ofNat (48 + k % 10)) := by rw [hn, Int.toNat_natCast]; exact x2
  have x4 : smls[((2 * k : Nat) : Int).toNat]? = some (UInt8.ofNat (48 + k / 10)) := by rw [Int.toNat_natCast]; exact x1
  clear x1 x2 hs
  refine G_drawX 15 [(0, 0), (1, 0), (2, 0), (3, 0), (4, 0), (5, 0), (6, 0), (7, 0), (8, 0), (9, 0), (10, 0), (11, 1), (12, 4), (13, 1), (14, 4)] mixed (by kernel_rfl) ?_
  refine F_pure rfl (fun _ _ => V_move rfl rfl) rfl rfl (.none rfl) ?_
  refine F_pure rfl (fun _ _ => V_move rfl rfl) rfl rfl (.none rfl) ?_
  refine F_pure rfl (fun _ _ => V_sub_i64 rfl rfl rfl (by omega) (by omega)) rfl rfl (.none rfl) ?_
  refine F_pure rfl (fun _ _ => V_move rfl rfl) rfl rfl (.none rfl) ?_
  refine F_pure rfl (fun _ _ => V_move rfl rfl) rfl rfl (.none rfl) ?_
  refine F_pure rfl (fun _ _ => V_sub_i64 rfl rfl rfl (by omega) (by omega)) rfl rfl (.none rfl) ?_
  refine F_pure rfl (fun _ _ => V_move rfl rfl) rfl rfl (.none rfl) ?_
  refine F_pure rfl (fun _ _ => V_add rfl rfl rfl) rfl rfl (.none rfl) ?_
  refine F_pure rfl (fun _ _ => V_sidx rfl rfl rfl (by omega) (by assumption)) rfl rfl (.none rfl) ?_
  refine F_pure rfl (fun _ _ => V_move rfl rfl) rfl rfl (.none rfl) ?_
  refine F_pure rfl (fun _ _ => V_sidx rfl rfl rfl (by omega) (by assumption)) rfl rfl (.none rfl) ?_
  refine F_loadE rfl (V_idxBo rfl rfl rfl (by omega) (by omega)) rfl rfl (.none rfl) ?_
  refine F_storeB rfl rfl rfl rfl rfl rfl rfl (.none rfl) (.head _ _ _) (by decide) (.drop (by kernel_rfl) .nil) ?_
  rw [show (1 + ((3 : Int) - 1).toNat * 1) = 3 from rfl]
  simp only [List.set_cons_succ, List.set_cons_zero]
  refine F_loadE rfl (V_idxBo rfl rfl rfl (by omega) (by omega)) rfl rfl (.none rfl) ?_
  refine F_storeB rfl rfl rfl rfl rfl rfl rfl (.none rfl) (.head _ _ _) (by simp) (.drop (by kernel_rfl) .nil) ?_
  rw [show (1 + ((3 : Int) - 2).toNat * 1) = 2 from rfl]
  simp only [List.set_cons_succ, List.set_cons_zero]
  refine F_end (.nil _) ?_
  dsimp only [List.drop]
  refine G_end (X_then (G_region ?_))
  refine Gm ?_
  refine Gv (V_sub_i64 rfl rfl rfl (by omega) (by omega)) ?_
  refine Ga ?_
  refine G_end (X_then (G_seq (G_region ?_)))
  refine Gm ?_
  refine Gv (V_gtr rfl rfl rfl) ?_
  refine G_end (X_then ?_)
  refine G_cond_t rfl (by kernel_rfl) ?_
  refine G_region ?_
  refine Gm ?_
  refine Gm ?_
  refine Gv (V_add rfl rfl rfl) ?_
  refine Gv (V_conv rfl rfl) ?_
  rw [u8_dig hd]
  refine Gv (V_idxBo rfl rfl rfl (by omega) (by omega)) ?_
  refine G_storeB rfl rfl rfl rfl rfl rfl (.none rfl) (.head _ _ _) (by simp) ?_
  rw [show (1 + (0 : Int).toNat * 1) = 1 from rfl]
  simp only [List.set_cons_succ, List.set_cons_zero]
  refine G_end ?_
  refine G_leaveS_n (.keep _ (.nil _)) (by exact (.nil)) rfl ?_ ?_
  · exact (.refl _)
  exact ⟨(by kernel_rfl), ⟨rfl, rfl⟩⟩
theorem FormatInt3_call (d : Nat) (h : 100 ≤ d ∧ d < 1000) (hT : SlE E 1 (some ⟨5, 2, none⟩) 2 [.int .u64 100, .int .u64 1000]) :
    CallV Tryz.prog 71 #[.int .i64 (d : Nat), .int .i64 10] E L (.string (S [UInt8.ofNat (48 + d / 100), UInt8.ofNat (48 + d % 100 / 10), UInt8.ofNat (48 + d % 100 % 10)])) := by
  refine CallS.toV (CallS.intro (l := [_, _]) _ Tryz.func71 rfl Tryz.ntmps71 rfl ?_)
  refine G_seq (G_region ?_)
  refine Ga ?_
  refine G_end (X_then (G_seq (G_seq (G_region ?_))))
  refine Gm ?_
  refine Gv (V_eql rfl rfl rfl) ?_
  refine G_end (X_then ?_)
  refine G_cond_t rfl (by kernel_rfl) ?_
  refine G_seq (G_seq (G_region ?_))
  refine Gm ?_
  refine Gv (V_leq rfl rfl rfl) ?_
  refine Gm ?_
  refine G.bool_t 14 rfl (decide_eq_true (by omega)) ?_
  refine Gy (V_move rfl rfl) ?_
  refine Gy (V_lss rfl rfl rfl) ?_
  refine Gv (V_pick_t rfl rfl rfl) ?_
  refine G_end (X_then ?_)
  refine G_cond_f rfl (decide_eq_false (by omega)) ?_
  refine G_skip (X_then (G_seq (G_region ?_)))
  (refine G_alloc rfl rfl rfl (.none rfl) ?_; intro b5)
  refine G_end (X_then (G_seq (G_region ?_)))
  refine Gm ?_
  refine Gv (V_conv_u64 rfl rfl (by omega) (by omega)) ?_
  refine Ga ?_
  refine G_end (X_then (G_seq (G_seq (G_region ?_))))
  refine Gm ?_
  refine Gv (V_lss rfl rfl rfl) ?_
  refine G_end (X_then ?_)
  refine G_cond_f rfl (decide_eq_false (by omega)) ?_
  refine G_skip (X_then (G_seq (G_region ?_)))
  refine Gm ?_
  refine G_callv (k := 89) (.mk rfl rfl rfl rfl) rfl rfl (.none rfl) (numDigits_call _ _ _ (by assumption) (by assumption)) ?_
  refine Ga ?_
  refine G_end (X_then (G_seq (G_region ?_)))
  refine Gm ?_
  refine Gv (V_add_i64 rfl rfl rfl (by omega) (by omega)) ?_
  refine Gv (V_slArrMid rfl rfl rfl rfl (by omega) (by omega) (by omega) (by omega)) ?_
  rw [show (⟨b5, 0, none⟩ : Addr).add ((1 : Int).toNat * 1) = ⟨b5, 1, none⟩ from rfl, show (((1 : Int) + 3).toNat - (1 : Int).toNat) = 3 from rfl, show (24 - (1 : Int).toNat) = 23 from rfl]
  refine Gm ?_
  refine G_call (k := 90) (.mk rfl rfl rfl rfl) rfl rfl (.none rfl) (formatBase10_call _ _ b5 d h) ?_
  rintro x1 E1 L1 hE1 ⟨rfl, rfl, rfl⟩
  refine G_end (X_then (G_seq (G_seq (G_region ?_))))
  refine Gm ?_
  refine Gv (V_lss rfl rfl rfl) ?_
  refine G_end (X_then ?_)
  refine G_cond_f rfl (decide_eq_false (by omega)) ?_
  refine G_skip (X_then (G_seq (G_region ?_)))
  refine Gm ?_
  refine Gv (V_add_i64 rfl rfl rfl (by omega) (by omega)) ?_
  refine Gv (V_slArrMid rfl rfl rfl rfl (by omega) (by omega) (by omega) (by omega)) ?_
  rw [show (⟨b5, 0, none⟩ : Addr).add ((1 : Int).toNat * 1) = ⟨b5, 1, none⟩ from rfl, show (((1 : Int) + 3).toNat - (1 : Int).toNat) = 3 from rfl, show (24 - (1 : Int).toNat) = 23 from rfl]
  refine G.freezeB (k := 24) (sz := 1) (.head _ _) rfl ?_
  intro E2 hE2 hz
  have hz1 := (hz.tail (l := 1) (c := 24) (by omega) (by omega)).head (i := 3) (by omega)
  have hd : (((48 + d / 100 : Nat) : Int)) = ((UInt8.ofNat (48 + d / 100)).toNat : Int) := by
    have : 48 + d / 100 < 256 := by omega
    simp [UInt8.toNat_ofNat, Nat.mod_eq_of_lt this]
  have hz2 : SlE E2 1 (some ⟨b5, 1, none⟩) 3 ([UInt8.ofNat (48 + d / 100), UInt8.ofNat (48 + d % 100 / 10), UInt8.ofNat (48 + d % 100 % 10)].map fun b => .int .u8 b.toNat) := by
    simp only [List.map_cons, List.map_nil]
    rw [← hd]
    exact hz1
  refine Gv (V_b2s rfl rfl (SlE.rd hz2)) ?_
  refine Ga ?_
  refine G_end (X_then (G_ret (X_then_ret ?_)))
  refine G_leaveS (.nil _) (by exact (.cons (.tmp rfl) (.nil))) rfl ?_ ?_
  · exact hE2
  exact ⟨rfl, rfl⟩
end
end Go.Proofs.YtaibabmladgldaaGreatDoor
set_option linter.unusedSimpArgs false
set_option linter.unusedVariables false
set_option maxHeartbeats 2000000
set_option maxRecDepth 20000
namespace Go.Proofs.YtaibabmladgldaaGreatDoor
open Go.RowKit
/-! strconv.Itoa of numbers below 1,000. -/
theorem dec_nat {d : Nat} (h : d < 1000) : dec (d : Int) = if d < 10 then [UInt8.ofNat (48 + d)] else if d < 100 then [UInt8.ofNat (48 + d / 10), UInt8.ofNat (48 + d % 10)] else [UInt8.ofNat (48 + d / 100), UInt8.ofNat (48 + d % 100 / 10), UInt8.ofNat (48 + d % 100 % 10)] := by
  unfold dec dgb
  by_cases h1 : d < 10
  · rw [if_pos (by omega), if_pos h1, Int.toNat_natCast]
  · rw [if_neg (by omega), if_neg h1]
    by_cases h2 : d < 100
    · rw [if_pos (by omega), if_pos h2, show ((d : Int) / 10).toNat = d / 10 by omega, show ((d : Int) % 10).toNat = d % 10 by omega]
    · rw [if_neg (by omega), if_neg h2, show ((d : Int) / 100).toNat = d / 100 by omega, show ((d : Int) / 10 % 10).toNat = d % 100 / 10 by omega, show ((d : Int) % 10).toNat = d % 100 % 10 by omega]
section
variable (E : Env) (L : List Res)
theorem FormatInt2_call (d : Nat) (h : 10 ≤ d ∧ d < 100) : CallV Tryz.prog 71 #[.int .i64 (d : Nat), .int .i64 10] E L (.string (S [UInt8.ofNat (48 + d / 10), UInt8.ofNat (48 + d % 10)])) := by
  have hs := small2_call E L d h
  refine CallS.toV (CallS.intro (l := [_, _]) _ Tryz.func71 rfl Tryz.ntmps71 rfl ?_)
  refine G_seq (G_region ?_)
  refine Ga ?_
  refine G_end (X_then (G_seq (G_seq (G_region ?_))))
  refine Gm ?_
  refine Gv (V_eql rfl rfl rfl) ?_
  refine G_end (X_then ?_)
  refine G_cond_t rfl (by kernel_rfl) ?_
  refine G_seq (G_seq (G_region ?_))
  refine Gm ?_
  refine Gv (V_leq rfl rfl rfl) ?_
  refine Gm ?_
  refine G.bool_t 14 rfl (decide_eq_true (by omega)) ?_
  refine Gy (V_move rfl rfl) ?_
  refine Gy (V_lss rfl rfl rfl) ?_
  refine Gv (V_pick_t rfl rfl rfl) ?_
  refine G_end (X_then ?_)
  refine G_cond_t rfl (decide_eq_true (by omega)) ?_
  refine G_seq (G_region ?_)
  refine Gm ?_
  refine G_callv (k := 88) (.mk rfl rfl rfl rfl) rfl rfl (.none rfl) hs ?_
  refine Ga ?_
  refine G_end (X_then (G_ret (X_then_ret (X_then_ret ?_))))
  refine G_leaveS (.nil _) (by exact (.cons (.tmp rfl) (.nil))) rfl ?_ ?_
  · exact (.refl _)
  exact ⟨rfl, rfl⟩
theorem Itoa2_call (d : Nat) (h : 10 ≤ d ∧ d < 1000) (hT : SlE E 1 (some ⟨5, 2, none⟩) 2 [.int .u64 100, .int .u64 1000]) : CallV Tryz.prog 52 #[.int .i64 (d : Nat)] E L (.string (S (dec (d : Int)))) := by
  rw [dec_nat h.2, if_neg (by omega)]
  by_cases h2 : d < 100
  · rw [if_pos h2]
    refine CallS.toV (CallS.intro (l := [_]) _ Tryz.func52 rfl Tryz.ntmps52 rfl ?_)
    refine G_seq (G_region ?_)
    refine Ga ?_
    refine G_end (X_then (G_seq (G_region ?_)))
    refine Gm ?_
    refine G_callv (k := 71) (.mk rfl rfl rfl rfl) rfl rfl (.none rfl) (FormatInt2_call _ _ d ⟨h.1, h2⟩) ?_
    refine Ga ?_
    refine G_end (X_then (G_ret ?_))
    refine G_leaveS (.nil _) (by exact (.cons (.tmp rfl) (.nil))) rfl ?_ ?_
    · exact (.refl _)
    exact ⟨rfl, rfl⟩
  · rw [if_neg h2]
    refine CallS.toV (CallS.intro (l := [_]) _ Tryz.func52 rfl Tryz.ntmps52 rfl ?_)
    refine G_seq (G_region ?_)
    refine Ga ?_
    refine G_end (X_then (G_seq (G_region ?_)))
    refine Gm ?_
    refine G_callv (k := 71) (.mk rfl rfl rfl rfl) rfl rfl (.none rfl) (FormatInt3_call _ _ d ⟨by omega, h.2⟩ hT) ?_
    refine Ga ?_
    refine G_end (X_then (G_ret ?_))
    refine G_leaveS (.nil _) (by exact (.cons (.tmp rfl) (.nil))) rfl ?_ ?_
    · exact (.refl _)
    exact ⟨rfl, rfl⟩
theorem ItoaOk_all (x : Int) (h : 0 ≤ x ∧ x < 1000) (hT : SlE E 1 (some ⟨5, 2, none⟩) 2 [.int .u64 100, .int .u64 1000]) : ItoaOk E x := fun L0 => by
  by_cases h10 : x < 10
  · exact Itoa1_call E L0 x ⟨h.1, h10⟩
  · obtain ⟨d, rfl⟩ : ∃ d : Nat, x = d := ⟨x.toNat, by omega⟩
    have hi := Itoa2_call E L0 d (by omega) hT
    generalize dec (d : Int) = r at *
    refine CallS.toV (CallS.intro (l := [_]) _ Tryz.func39 rfl Tryz.ntmps39 rfl ?_)
    refine G_seq (G_region ?_)
    refine Ga ?_
    refine G_end (X_then (G_seq (G_region ?_)))
    refine Gm ?_
    refine G_callv (k := 52) (.mk rfl rfl rfl rfl) rfl rfl (.none rfl) hi ?_
    refine Ga ?_
    refine G_end (X_then (G_ret ?_))
    refine G_leaveS (.nil _) (by exact (.cons (.tmp rfl) (.nil))) rfl ?_ ?_
    · exact (.refl _)
    exact ⟨rfl, rfl⟩
end
end Go.Proofs.YtaibabmladgldaaGreatDoor
set_option linter.unusedSimpArgs false
set_option linter.unusedVariables false
set_option maxHeartbeats 2000000
set_option maxRecDepth 20000
namespace Go.Proofs.YtaibabmladgldaaGreatDoor
open Go.RowKit
/-! internal/strconv.Atoi of texts of 1 to 18 bytes. -/
def dgtB (c : UInt8) : Bool := decide (48 ≤ c.toNat) && decide (c.toNat ≤ 57)
/-- The number that digits are. -/
def valD (l : List UInt8) : Nat := l.foldl (fun n c => n * 10 + (c.toNat - 48)) 0
theorem valD_snoc (l : List UInt8) (c : UInt8) : valD (l ++ [c]) = valD l * 10 + (c.toNat - 48) := by simp [valD]
theorem valD_lt {l : List UInt8} : ∀ i, i ≤ l.length → (∀ c, c ∈ l → dgtB c = true) → valD (l.take i) < 10 ^ i
  | 0, _, _ => by simp [valD]
  | i + 1, h, hd => by
    have ih := valD_lt (l := l) i (by omega) hd
    rw [List.take_succ_eq_append_getElem h, valD_snoc, Nat.pow_succ]
    have := hd _ (List.getElem_mem h)
    simp only [dgtB, Bool.and_eq_true, decide_eq_true_eq] at this
    omega
theorem u8s_at {l : List UInt8} {k : Nat} {b : UInt8} (h : l[k]? = some b) : (u8s l)[k]? = some (.int .u8 b.toNat) := by simp [u8s, h]
theorem u8_sub48 {c : UInt8} (h : 48 ≤ c.toNat ∧ c.toNat ≤ 57) : IntKind.u8.wrap ((c.toNat : Int) - 48) = ((c.toNat - 48 : Nat) : Int) := by
  have : ∀ i : Fin 58, 48 ≤ i.val → IntKind.u8.wrap ((i.val : Int) - 48) = ((i.val - 48 : Nat) : Int) := by decide +kernel
  exact this ⟨c.toNat, by omega⟩ h.1
section
variable (E : Env) (L : List Res)
theorem AtoiD_call (s : List UInt8) (h1 : 1 ≤ s.length) (h18 : s.length ≤ 18) (hd : ∀ c, c ∈ s → dgtB c = true) : CallV Tryz.prog 60 #[.string (S s)] E L (.tuple #[.int .i64 (valD s : Nat), .nilIface]) := by
  refine CallS.toV (CallS.intro (l := [_]) _ Tryz.func60 rfl Tryz.ntmps60 rfl ?_)
  have h0 := hd _ (List.getElem_mem (show 0 < s.length by omega))
  have hc0 := List.getElem?_eq_getElem (show 0 < s.length by omega)
  simp only [dgtB, Bool.and_eq_true, decide_eq_true_eq] at h0
  generalize s[0]'(by omega) = c0 at *
  refine G_seq (G_region ?_)
  refine Ga ?_
  refine Ga ?_
  refine G_end (X_then (G_seq (G_region ?_)))
  refine Gm ?_
  refine Gv (V_len rfl rfl) ?_
  refine Ga ?_
  refine G_end (X_then (G_seq (G_seq (G_region ?_))))
  refine Gm ?_
  refine Gn ?_
  refine Gn ?_
  refine Gn ?_
  refine G_stay (.un rfl rfl rfl rfl) rfl rfl ?_
  refine G_stay (.un rfl rfl rfl rfl) rfl rfl ?_
  refine Gn ?_
  refine Gv (V_pick_f rfl rfl rfl) ?_
  refine Gm ?_
  refine Gy (V_move rfl rfl) ?_
  refine Gy (V_move rfl rfl) ?_
  refine Gy (V_lss rfl rfl rfl) ?_
  refine Gy (V_move rfl rfl) ?_
  refine G.bool_t 25 rfl (decide_eq_true (by omega)) ?_
  refine Gy (V_move rfl rfl) ?_
  refine Gy (V_lss rfl rfl rfl) ?_
  refine Gy (V_pick_t rfl rfl rfl) ?_
  refine Gy (V_pick_t rfl rfl rfl) ?_
  refine Gv (V_pick_f rfl rfl rfl) ?_
  refine G_end (X_then ?_)
  refine G_cond_t rfl (decide_eq_true (by omega)) ?_
  refine G_seq (G_region ?_)
  refine Gm ?_
  refine Ga ?_
  refine G_end (X_then (G_seq (G_seq (G_region ?_))))
  refine Gm ?_
  refine Gv (V_sidx rfl rfl rfl (by omega) (by assumption)) ?_
  refine Gv (V_eql rfl rfl rfl) ?_
  refine Gm ?_
  refine G.bool_f 35 rfl (decide_eq_false (by omega)) ?_
  refine Gy (V_move rfl rfl) ?_
  refine Gy (V_sidx rfl rfl rfl (by omega) (by assumption)) ?_
  refine Gy (V_eql rfl rfl rfl) ?_
  refine Gv (V_pick_f rfl rfl rfl) ?_
  refine G_end (X_then ?_)
  refine G_cond_f rfl (decide_eq_false (by omega)) ?_
  refine G_skip (X_then (G_seq (G_region ?_)))
  refine Ga ?_
  refine G_end (X_then (G_seq (G_seq (G_region ?_))))
  refine Gm ?_
  (refine G_s2b rfl rfl rfl rfl (.none rfl) ?_; intro b47 c47 E47 hE47 hs47)
  refine Gv (V_lenS rfl rfl) ?_
  refine Gm ?_
  refine G_end (X_then (G_block ?_))
  refine G_loop (α := Nat) (fun i => [(5, .string (S s)), (6, .int .i64 (valD (s.take i) : Nat)), (47, .slice (some ⟨b47, 0, none⟩) s.length c47), (48, .int .i64 s.length), (49, .int .i64 (i : Nat))]) (fun _ => E47) (fun _ => L)
    (fun i => i ≤ s.length) (fun i => s.length - i) 0 (Nat.zero_le _) ⟨rfl, rfl, rfl, rfl, rfl, trivial⟩ rfl rfl ?_
  intro i hi
  have hv := valD_lt i hi hd
  by_cases hlt : i < s.length
  · have h10 : 10 ^ i ≤ 10 ^ 17 := Nat.pow_le_pow_right (by omega) (by omega)
    have hv2 : valD (s.take i) < 100000000000000000 := by omega
    clear hv h10
    have hc := hd _ (List.getElem_mem hlt)
    have hg := u8s_at (List.getElem?_eq_getElem hlt)
    have hsn : valD (s.take (i + 1)) = valD (s.take i) * 10 + (s[i].toNat - 48) := by rw [List.take_succ_eq_append_getElem hlt, valD_snoc]
    simp only [dgtB, Bool.and_eq_true, decide_eq_true_eq] at hc
    generalize s[i] = c at *
    have hw : IntKind.u8.wrap ((c.toNat : Int) - 48) = ((c.toNat - 48 : Nat) : Int) := u8_sub48 hc
    have hw0 : 0 ≤ IntKind.u8.wrap ((c.toNat : Int) - 48) := by rw [hw]; omega
    have hw9 : IntKind.u8.wrap ((c.toNat : Int) - 48) ≤ 9 := by rw [hw]; omega
    refine G_seq (G_region ?_)
    refine Gv (V_lss rfl rfl rfl) ?_
    refine G_end (X_then (G_seq ?_))
    refine G_cond_t rfl (decide_eq_true (by omega)) ?_
    refine G_skip (X_then (G_seq (G_block (G_seq (G_region ?_)))))
    refine Gv (V_idxAddr rfl rfl rfl (SlE.rd (by assumption)) (by omega) (by omega)) ?_
    refine Gv (V_loadS rfl rfl (SlE.rd (by assumption)) (by assumption) (by simp)) ?_
    refine Ga ?_
    refine G_end (X_then (G_seq (G_region ?_)))
    refine Gm ?_
    refine Gv (V_sub_u8 rfl rfl rfl (by omega) (by omega)) ?_
    refine Ga ?_
    refine G_end (X_then (G_seq (G_seq (G_region ?_))))
    refine Gm ?_
    refine Gv (V_gtr rfl rfl rfl) ?_
    refine G_end (X_then ?_)
    refine G_cond_f rfl (decide_eq_false (by omega)) ?_
    refine G_skip (X_then (G_region ?_))
    refine Gm ?_
    refine Gv (V_mul_i64 rfl rfl rfl (by omega) (by omega)) ?_
    refine Gm ?_
    refine Gv (V_conv_i64 rfl rfl (by omega) (by omega)) ?_
    refine Gv (V_add_i64 rfl rfl rfl (by omega) (by omega)) ?_
    refine Ga ?_
    refine G_end (X_block (X_then (G_region ?_)))
    refine Gv (V_add_i64 rfl rfl rfl (by omega) (by omega)) ?_
    refine Gm ?_
    refine G_end (X_then ?_)
    rw [show ((valD (s.take i) : Nat) : Int) * 10 + ((c.toNat : Int) - 48) = ((valD (s.take (i + 1)) : Nat) : Int) by rw [hsn]; omega]
    exact G_again (i + 1) hlt (by omega) ⟨rfl, rfl, rfl, rfl, rfl, trivial⟩ rfl rfl
  · obtain rfl : i = s.length := by omega
    rw [List.take_length]
    refine G_seq (G_region ?_)
    refine Gv (V_lss rfl rfl rfl) ?_
    refine G_end (X_then (G_seq ?_))
    refine G_cond_f rfl (decide_eq_false (by omega)) ?_
    refine G_exit (X_then_exit (X_then_exit (X_block_hit (X_then (G_seq (G_seq (G_region ?_)))))))
    refine Gm ?_
    refine Gv (V_sidx rfl rfl rfl (by omega) (by assumption)) ?_
    refine Gv (V_eql rfl rfl rfl) ?_
    refine G_end (X_then ?_)
    refine G_cond_f rfl (decide_eq_false (by omega)) ?_
    refine G_skip (X_then (G_seq (G_region ?_)))
    refine Gm ?_
    refine Ga ?_
    refine Ga ?_
    refine G_end (X_then (G_ret (X_then_ret ?_)))
    refine G_leaveS (.nil _) (by exact (.cons (.tmp rfl) (.cons (.tmp rfl) (.nil)))) rfl ?_ ?_
    · exact hE47
    exact ⟨rfl, rfl⟩
end
end Go.Proofs.YtaibabmladgldaaGreatDoor
namespace Go.Proofs.YtaibabmladgldaaGreatDoor
open Go.RowKit
/-! Plain law of stack.Parse: words between blanks, two numbers each. -/
/-- The decimal digits of a number below 1,000, without a needless zero. -/
def goodN (a : List UInt8) : Bool := a.all dgtB && decide (1 ≤ a.length) && decide (a.length ≤ 3) && (decide (a.length = 1) || decide (a[0]? ≠ some 48))
theorem dgtB_fin {c : UInt8} (h : dgtB c = true) : ∃ k : Fin 10, c = UInt8.ofNat (48 + k.val) := by
  simp only [dgtB, Bool.and_eq_true, decide_eq_true_eq] at h
  refine ⟨⟨c.toNat - 48, by omega⟩, ?_⟩
  rw [show 48 + (c.toNat - 48) = c.toNat by omega, UInt8.ofNat_toNat]
theorem good1 : ∀ i : Fin 10, dec (valD [UInt8.ofNat (48 + i.val)] : Nat) = [UInt8.ofNat (48 + i.val)] ∧ valD [UInt8.ofNat (48 + i.val)] < 1000 := by decide +kernel
theorem good2 : ∀ i j : Fin 10, i.val ≠ 0 → dec (valD [UInt8.ofNat (48 + i.val), UInt8.ofNat (48 + j.val)] : Nat) = [UInt8.ofNat (48 + i.val), UInt8.ofNat (48 + j.val)] ∧ valD [UInt8.ofNat (48 + i.val), UInt8.ofNat (48 + j.val)] < 1000 := by decide +kernel
theorem good3 : ∀ i j k : Fin 10, i.val ≠ 0 → dec (valD [UInt8.ofNat (48 + i.val), UInt8.ofNat (48 + j.val), UInt8.ofNat (48 + k.val)] : Nat) = [UInt8.ofNat (48 + i.val), UInt8.ofNat (48 + j.val), UInt8.ofNat (48 + k.val)] ∧ valD [UInt8.ofNat (48 + i.val), UInt8.ofNat (48 + j.val), UInt8.ofNat (48 + k.val)] < 1000 := by decide +kernel
theorem fin48 : ∀ i : Fin 10, UInt8.ofNat (48 + i.val) ≠ 48 → i.val ≠ 0 := by decide +kernel
theorem goodN_dec {a : List UInt8} (h : goodN a = true) : dec (valD a : Nat) = a ∧ valD a < 1000 := by
  simp only [goodN, Bool.and_eq_true, Bool.or_eq_true, decide_eq_true_eq, List.all_eq_true] at h
  obtain ⟨⟨⟨hd, h1⟩, h3⟩, hz⟩ := h
  match a, hd, h1, h3, hz with
  | [x], hd, _, _, _ =>
    obtain ⟨i, rfl⟩ := dgtB_fin (hd x (by simp))
    exact good1 i
  | [x, y], hd, _, _, hz =>
    obtain ⟨i, rfl⟩ := dgtB_fin (hd x (by simp))
    obtain ⟨j, rfl⟩ := dgtB_fin (hd y (by simp))
    exact good2 i j (fin48 i (by simpa using hz))
  | [x, y, z], hd, _, _, hz =>
    obtain ⟨i, rfl⟩ := dgtB_fin (hd x (by simp))
    obtain ⟨j, rfl⟩ := dgtB_fin (hd y (by simp))
    obtain ⟨k, rfl⟩ := dgtB_fin (hd z (by simp))
    exact good3 i j k (fin48 i (by simpa using hz))
  | [], _, h1, _, _ => simp at h1
  | _ :: _ :: _ :: _ :: _, _, _, h3, _ => simp at h3
theorem dec_goodA : ∀ i : Fin 1000, goodN (dec (i.val : Nat)) = true ∧ valD (dec (i.val : Nat)) = i.val := by decide +kernel
theorem dec_good {x : Int} (h : 0 ≤ x ∧ x < 1000) : goodN (dec x) = true ∧ (valD (dec x) : Nat) = x := by
  obtain ⟨d, rfl⟩ : ∃ d : Nat, x = d := ⟨x.toNat, by omega⟩
  have := dec_goodA ⟨d, by omega⟩
  exact ⟨this.1, by rw [this.2]⟩
theorem goodN_dig {a : List UInt8} (h : goodN a = true) : (∀ c, c ∈ a → dgtB c = true) ∧ 1 ≤ a.length ∧ a.length ≤ 3 := by
  simp only [goodN, Bool.and_eq_true, decide_eq_true_eq, List.all_eq_true] at h
  exact ⟨h.1.1.1, h.1.1.2, h.1.2⟩
abbrev spv (a b : List UInt8) : Spt := (((valD a : Nat) : Int), ((valD b : Nat) : Int))
/-- A word as a Spot. -/
def wordM (w : List UInt8) : Option Spt := if goodN (cutB 58 w).1 && goodN (cutB 58 w).2.1 then some (spv (cutB 58 w).1 (cutB 58 w).2.1) else none
def wordsM : List (List UInt8) → Option (List Spt)
  | [] => some []
  | w :: l => match wordM w, wordsM l with
    | some x, some xs => some (x :: xs)
    | _, _ => none
def parseM (s : List UInt8) : List Spt × Int := if s = [45] then ([], 0) else match wordsM (splitB 32 s) with
  | none => ([], 3)
  | some l => if 64 < l.length then ([], 21) else (l, 0)
theorem wordsM_len : ∀ {l : List (List UInt8)} {xs : List Spt}, wordsM l = some xs → xs.length = l.length := by
  intro l
  induction l with
  | nil => intro xs h; cases h; rfl
  | cons w l ih =>
    intro xs h
    simp only [wordsM] at h
    split at h
    · rename_i x ys h1 h2
      cases h
      simp [ih h2]
    · cases h
theorem wordM_some {w : List UInt8} {x : Spt} (h : wordM w = some x) : ∃ a b, goodN a = true ∧ goodN b = true ∧ w = a ++ 58 :: b ∧ x = spv a b := by
  unfold wordM at h
  split at h
  · rename_i hc
    simp only [Bool.and_eq_true] at hc
    refine ⟨_, _, hc.1, hc.2, ?_, (Option.some.inj h).symm⟩
    refine cutB_found ?_
    cases hf : (cutB 58 w).2.2 with
    | true => rfl
    | false => rw [(cutB_none hf).2] at hc; simp [goodN] at hc
  · cases h
theorem dig_ne {a : List UInt8} (h : ∀ c, c ∈ a → dgtB c = true) {c : UInt8} (hc : dgtB c = false) : c ∉ a := fun hm => by rw [h c hm] at hc; cases hc
theorem wordM_mk {a b : List UInt8} (ha : goodN a = true) (hb : goodN b = true) : wordM (a ++ 58 :: b) = some (spv a b) := by
  unfold wordM
  rw [cutB_app (dig_ne (goodN_dig ha).1 rfl)]
  simp [ha, hb]
end Go.Proofs.YtaibabmladgldaaGreatDoor
set_option linter.unusedSimpArgs false
set_option linter.unusedVariables false
set_option maxHeartbeats 2000000
set_option maxRecDepth 20000
namespace Go.Proofs.YtaibabmladgldaaGreatDoor
open Go.RowKit
/-! internal/strconv.Atoi of any text of 1 to 18 bytes: some number, some error or none. -/
/-- One of the errors of internal/strconv, or none. -/
def IErr (e : Value) : Prop := e = .nilIface ∨ ∃ k : Int, (k = 1 ∨ k = 2) ∧ e = .iface 111 (.int .i64 k)
structure NumR (r : Value) : Prop where
  out : ∃ n e, r = .tuple #[.int .i64 n, e] ∧ -9223372036854775808 ≤ n ∧ n ≤ 9223372036854775807 ∧ IErr e
theorem u8_no48 {c : UInt8} (h : ¬ (48 ≤ c.toNat ∧ c.toNat ≤ 57)) : 9 < IntKind.u8.wrap ((c.toNat : Int) - 48) := by
  have : ∀ i : Fin 256, ¬ (48 ≤ i.val ∧ i.val ≤ 57) → 9 < IntKind.u8.wrap ((i.val : Int) - 48) := by decide +kernel
  exact this ⟨c.toNat, c.toNat_lt⟩ h
section
variable (E : Env) (L : List Res)
theorem AtoiX_call (s : List UInt8) (h1 : 1 ≤ s.length) (h18 : s.length ≤ 18) : CallS Tryz.prog 60 #[.string (S s)] E L (fun r E' L' => NumR r ∧ L' = L) := by
  refine CallS.intro (l := [_]) _ Tryz.func60 rfl Tryz.ntmps60 rfl ?_
  have hc0 := List.getElem?_eq_getElem (show 0 < s.length by omega)
  generalize s[0]'(by omega) = c0 at *
  have hnum : NumR (.tuple #[.int .i64 0, .iface 111 (.int .i64 2)]) := ⟨⟨_, _, rfl, by omega, by omega, .inr ⟨2, .inr rfl, rfl⟩⟩⟩
  refine G_ways (Y := ?Y) (β := List UInt8 × Nat × Nat × Env) (J := fun y => E.Le y.2.2.2 ∧ SlE y.2.2.2 1 (some ⟨y.2.1, 0, none⟩) y.1.length (u8s y.1) ∧ y.1.length ≤ 18) (fs' := fun y => [(5, .string (S s)), (6, .int .i64 0), (47, .slice (some ⟨y.2.1, 0, none⟩) y.1.length y.2.2.1), (48, .int .i64 y.1.length), (49, .int .i64 0)]) (E' := fun y => y.2.2.2) (L' := fun _ => L) ?_ ?_
  rotate_left
  · intro hk
    by_cases hsg : c0.toNat = 45 ∨ c0.toNat = 43
    · have hdl : (s.drop (1 : Int).toNat).length = s.length - 1 := by simp
      by_cases hl1 : s.length = 1
      · refine G_seq ?_
        refine G_region ?_
        refine Ga ?_
        refine Ga ?_
        refine G_end (X_then (G_seq (G_region ?_)))
        refine Gm ?_
        refine Gv (V_len rfl rfl) ?_
        refine Ga ?_
        refine G_end (X_then (G_seq (G_seq (G_region ?_))))
        refine Gm ?_
        refine Gn ?_
        refine Gn ?_
        refine Gn ?_
        refine G_stay (.un rfl rfl rfl rfl) rfl rfl ?_
        refine G_stay (.un rfl rfl rfl rfl) rfl rfl ?_
        refine Gn ?_
        refine Gv (V_pick_f rfl rfl rfl) ?_
        refine Gm ?_
        refine Gy (V_move rfl rfl) ?_
        refine Gy (V_move rfl rfl) ?_
        refine Gy (V_lss rfl rfl rfl) ?_
        refine Gy (V_move rfl rfl) ?_
        refine G.bool_t 25 rfl (decide_eq_true (by omega)) ?_
        refine Gy (V_move rfl rfl) ?_
        refine Gy (V_lss rfl rfl rfl) ?_
        refine Gy (V_pick_t rfl rfl rfl) ?_
        refine Gy (V_pick_t rfl rfl rfl) ?_
        refine Gv (V_pick_f rfl rfl rfl) ?_
        refine G_end (X_then ?_)
        refine G_cond_t rfl (decide_eq_true (by omega)) ?_
        refine G_seq (G_region ?_)
        refine Gm ?_
        refine Ga ?_
        refine G_end (X_then (G_seq (G_seq (G_region ?_))))
        refine Gm ?_
        refine Gv (V_sidx rfl rfl rfl (by omega) (by assumption)) ?_
        refine Gv (V_eql rfl rfl rfl) ?_
        refine Gm ?_
        apply G_joinOr 4 35 39 rfl
        · intro H1
          dsimp only [List.take]
          simp only [Bool.and_eq_true, Bool.or_eq_true, Bool.not_eq_true', Bool.not_eq_false', Bool.and_eq_false_iff, Bool.or_eq_false_iff, Bool.not_not, decide_eq_true_eq, decide_eq_false_iff_not, ne_eq, Decidable.not_not, Bool.decide_eq_true] at H1
          refine Gn ?_
          refine Gn ?_
          refine Gn ?_
          refine Gv (V_pick_t rfl rfl rfl) ?_
          refine G_end ?_
          exact JQ_end 4 rfl rfl (by kernel_rfl)
        · intro H2
          dsimp only [List.take]
          simp only [Bool.and_eq_true, Bool.or_eq_true, Bool.not_eq_true', Bool.not_eq_false', Bool.and_eq_false_iff, Bool.or_eq_false_iff, Bool.not_not, decide_eq_true_eq, decide_eq_false_iff_not, ne_eq, Decidable.not_not, Bool.decide_eq_true] at H2
          refine Gy (V_move rfl rfl) ?_
          refine Gy (V_sidx rfl rfl rfl (by omega) (by assumption)) ?_
          refine Gy (V_eql rfl rfl rfl) ?_
          refine Gv (V_pick_f rfl rfl rfl) ?_
          refine G_end ?_
          exact JQ_end 4 rfl rfl (by kernel_rfl)
        dsimp only [List.drop]
        refine G_end (X_then ?_)
        refine G_condS rfl (fun H4 => ?_) (fun H4 => ?_)
        · simp only [Bool.and_eq_true, Bool.or_eq_true, Bool.not_eq_true', Bool.not_eq_false', Bool.and_eq_false_iff, Bool.or_eq_false_iff, Bool.not_not, decide_eq_true_eq, decide_eq_false_iff_not, ne_eq, Decidable.not_not, Bool.decide_eq_true] at H4
          (exfalso; omega)
        simp only [Bool.and_eq_true, Bool.or_eq_true, Bool.not_eq_true', Bool.not_eq_false', Bool.and_eq_false_iff, Bool.or_eq_false_iff, Bool.not_not, decide_eq_true_eq, decide_eq_false_iff_not, ne_eq, Decidable.not_not, Bool.decide_eq_true] at H4
        refine G_seq (G_region ?_)
        refine Gm ?_
        refine Gv (V_back rfl rfl rfl (by omega) (by omega)) ?_
        refine Ga ?_
        refine G_end (X_then (G_seq (G_region ?_)))
        refine Gm ?_
        refine Gv (V_len rfl rfl) ?_
        refine Gv (V_lss rfl rfl rfl) ?_
        refine G_end (X_then ?_)
        refine G_cond_t rfl (decide_eq_true (by omega)) ?_
        refine G_seq (G_region ?_)
        refine Gv (V_iface rfl rfl rfl) ?_
        refine Ga ?_
        refine Ga ?_
        refine G_end (X_then (G_ret (X_then_ret (X_then_ret ?_))))
        refine G_leaveS (.nil _) (by exact (.cons (.tmp rfl) (.cons (.tmp rfl) (.nil)))) rfl ?_ ?_
        · exact (.refl _)
        exact ⟨(by assumption), rfl⟩
      · refine G_seq ?_
        refine G_region ?_
        refine Ga ?_
        refine Ga ?_
        refine G_end (X_then (G_seq (G_region ?_)))
        refine Gm ?_
        refine Gv (V_len rfl rfl) ?_
        refine Ga ?_
        refine G_end (X_then (G_seq (G_seq (G_region ?_))))
        refine Gm ?_
        refine Gn ?_
        refine Gn ?_
        refine Gn ?_
        refine G_stay (.un rfl rfl rfl rfl) rfl rfl ?_
        refine G_stay (.un rfl rfl rfl rfl) rfl rfl ?_
        refine Gn ?_
        refine Gv (V_pick_f rfl rfl rfl) ?_
        refine Gm ?_
        refine Gy (V_move rfl rfl) ?_
        refine Gy (V_move rfl rfl) ?_
        refine Gy (V_lss rfl rfl rfl) ?_
        refine Gy (V_move rfl rfl) ?_
        refine G.bool_t 25 rfl (decide_eq_true (by omega)) ?_
        refine Gy (V_move rfl rfl) ?_
        refine Gy (V_lss rfl rfl rfl) ?_
        refine Gy (V_pick_t rfl rfl rfl) ?_
        refine Gy (V_pick_t rfl rfl rfl) ?_
        refine Gv (V_pick_f rfl rfl rfl) ?_
        refine G_end (X_then ?_)
        refine G_cond_t rfl (decide_eq_true (by omega)) ?_
        refine G_seq (G_region ?_)
        refine Gm ?_
        refine Ga ?_
        refine G_end (X_then (G_seq (G_seq (G_region ?_))))
        refine Gm ?_
        refine Gv (V_sidx rfl rfl rfl (by omega) (by assumption)) ?_
        refine Gv (V_eql rfl rfl rfl) ?_
        refine Gm ?_
        apply G_joinOr 4 35 39 rfl
        · intro H1
          dsimp only [List.take]
          simp only [Bool.and_eq_true, Bool.or_eq_true, Bool.not_eq_true', Bool.not_eq_false', Bool.and_eq_false_iff, Bool.or_eq_false_iff, Bool.not_not, decide_eq_true_eq, decide_eq_false_iff_not, ne_eq, Decidable.not_not, Bool.decide_eq_true] at H1
          refine Gn ?_
          refine Gn ?_
          refine Gn ?_
          refine Gv (V_pick_t rfl rfl rfl) ?_
          refine G_end ?_
          exact JQ_end 4 rfl rfl (by kernel_rfl)
        · intro H2
          dsimp only [List.take]
          simp only [Bool.and_eq_true, Bool.or_eq_true, Bool.not_eq_true', Bool.not_eq_false', Bool.and_eq_false_iff, Bool.or_eq_false_iff, Bool.not_not, decide_eq_true_eq, decide_eq_false_iff_not, ne_eq, Decidable.not_not, Bool.decide_eq_true] at H2
          refine Gy (V_move rfl rfl) ?_
          refine Gy (V_sidx rfl rfl rfl (by omega) (by assumption)) ?_
          refine Gy (V_eql rfl rfl rfl) ?_
          refine Gv (V_pick_f rfl rfl rfl) ?_
          refine G_end ?_
          exact JQ_end 4 rfl rfl (by kernel_rfl)
        dsimp only [List.drop]
        refine G_end (X_then ?_)
        refine G_condS rfl (fun H4 => ?_) (fun H4 => ?_)
        · simp only [Bool.and_eq_true, Bool.or_eq_true, Bool.not_eq_true', Bool.not_eq_false', Bool.and_eq_false_iff, Bool.or_eq_false_iff, Bool.not_not, decide_eq_true_eq, decide_eq_false_iff_not, ne_eq, Decidable.not_not, Bool.decide_eq_true] at H4
          (exfalso; omega)
        simp only [Bool.and_eq_true, Bool.or_eq_true, Bool.not_eq_true', Bool.not_eq_false', Bool.and_eq_false_iff, Bool.or_eq_false_iff, Bool.not_not, decide_eq_true_eq, decide_eq_false_iff_not, ne_eq, Decidable.not_not, Bool.decide_eq_true] at H4
        refine G_seq (G_region ?_)
        refine Gm ?_
        refine Gv (V_back rfl rfl rfl (by omega) (by omega)) ?_
        refine Ga ?_
        refine G_end (X_then (G_seq (G_region ?_)))
        refine Gm ?_
        refine Gv (V_len rfl rfl) ?_
        refine Gv (V_lss rfl rfl rfl) ?_
        refine G_end (X_then ?_)
        refine G_cond_f rfl (decide_eq_false (by omega)) ?_
        refine G_skip (X_then (G_seq (G_region ?_)))
        refine Ga ?_
        refine G_end (X_then (G_seq (G_seq (G_region ?_))))
        refine Gm ?_
        (refine G_s2b rfl rfl rfl rfl (.none rfl) ?_; intro b47 c47 E47 hE47 hs47)
        refine Gv (V_lenS rfl rfl) ?_
        refine Gm ?_
        refine G_end (X_then (G_block ?_))
        refine G.sub [(5, .string (S s)), (6, .int .i64 0), (47, .slice (some ⟨b47, 0, none⟩) (s.drop (1 : Int).toNat).length c47), (48, .int .i64 (s.drop (1 : Int).toNat).length), (49, .int .i64 0)] ⟨rfl, rfl, rfl, rfl, rfl, trivial⟩ ?_
        exact hk (s.drop (1 : Int).toNat, b47, c47, E47) ⟨hE47, hs47, by simp only; omega⟩
    · refine G_seq ?_
      refine G_region ?_
      refine Ga ?_
      refine Ga ?_
      refine G_end (X_then (G_seq (G_region ?_)))
      refine Gm ?_
      refine Gv (V_len rfl rfl) ?_
      refine Ga ?_
      refine G_end (X_then (G_seq (G_seq (G_region ?_))))
      refine Gm ?_
      refine Gn ?_
      refine Gn ?_
      refine Gn ?_
      refine G_stay (.un rfl rfl rfl rfl) rfl rfl ?_
      refine G_stay (.un rfl rfl rfl rfl) rfl rfl ?_
      refine Gn ?_
      refine Gv (V_pick_f rfl rfl rfl) ?_
      refine Gm ?_
      refine Gy (V_move rfl rfl) ?_
      refine Gy (V_move rfl rfl) ?_
      refine Gy (V_lss rfl rfl rfl) ?_
      refine Gy (V_move rfl rfl) ?_
      refine G.bool_t 25 rfl (decide_eq_true (by omega)) ?_
      refine Gy (V_move rfl rfl) ?_
      refine Gy (V_lss rfl rfl rfl) ?_
      refine Gy (V_pick_t rfl rfl rfl) ?_
      refine Gy (V_pick_t rfl rfl rfl) ?_
      refine Gv (V_pick_f rfl rfl rfl) ?_
      refine G_end (X_then ?_)
      refine G_cond_t rfl (decide_eq_true (by omega)) ?_
      refine G_seq (G_region ?_)
      refine Gm ?_
      refine Ga ?_
      refine G_end (X_then (G_seq (G_seq (G_region ?_))))
      refine Gm ?_
      refine Gv (V_sidx rfl rfl rfl (by omega) (by assumption)) ?_
      refine Gv (V_eql rfl rfl rfl) ?_
      refine Gm ?_
      refine G.bool_f 35 rfl (decide_eq_false (by omega)) ?_
      refine Gy (V_move rfl rfl) ?_
      refine Gy (V_sidx rfl rfl rfl (by omega) (by assumption)) ?_
      refine Gy (V_eql rfl rfl rfl) ?_
      refine Gv (V_pick_f rfl rfl rfl) ?_
      refine G_end (X_then ?_)
      refine G_cond_f rfl (decide_eq_false (by omega)) ?_
      refine G_skip (X_then (G_seq (G_region ?_)))
      refine Ga ?_
      refine G_end (X_then (G_seq (G_seq (G_region ?_))))
      refine Gm ?_
      (refine G_s2b rfl rfl rfl rfl (.none rfl) ?_; intro b47 c47 E47 hE47 hs47)
      refine Gv (V_lenS rfl rfl) ?_
      refine Gm ?_
      refine G_end (X_then (G_block ?_))
      refine G.sub [(5, .string (S s)), (6, .int .i64 0), (47, .slice (some ⟨b47, 0, none⟩) s.length c47), (48, .int .i64 s.length), (49, .int .i64 0)] ⟨rfl, rfl, rfl, rfl, rfl, trivial⟩ ?_
      exact hk (s, b47, c47, E47) ⟨hE47, hs47, h18⟩
  · rintro ⟨b, b47, c47, E47⟩ ⟨hE, hb, hb18⟩
    simp only at hE hb hb18 ⊢
    refine G_loop (α := Nat × Nat) (fun x => [(5, .string (S s)), (6, .int .i64 (x.2 : Nat)), (47, .slice (some ⟨b47, 0, none⟩) b.length c47), (48, .int .i64 b.length), (49, .int .i64 (x.1 : Nat))]) (fun _ => E47) (fun _ => L)
      (fun x => x.1 ≤ b.length ∧ x.2 < 10 ^ x.1) (fun x => b.length - x.1) (0, 0) ⟨Nat.zero_le _, by decide⟩ ⟨rfl, rfl, rfl, rfl, rfl, trivial⟩ rfl rfl ?_
    rintro ⟨i, n⟩ ⟨hi, hn1⟩
    simp only at hi hn1 ⊢
    by_cases hlt : i < b.length
    · have h10 : 10 ^ i ≤ 10 ^ 17 := Nat.pow_le_pow_right (by omega) (by omega)
      have hn2 : n < 100000000000000000 := by omega
      have hg := u8s_at (List.getElem?_eq_getElem hlt)
      have hps := Nat.pow_succ (n := 10) (m := i)
      generalize b[i] = c at *
      by_cases hc : 48 ≤ c.toNat ∧ c.toNat ≤ 57
      · have hnx : n * 10 + (c.toNat - 48) < 10 ^ (i + 1) := by rw [Nat.pow_succ]; omega
        clear hn1 h10 hps
        refine G_seq (G_region ?_)
        refine Gv (V_lss rfl rfl rfl) ?_
        refine G_end (X_then (G_seq ?_))
        refine G_cond_t rfl (decide_eq_true (by omega)) ?_
        refine G_skip (X_then (G_seq (G_block (G_seq (G_region ?_)))))
        refine Gv (V_idxAddr rfl rfl rfl (SlE.rd (by assumption)) (by omega) (by omega)) ?_
        refine Gv (V_loadS rfl rfl (SlE.rd (by assumption)) (by assumption) (by simp)) ?_
        refine Ga ?_
        refine G_end (X_then (G_seq (G_region ?_)))
        refine Gm ?_
        refine Gv (V_sub_u8 rfl rfl rfl (by omega) (by omega)) ?_
        refine Ga ?_
        refine G_end (X_then (G_seq (G_seq (G_region ?_))))
        refine Gm ?_
        refine Gv (V_gtr rfl rfl rfl) ?_
        refine G_end (X_then ?_)
        refine G_cond_f rfl (decide_eq_false (by omega)) ?_
        refine G_skip (X_then (G_region ?_))
        refine Gm ?_
        refine Gv (V_mul_i64 rfl rfl rfl (by omega) (by omega)) ?_
        refine Gm ?_
        refine Gv (V_conv_i64 rfl rfl (by omega) (by omega)) ?_
        refine Gv (V_add_i64 rfl rfl rfl (by omega) (by omega)) ?_
        refine Ga ?_
        refine G_end (X_block (X_then (G_region ?_)))
        refine Gv (V_add_i64 rfl rfl rfl (by omega) (by omega)) ?_
        refine Gm ?_
        refine G_end (X_then ?_)
        rw [show (n : Int) * 10 + ((c.toNat : Int) - 48) = ((n * 10 + (c.toNat - 48) : Nat) : Int) by omega]
        exact G_again (i + 1, n * 10 + (c.toNat - 48)) ⟨hlt, hnx⟩ (by simp only; omega) ⟨rfl, rfl, rfl, rfl, rfl, trivial⟩ rfl rfl
      · clear hn1 h10 hps
        have hw : 9 < IntKind.u8.wrap ((c.toNat : Int) - 48) := u8_no48 hc
        refine G_seq (G_region ?_)
        refine Gv (V_lss rfl rfl rfl) ?_
        refine G_end (X_then (G_seq ?_))
        refine G_cond_t rfl (decide_eq_true (by omega)) ?_
        refine G_skip (X_then (G_seq (G_block (G_seq (G_region ?_)))))
        refine Gv (V_idxAddr rfl rfl rfl (SlE.rd (by assumption)) (by omega) (by omega)) ?_
        refine Gv (V_loadS rfl rfl (SlE.rd (by assumption)) (by assumption) (by simp)) ?_
        refine Ga ?_
        refine G_end (X_then (G_seq (G_region ?_)))
        refine Gm ?_
        refine Gv (V_sub rfl rfl rfl) ?_
        refine Ga ?_
        refine G_end (X_then (G_seq (G_seq (G_region ?_))))
        refine Gm ?_
        refine Gv (V_gtr rfl rfl rfl) ?_
        refine G_end (X_then ?_)
        refine G_cond_t rfl (decide_eq_true (by omega)) ?_
        refine G_seq (G_region ?_)
        refine Gv (V_iface rfl rfl rfl) ?_
        refine Ga ?_
        refine Ga ?_
        refine G_end (X_then (G_ret (X_then_ret (X_block_ret (X_then_ret (X_then_ret (X_block_ret (X_then_ret (X_then_ret ?_)))))))))
        refine G_leaveS (.nil _) (by exact (.cons (.tmp rfl) (.cons (.tmp rfl) (.nil)))) rfl ?_ ?_
        · exact hE
        exact ⟨(by assumption), rfl⟩
    · have h10 : 10 ^ i ≤ 10 ^ 18 := Nat.pow_le_pow_right (by omega) (by omega)
      have hn2 : n < 1000000000000000000 := by omega
      clear h10 hn1
      by_cases hc : c0.toNat = 45
      · have hf : NumR (.tuple #[.int .i64 (IntKind.i64.wrap (0 - (n : Int))), .nilIface]) := by
          rw [wrap_i64 (by omega) (by omega)]
          exact ⟨⟨_, _, rfl, by omega, by omega, .inl rfl⟩⟩
        refine G_seq (G_region ?_)
        refine Gv (V_lss rfl rfl rfl) ?_
        refine G_end (X_then (G_seq ?_))
        refine G_cond_f rfl (decide_eq_false (by omega)) ?_
        refine G_exit (X_then_exit (X_then_exit (X_block_hit (X_then (G_seq (G_seq (G_region ?_)))))))
        refine Gm ?_
        refine Gv (V_sidx rfl rfl rfl (by omega) (by assumption)) ?_
        refine Gv (V_eql rfl rfl rfl) ?_
        refine G_end (X_then ?_)
        refine G_cond_t rfl (decide_eq_true (by omega)) ?_
        refine G_region ?_
        refine Gm ?_
        refine Gv (V_neg rfl rfl) ?_
        refine Ga ?_
        refine G_end (X_then (G_seq (G_region ?_)))
        refine Gm ?_
        refine Ga ?_
        refine Ga ?_
        refine G_end (X_then (G_ret (X_then_ret ?_)))
        refine G_leaveS (.nil _) (by exact (.cons (.tmp rfl) (.cons (.tmp rfl) (.nil)))) rfl ?_ ?_
        · exact hE
        exact ⟨(by assumption), rfl⟩
      · have hf : NumR (.tuple #[.int .i64 (n : Nat), .nilIface]) := ⟨⟨_, _, rfl, by omega, by omega, .inl rfl⟩⟩
        refine G_seq (G_region ?_)
        refine Gv (V_lss rfl rfl rfl) ?_
        refine G_end (X_then (G_seq ?_))
        refine G_cond_f rfl (decide_eq_false (by omega)) ?_
        refine G_exit (X_then_exit (X_then_exit (X_block_hit (X_then (G_seq (G_seq (G_region ?_)))))))
        refine Gm ?_
        refine Gv (V_sidx rfl rfl rfl (by omega) (by assumption)) ?_
        refine Gv (V_eql rfl rfl rfl) ?_
        refine G_end (X_then ?_)
        refine G_cond_f rfl (decide_eq_false (by omega)) ?_
        refine G_skip (X_then (G_seq (G_region ?_)))
        refine Gm ?_
        refine Ga ?_
        refine Ga ?_
        refine G_end (X_then (G_ret (X_then_ret ?_)))
        refine G_leaveS (.nil _) (by exact (.cons (.tmp rfl) (.cons (.tmp rfl) (.nil)))) rfl ?_ ?_
        · exact hE
        exact ⟨(by assumption), rfl⟩
end
end Go.Proofs.YtaibabmladgldaaGreatDoor
set_option linter.unusedSimpArgs false
set_option linter.unusedVariables false
set_option maxHeartbeats 2000000
set_option maxRecDepth 20000
namespace Go.Proofs.YtaibabmladgldaaGreatDoor
open Go.RowKit
/-! internal/strconv.ParseUint to the base 10, of any text: some number, some error or none. -/
structure UnumR (r : Value) : Prop where
  out : ∃ n : Nat, ∃ e, r = .tuple #[.int .u64 n, e] ∧ n < 18446744073709551616 ∧ IErr e
section
variable (E : Env) (L : List Res)
theorem lower_call (c : UInt8) : CallV Tryz.prog 107 #[.int .u8 c.toNat] E L (.int .u8 (orI .u8 c.toNat 32)) := by
  refine CallS.toV (CallS.intro (l := [_]) _ Tryz.func107 rfl Tryz.ntmps107 rfl ?_)
  refine G_seq (G_region ?_)
  refine Ga ?_
  refine G_end (X_then (G_seq (G_region ?_)))
  refine Gm ?_
  refine Gv (V_or rfl rfl rfl) ?_
  refine Ga ?_
  refine G_end (X_then (G_ret ?_))
  refine G_leaveS (.nil _) (by exact (.cons (.tmp rfl) (.nil))) rfl ?_ ?_
  · exact (.refl _)
  exact ⟨rfl, rfl⟩
theorem ParseUint_call (s : List UInt8) (h1 : 1 ≤ s.length) (hs : s.length ≤ 1000000) : CallS Tryz.prog 96 #[.string (S s), .int .i64 10, .int .i64 0] E L (fun r E' L' => UnumR r ∧ L' = L) := by
  have hsyn : UnumR (.tuple #[.int .u64 0, .iface 111 (.int .i64 2)]) := ⟨⟨0, _, rfl, by omega, .inr ⟨2, .inr rfl, rfl⟩⟩⟩
  have hne : ¬ s = [] := fun h => by rw [h] at h1; simp at h1
  refine CallS.intro (l := [_, _, _]) _ Tryz.func96 rfl Tryz.ntmps96 rfl ?_
  have hmax : IntKind.u64.wrap (shlI .u64 1 64 - 1) = 18446744073709551615 := by kernel_rfl
  refine G_seq (G_region ?_)
  refine Ga ?_
  refine Ga ?_
  refine G_end (X_then (G_seq (G_seq (G_region ?_))))
  refine Gm ?_
  refine Gv (V_seql rfl rfl rfl) ?_
  refine G_end (X_then ?_)
  refine G_cond_f rfl (decide_eq_false (by omega)) ?_
  refine G_skip (X_then (G_seq (G_region ?_)))
  refine Gm ?_
  refine Gv (V_eql rfl rfl rfl) ?_
  refine Ga ?_
  refine G_end (X_then (G_seq (G_region ?_)))
  refine Gm ?_
  refine Ga ?_
  refine G_end (X_then (G_seq (G_block (G_seq (G_region ?_)))))
  refine Gm ?_
  refine Gv (V_leq rfl rfl rfl) ?_
  refine Gm ?_
  refine G.bool_t 28 rfl (by kernel_rfl) ?_
  refine Gy (V_move rfl rfl) ?_
  refine Gy (V_leq rfl rfl rfl) ?_
  refine Gv (V_pick_t rfl rfl rfl) ?_
  refine Ga ?_
  refine G_end (X_then ?_)
  refine G_cond_t rfl (by kernel_rfl) ?_
  refine G_skip (X_block (X_then (G_seq (G_seq (G_region ?_)))))
  refine Gm ?_
  refine Gv (V_eql rfl rfl rfl) ?_
  refine G_end (X_then ?_)
  refine G_cond_t rfl (by kernel_rfl) ?_
  refine G_region ?_
  refine Ga ?_
  refine G_end (X_then (G_seq (G_region ?_)))
  refine Ga ?_
  refine G_end (X_then (G_seq (G_seq (G_region ?_))))
  refine Gm ?_
  refine G_end (X_then (G_block (G_seq (G_region ?_))))
  refine Gv (V_eql rfl rfl rfl) ?_
  refine Ga ?_
  refine G_end (X_then ?_)
  refine G_cond_t rfl (by kernel_rfl) ?_
  refine G_region ?_
  refine Ga ?_
  refine G_end (X_block (X_then (G_seq (G_region ?_))))
  refine Gm ?_
  refine Gv (V_conv_u64 rfl rfl (by omega) (by omega)) ?_
  refine Gv (V_shl rfl rfl rfl (by omega)) ?_
  refine Gv (V_sub rfl rfl rfl) ?_
  refine Ga ?_
  refine G_end (X_then (G_seq (G_region ?_)))
  refine Ga ?_
  refine G_end (X_then (G_seq (G_region ?_)))
  refine Ga ?_
  refine G_end (X_then (G_seq (G_seq (G_region ?_))))
  refine Gm ?_
  (refine G_s2b rfl rfl rfl rfl (.none rfl) ?_; intro b99 c99 E99 hE99 hs99)
  refine Gv (V_lenS rfl rfl) ?_
  refine Gm ?_
  refine G_end (X_then (G_block ?_))
  rw [hmax]
  refine G_loop (α := Nat × Nat) (fun x => [(1, .int .i64 10), (8, .bool false), (9, .string (S s)), (10, .int .u64 1844674407370955162), (11, .int .u64 18446744073709551615), (12, .bool false), (13, .int .u64 (x.2 : Nat)), (99, .slice (some ⟨b99, 0, none⟩) s.length c99), (100, .int .i64 s.length), (101, .int .i64 (x.1 : Nat))]) (fun _ => E99) (fun _ => L)
    (fun x => x.1 ≤ s.length ∧ x.2 < 18446744073709551616) (fun x => s.length - x.1) (0, 0) ⟨Nat.zero_le _, by decide⟩ ⟨rfl, rfl, rfl, rfl, rfl, rfl, rfl, rfl, rfl, rfl, trivial⟩ rfl rfl ?_
  rintro ⟨i, n⟩ ⟨hi, hn⟩
  simp only at hi hn ⊢
  by_cases hlt : i < s.length
  · have hg := u8s_at (List.getElem?_eq_getElem hlt)
    generalize s[i] = c at *
    have hlw := fun L0 => lower_call E99 L0 c
    by_cases hc : 48 ≤ c.toNat ∧ c.toNat ≤ 57
    · by_cases hcut : 1844674407370955162 ≤ n
      · have hf : UnumR (.tuple #[.int .u64 18446744073709551615, .iface 111 (.int .i64 1)]) := ⟨⟨18446744073709551615, _, rfl, by omega, .inr ⟨1, .inl rfl, rfl⟩⟩⟩
        refine G_seq (G_region ?_)
        refine Gv (V_lss rfl rfl rfl) ?_
        refine G_end (X_then (G_seq ?_))
        refine G_cond_t rfl (decide_eq_true (by omega)) ?_
        refine G_skip (X_then (G_seq (G_block (G_seq (G_region ?_)))))
        refine Gv (V_idxAddr rfl rfl rfl (SlE.rd (by assumption)) (by omega) (by omega)) ?_
        refine Gv (V_loadS rfl rfl (SlE.rd (by assumption)) (by assumption) (by simp)) ?_
        refine Ga ?_
        refine G_end (X_then (G_seq (G_region ?_)))
        refine Ga ?_
        refine G_end (X_then (G_seq (G_block (G_seq (G_region ?_)))))
        refine Gm ?_
        refine Gv (V_eql rfl rfl rfl) ?_
        refine Gm ?_
        refine G.bool_f 109 rfl (decide_eq_false (by omega)) ?_
        refine Gn ?_
        refine Gv (V_pick_f rfl rfl rfl) ?_
        refine Ga ?_
        refine G_end (X_then ?_)
        refine G_cond_f rfl rfl ?_
        refine G_seq (G_region ?_)
        refine Gm ?_
        refine Gv (V_leq rfl rfl rfl) ?_
        refine Gm ?_
        refine G.bool_t 115 rfl (decide_eq_true (by omega)) ?_
        refine Gy (V_move rfl rfl) ?_
        refine Gy (V_leq rfl rfl rfl) ?_
        refine Gv (V_pick_t rfl rfl rfl) ?_
        refine Ga ?_
        refine G_end (X_then ?_)
        refine G_cond_t rfl (decide_eq_true (by omega)) ?_
        refine G_region ?_
        refine Gm ?_
        refine Gv (V_sub_u8 rfl rfl rfl (by omega) (by omega)) ?_
        refine Ga ?_
        refine G_end (X_block (X_then (G_seq (G_seq (G_region ?_)))))
        refine Gm ?_
        refine Gm ?_
        refine Gv (V_conv_u8 rfl rfl (by omega) (by omega)) ?_
        refine Gv (V_geq rfl rfl rfl) ?_
        refine G_end (X_then ?_)
        refine G_cond_f rfl (decide_eq_false (by omega)) ?_
        refine G_skip (X_then (G_seq (G_seq (G_region ?_))))
        refine Gm ?_
        refine Gm ?_
        refine Gv (V_geq rfl rfl rfl) ?_
        refine G_end (X_then ?_)
        refine G_cond_t rfl (decide_eq_true (by omega)) ?_
        refine G_seq (G_region ?_)
        refine Gm ?_
        refine Gv (V_iface rfl rfl rfl) ?_
        refine Ga ?_
        refine Ga ?_
        refine G_end (X_then (G_ret (X_then_ret (X_block_ret (X_then_ret (X_then_ret (X_block_ret (X_then_ret ?_))))))))
        refine G_leaveS (.nil _) (by exact (.cons (.tmp rfl) (.cons (.tmp rfl) (.nil)))) rfl ?_ ?_
        · exact hE99
        exact ⟨(by assumption), rfl⟩
      · have hf : UnumR (.tuple #[.int .u64 18446744073709551615, .iface 111 (.int .i64 1)]) := ⟨⟨18446744073709551615, _, rfl, by omega, .inr ⟨1, .inl rfl, rfl⟩⟩⟩
        by_cases hv : n * 10 + (c.toNat - 48) < 18446744073709551616
        · have hw : IntKind.u64.wrap ((n : Int) * 10 + ((c.toNat : Int) - 48)) = ((n * 10 + (c.toNat - 48) : Nat) : Int) := by
            rw [wrap_u64 (by omega) (by omega)]; omega
          have hw1 : ¬ IntKind.u64.wrap ((n : Int) * 10 + ((c.toNat : Int) - 48)) < (n : Int) * 10 := by rw [hw]; omega
          have hw2 : ¬ 18446744073709551615 < IntKind.u64.wrap ((n : Int) * 10 + ((c.toNat : Int) - 48)) := by rw [hw]; omega
          refine G_seq (G_region ?_)
          refine Gv (V_lss rfl rfl rfl) ?_
          refine G_end (X_then (G_seq ?_))
          refine G_cond_t rfl (decide_eq_true (by omega)) ?_
          refine G_skip (X_then (G_seq (G_block (G_seq (G_region ?_)))))
          refine Gv (V_idxAddr rfl rfl rfl (SlE.rd (by assumption)) (by omega) (by omega)) ?_
          refine Gv (V_loadS rfl rfl (SlE.rd (by assumption)) (by assumption) (by simp)) ?_
          refine Ga ?_
          refine G_end (X_then (G_seq (G_region ?_)))
          refine Ga ?_
          refine G_end (X_then (G_seq (G_block (G_seq (G_region ?_)))))
          refine Gm ?_
          refine Gv (V_eql rfl rfl rfl) ?_
          refine Gm ?_
          refine G.bool_f 109 rfl (decide_eq_false (by omega)) ?_
          refine Gn ?_
          refine Gv (V_pick_f rfl rfl rfl) ?_
          refine Ga ?_
          refine G_end (X_then ?_)
          refine G_cond_f rfl rfl ?_
          refine G_seq (G_region ?_)
          refine Gm ?_
          refine Gv (V_leq rfl rfl rfl) ?_
          refine Gm ?_
          refine G.bool_t 115 rfl (decide_eq_true (by omega)) ?_
          refine Gy (V_move rfl rfl) ?_
          refine Gy (V_leq rfl rfl rfl) ?_
          refine Gv (V_pick_t rfl rfl rfl) ?_
          refine Ga ?_
          refine G_end (X_then ?_)
          refine G_cond_t rfl (decide_eq_true (by omega)) ?_
          refine G_region ?_
          refine Gm ?_
          refine Gv (V_sub_u8 rfl rfl rfl (by omega) (by omega)) ?_
          refine Ga ?_
          refine G_end (X_block (X_then (G_seq (G_seq (G_region ?_)))))
          refine Gm ?_
          refine Gm ?_
          refine Gv (V_conv_u8 rfl rfl (by omega) (by omega)) ?_
          refine Gv (V_geq rfl rfl rfl) ?_
          refine G_end (X_then ?_)
          refine G_cond_f rfl (decide_eq_false (by omega)) ?_
          refine G_skip (X_then (G_seq (G_seq (G_region ?_))))
          refine Gm ?_
          refine Gm ?_
          refine Gv (V_geq rfl rfl rfl) ?_
          refine G_end (X_then ?_)
          refine G_cond_f rfl (decide_eq_false (by omega)) ?_
          refine G_skip (X_then (G_seq (G_region ?_)))
          refine Gm ?_
          refine Gm ?_
          refine Gv (V_conv_u64 rfl rfl (by omega) (by omega)) ?_
          refine Gv (V_mul_u64 rfl rfl rfl (by omega) (by omega)) ?_
          refine Ga ?_
          refine G_end (X_then (G_seq (G_region ?_)))
          refine Gm ?_
          refine Gm ?_
          refine Gv (V_conv_u64 rfl rfl (by omega) (by omega)) ?_
          refine Gv (V_add_u64 rfl rfl rfl (by omega) (by omega)) ?_
          refine Ga ?_
          refine G_end (X_then (G_seq (G_seq (G_region ?_))))
          refine Gm ?_
          refine Gm ?_
          refine Gv (V_lss rfl rfl rfl) ?_
          refine Gm ?_
          refine G.bool_f 155 rfl (decide_eq_false (by omega)) ?_
          refine Gy (V_move rfl rfl) ?_
          refine Gy (V_move rfl rfl) ?_
          refine Gy (V_gtr rfl rfl rfl) ?_
          refine Gv (V_pick_f rfl rfl rfl) ?_
          refine G_end (X_then ?_)
          refine G_cond_f rfl (decide_eq_false (by omega)) ?_
          refine G_skip (X_then (G_region ?_))
          refine Gm ?_
          refine Ga ?_
          refine G_end (X_block (X_then (G_region ?_)))
          refine Gv (V_add_i64 rfl rfl rfl (by omega) (by omega)) ?_
          refine Gm ?_
          refine G_end (X_then ?_)
          rw [show (n : Int) * 10 + ((c.toNat : Int) - 48) = ((n * 10 + (c.toNat - 48) : Nat) : Int) by omega]
          exact G_again (i + 1, n * 10 + (c.toNat - 48)) ⟨hlt, hv⟩ (by simp only; omega) ⟨rfl, rfl, rfl, rfl, rfl, rfl, rfl, rfl, rfl, rfl, trivial⟩ rfl rfl
        · have hw1 : IntKind.u64.wrap ((n : Int) * 10 + ((c.toNat : Int) - 48)) < (n : Int) * 10 := by
            have : IntKind.u64.wrap ((n : Int) * 10 + ((c.toNat : Int) - 48)) = ((n : Int) * 10 + ((c.toNat : Int) - 48)) % 18446744073709551616 := rfl
            rw [this]; omega
          refine G_seq (G_region ?_)
          refine Gv (V_lss rfl rfl rfl) ?_
          refine G_end (X_then (G_seq ?_))
          refine G_cond_t rfl (decide_eq_true (by omega)) ?_
          refine G_skip (X_then (G_seq (G_block (G_seq (G_region ?_)))))
          refine Gv (V_idxAddr rfl rfl rfl (SlE.rd (by assumption)) (by omega) (by omega)) ?_
          refine Gv (V_loadS rfl rfl (SlE.rd (by assumption)) (by assumption) (by simp)) ?_
          refine Ga ?_
          refine G_end (X_then (G_seq (G_region ?_)))
          refine Ga ?_
          refine G_end (X_then (G_seq (G_block (G_seq (G_region ?_)))))
          refine Gm ?_
          refine Gv (V_eql rfl rfl rfl) ?_
          refine Gm ?_
          refine G.bool_f 109 rfl (decide_eq_false (by omega)) ?_
          refine Gn ?_
          refine Gv (V_pick_f rfl rfl rfl) ?_
          refine Ga ?_
          refine G_end (X_then ?_)
          refine G_cond_f rfl rfl ?_
          refine G_seq (G_region ?_)
          refine Gm ?_
          refine Gv (V_leq rfl rfl rfl) ?_
          refine Gm ?_
          refine G.bool_t 115 rfl (decide_eq_true (by omega)) ?_
          refine Gy (V_move rfl rfl) ?_
          refine Gy (V_leq rfl rfl rfl) ?_
          refine Gv (V_pick_t rfl rfl rfl) ?_
          refine Ga ?_
          refine G_end (X_then ?_)
          refine G_cond_t rfl (decide_eq_true (by omega)) ?_
          refine G_region ?_
          refine Gm ?_
          refine Gv (V_sub_u8 rfl rfl rfl (by omega) (by omega)) ?_
          refine Ga ?_
          refine G_end (X_block (X_then (G_seq (G_seq (G_region ?_)))))
          refine Gm ?_
          refine Gm ?_
          refine Gv (V_conv_u8 rfl rfl (by omega) (by omega)) ?_
          refine Gv (V_geq rfl rfl rfl) ?_
          refine G_end (X_then ?_)
          refine G_cond_f rfl (decide_eq_false (by omega)) ?_
          refine G_skip (X_then (G_seq (G_seq (G_region ?_))))
          refine Gm ?_
          refine Gm ?_
          refine Gv (V_geq rfl rfl rfl) ?_
          refine G_end (X_then ?_)
          refine G_cond_f rfl (decide_eq_false (by omega)) ?_
          refine G_skip (X_then (G_seq (G_region ?_)))
          refine Gm ?_
          refine Gm ?_
          refine Gv (V_conv_u64 rfl rfl (by omega) (by omega)) ?_
          refine Gv (V_mul_u64 rfl rfl rfl (by omega) (by omega)) ?_
          refine Ga ?_
          refine G_end (X_then (G_seq (G_region ?_)))
          refine Gm ?_
          refine Gm ?_
          refine Gv (V_conv_u64 rfl rfl (by omega) (by omega)) ?_
          refine Gv (V_add rfl rfl rfl) ?_
          refine Ga ?_
          refine G_end (X_then (G_seq (G_seq (G_region ?_))))
          refine Gm ?_
          refine Gm ?_
          refine Gv (V_lss rfl rfl rfl) ?_
          refine Gm ?_
          refine G.bool_t 155 rfl (decide_eq_true (by omega)) ?_
          refine Gn ?_
          refine Gn ?_
          refine Gn ?_
          refine Gv (V_pick_t rfl rfl rfl) ?_
          refine G_end (X_then ?_)
          refine G_cond_t rfl rfl ?_
          refine G_seq (G_region ?_)
          refine Gm ?_
          refine Gv (V_iface rfl rfl rfl) ?_
          refine Ga ?_
          refine Ga ?_
          refine G_end (X_then (G_ret (X_then_ret (X_block_ret (X_then_ret (X_then_ret (X_block_ret (X_then_ret ?_))))))))
          refine G_leaveS (.nil _) (by exact (.cons (.tmp rfl) (.cons (.tmp rfl) (.nil)))) rfl ?_ ?_
          · exact hE99
          exact ⟨(by assumption), rfl⟩
    · by_cases hlo : 97 ≤ orI .u8 c.toNat 32 ∧ orI .u8 c.toNat 32 ≤ 122
      · refine G_seq ?_
        refine G_region ?_
        refine Gv (V_lss rfl rfl rfl) ?_
        refine G_end (X_then (G_seq ?_))
        refine G_cond_t rfl (decide_eq_true (by omega)) ?_
        refine G_skip (X_then (G_seq (G_block (G_seq (G_region ?_)))))
        refine Gv (V_idxAddr rfl rfl rfl (SlE.rd (by assumption)) (by omega) (by omega)) ?_
        refine Gv (V_loadS rfl rfl (SlE.rd (by assumption)) (by assumption) (by simp)) ?_
        refine Ga ?_
        refine G_end (X_then (G_seq (G_region ?_)))
        refine Ga ?_
        refine G_end (X_then (G_seq (G_block (G_seq (G_region ?_)))))
        refine Gm ?_
        refine Gv (V_eql rfl rfl rfl) ?_
        refine Gm ?_
        apply G_joinAnd 2 109 111 rfl
        · intro H1
          dsimp only [List.take]
          simp only [Bool.and_eq_true, Bool.or_eq_true, Bool.not_eq_true', Bool.not_eq_false', Bool.and_eq_false_iff, Bool.or_eq_false_iff, Bool.not_not, decide_eq_true_eq, decide_eq_false_iff_not, ne_eq, Decidable.not_not, Bool.decide_eq_true] at H1
          refine Gy (V_move rfl rfl) ?_
          refine Gv (V_pick_t rfl rfl rfl) ?_
          refine G_end ?_
          exact JQ_end 2 rfl rfl (by kernel_rfl)
        · intro H2
          dsimp only [List.take]
          simp only [Bool.and_eq_true, Bool.or_eq_true, Bool.not_eq_true', Bool.not_eq_false', Bool.and_eq_false_iff, Bool.or_eq_false_iff, Bool.not_not, decide_eq_true_eq, decide_eq_false_iff_not, ne_eq, Decidable.not_not, Bool.decide_eq_true] at H2
          refine Gn ?_
          refine Gv (V_pick_f rfl rfl rfl) ?_
          refine G_end ?_
          exact JQ_end 2 rfl rfl (by kernel_rfl)
        dsimp only [List.drop]
        refine Ga ?_
        refine G_end (X_then ?_)
        refine G_cond_f rfl (by simp [*]; done) ?_
        refine G_seq (G_region ?_)
        refine Gm ?_
        refine Gv (V_leq rfl rfl rfl) ?_
        refine Gm ?_
        apply G_joinAnd 3 115 118 rfl
        · intro H3
          dsimp only [List.take]
          simp only [Bool.and_eq_true, Bool.or_eq_true, Bool.not_eq_true', Bool.not_eq_false', Bool.and_eq_false_iff, Bool.or_eq_false_iff, Bool.not_not, decide_eq_true_eq, decide_eq_false_iff_not, ne_eq, Decidable.not_not, Bool.decide_eq_true] at H3
          refine Gy (V_move rfl rfl) ?_
          refine Gy (V_leq rfl rfl rfl) ?_
          refine Gv (V_pick_t rfl rfl rfl) ?_
          refine G_end ?_
          exact JQ_end 3 rfl rfl (by kernel_rfl)
        · intro H4
          dsimp only [List.take]
          simp only [Bool.and_eq_true, Bool.or_eq_true, Bool.not_eq_true', Bool.not_eq_false', Bool.and_eq_false_iff, Bool.or_eq_false_iff, Bool.not_not, decide_eq_true_eq, decide_eq_false_iff_not, ne_eq, Decidable.not_not, Bool.decide_eq_true] at H4
          refine Gn ?_
          refine Gn ?_
          refine Gv (V_pick_f rfl rfl rfl) ?_
          refine G_end ?_
          exact JQ_end 3 rfl rfl (by kernel_rfl)
        dsimp only [List.drop]
        refine Ga ?_
        refine G_end (X_then ?_)
        refine G_cond rfl (fun H5 => ?_) (fun H5 => ?_)
        · simp only [Bool.and_eq_true, Bool.or_eq_true, Bool.not_eq_true', Bool.not_eq_false', Bool.and_eq_false_iff, Bool.or_eq_false_iff, Bool.not_not, decide_eq_true_eq, decide_eq_false_iff_not, ne_eq, Decidable.not_not, Bool.decide_eq_true] at H5
          (exfalso; omega)
        simp only [Bool.and_eq_true, Bool.or_eq_true, Bool.not_eq_true', Bool.not_eq_false', Bool.and_eq_false_iff, Bool.or_eq_false_iff, Bool.not_not, decide_eq_true_eq, decide_eq_false_iff_not, ne_eq, Decidable.not_not, Bool.decide_eq_true] at H5
        refine G_seq (G_region ?_)
        refine Gm ?_
        refine G_callv (k := 107) (.mk rfl rfl rfl rfl) rfl rfl (.none rfl) (lower_call _ _ _) ?_
        refine Gv (V_leq rfl rfl rfl) ?_
        refine Gm ?_
        refine G.bool_t 125 rfl (decide_eq_true (by omega)) ?_
        refine Gy (V_move rfl rfl) ?_
        refine G_callv (k := 107) (.mk rfl rfl rfl rfl) rfl rfl (.yes rfl rfl rfl rfl) (lower_call _ _ _) ?_
        refine Gy (V_leq rfl rfl rfl) ?_
        refine Gv (V_pick_t rfl rfl rfl) ?_
        refine Ga ?_
        refine G_end (X_then ?_)
        refine G_cond_t rfl (decide_eq_true (by omega)) ?_
        refine G_region ?_
        refine Gm ?_
        refine G_callv (k := 107) (.mk rfl rfl rfl rfl) rfl rfl (.none rfl) (lower_call _ _ _) ?_
        refine Gv (V_sub_u8 rfl rfl rfl (by omega) (by omega)) ?_
        refine Gv (V_add_u8 rfl rfl rfl (by omega) (by omega)) ?_
        refine Ga ?_
        refine G_end (X_block (X_then (G_seq (G_seq (G_region ?_)))))
        refine Gm ?_
        refine Gm ?_
        refine Gv (V_conv_u8 rfl rfl (by omega) (by omega)) ?_
        refine Gv (V_geq rfl rfl rfl) ?_
        refine G_end (X_then ?_)
        refine G_cond_t rfl (decide_eq_true (by omega)) ?_
        refine G_seq (G_region ?_)
        refine Gv (V_iface rfl rfl rfl) ?_
        refine Ga ?_
        refine Ga ?_
        refine G_end (X_then (G_ret (X_then_ret (X_block_ret (X_then_ret (X_then_ret (X_block_ret (X_then_ret ?_))))))))
        refine G_leaveS (.nil _) (by exact (.cons (.tmp rfl) (.cons (.tmp rfl) (.nil)))) rfl ?_ ?_
        · exact hE99
        exact ⟨(by assumption), rfl⟩
      · refine G_seq ?_
        refine G_region ?_
        refine Gv (V_lss rfl rfl rfl) ?_
        refine G_end (X_then (G_seq ?_))
        refine G_cond_t rfl (decide_eq_true (by omega)) ?_
        refine G_skip (X_then (G_seq (G_block (G_seq (G_region ?_)))))
        refine Gv (V_idxAddr rfl rfl rfl (SlE.rd (by assumption)) (by omega) (by omega)) ?_
        refine Gv (V_loadS rfl rfl (SlE.rd (by assumption)) (by assumption) (by simp)) ?_
        refine Ga ?_
        refine G_end (X_then (G_seq (G_region ?_)))
        refine Ga ?_
        refine G_end (X_then (G_seq (G_block (G_seq (G_region ?_)))))
        refine Gm ?_
        refine Gv (V_eql rfl rfl rfl) ?_
        refine Gm ?_
        apply G_joinAnd 2 109 111 rfl
        · intro H1
          dsimp only [List.take]
          simp only [Bool.and_eq_true, Bool.or_eq_true, Bool.not_eq_true', Bool.not_eq_false', Bool.and_eq_false_iff, Bool.or_eq_false_iff, Bool.not_not, decide_eq_true_eq, decide_eq_false_iff_not, ne_eq, Decidable.not_not, Bool.decide_eq_true] at H1
          refine Gy (V_move rfl rfl) ?_
          refine Gv (V_pick_t rfl rfl rfl) ?_
          refine G_end ?_
          exact JQ_end 2 rfl rfl (by kernel_rfl)
        · intro H2
          dsimp only [List.take]
          simp only [Bool.and_eq_true, Bool.or_eq_true, Bool.not_eq_true', Bool.not_eq_false', Bool.and_eq_false_iff, Bool.or_eq_false_iff, Bool.not_not, decide_eq_true_eq, decide_eq_false_iff_not, ne_eq, Decidable.not_not, Bool.decide_eq_true] at H2
          refine Gn ?_
          refine Gv (V_pick_f rfl rfl rfl) ?_
          refine G_end ?_
          exact JQ_end 2 rfl rfl (by kernel_rfl)
        dsimp only [List.drop]
        refine Ga ?_
        refine G_end (X_then ?_)
        refine G_cond_f rfl (by simp [*]; done) ?_
        refine G_seq (G_region ?_)
        refine Gm ?_
        refine Gv (V_leq rfl rfl rfl) ?_
        refine Gm ?_
        apply G_joinAnd 3 115 118 rfl
        · intro H3
          dsimp only [List.take]
          simp only [Bool.and_eq_true, Bool.or_eq_true, Bool.not_eq_true', Bool.not_eq_false', Bool.and_eq_false_iff, Bool.or_eq_false_iff, Bool.not_not, decide_eq_true_eq, decide_eq_false_iff_not, ne_eq, Decidable.not_not, Bool.decide_eq_true] at H3
          refine Gy (V_move rfl rfl) ?_
          refine Gy (V_leq rfl rfl rfl) ?_
          refine Gv (V_pick_t rfl rfl rfl) ?_
          refine G_end ?_
          exact JQ_end 3 rfl rfl (by kernel_rfl)
        · intro H4
          dsimp only [List.take]
          simp only [Bool.and_eq_true, Bool.or_eq_true, Bool.not_eq_true', Bool.not_eq_false', Bool.and_eq_false_iff, Bool.or_eq_false_iff, Bool.not_not, decide_eq_true_eq, decide_eq_false_iff_not, ne_eq, Decidable.not_not, Bool.decide_eq_true] at H4
          refine Gn ?_
          refine Gn ?_
          refine Gv (V_pick_f rfl rfl rfl) ?_
          refine G_end ?_
          exact JQ_end 3 rfl rfl (by kernel_rfl)
        dsimp only [List.drop]
        refine Ga ?_
        refine G_end (X_then ?_)
        refine G_cond rfl (fun H5 => ?_) (fun H5 => ?_)
        · simp only [Bool.and_eq_true, Bool.or_eq_true, Bool.not_eq_true', Bool.not_eq_false', Bool.and_eq_false_iff, Bool.or_eq_false_iff, Bool.not_not, decide_eq_true_eq, decide_eq_false_iff_not, ne_eq, Decidable.not_not, Bool.decide_eq_true] at H5
          (exfalso; omega)
        simp only [Bool.and_eq_true, Bool.or_eq_true, Bool.not_eq_true', Bool.not_eq_false', Bool.and_eq_false_iff, Bool.or_eq_false_iff, Bool.not_not, decide_eq_true_eq, decide_eq_false_iff_not, ne_eq, Decidable.not_not, Bool.decide_eq_true] at H5
        refine G_seq (G_region ?_)
        refine Gm ?_
        refine G_callv (k := 107) (.mk rfl rfl rfl rfl) rfl rfl (.none rfl) (lower_call _ _ _) ?_
        refine Gv (V_leq rfl rfl rfl) ?_
        refine Gm ?_
        apply G_joinAnd 4 125 129 rfl
        · intro H6
          dsimp only [List.take]
          simp only [Bool.and_eq_true, Bool.or_eq_true, Bool.not_eq_true', Bool.not_eq_false', Bool.and_eq_false_iff, Bool.or_eq_false_iff, Bool.not_not, decide_eq_true_eq, decide_eq_false_iff_not, ne_eq, Decidable.not_not, Bool.decide_eq_true] at H6
          refine Gy (V_move rfl rfl) ?_
          refine G_callv (k := 107) (.mk rfl rfl rfl rfl) rfl rfl (.yes rfl rfl rfl rfl) (lower_call _ _ _) ?_
          refine Gy (V_leq rfl rfl rfl) ?_
          refine Gv (V_pick_t rfl rfl rfl) ?_
          refine G_end ?_
          exact JQ_end 4 rfl rfl (by kernel_rfl)
        · intro H7
          dsimp only [List.take]
          simp only [Bool.and_eq_true, Bool.or_eq_true, Bool.not_eq_true', Bool.not_eq_false', Bool.and_eq_false_iff, Bool.or_eq_false_iff, Bool.not_not, decide_eq_true_eq, decide_eq_false_iff_not, ne_eq, Decidable.not_not, Bool.decide_eq_true] at H7
          refine Gn ?_
          refine Gn ?_
          refine Gn ?_
          refine Gv (V_pick_f rfl rfl rfl) ?_
          refine G_end ?_
          exact JQ_end 4 rfl rfl (by kernel_rfl)
        dsimp only [List.drop]
        refine Ga ?_
        refine G_end (X_then ?_)
        refine G_cond rfl (fun H8 => ?_) (fun H8 => ?_)
        · simp only [Bool.and_eq_true, Bool.or_eq_true, Bool.not_eq_true', Bool.not_eq_false', Bool.and_eq_false_iff, Bool.or_eq_false_iff, Bool.not_not, decide_eq_true_eq, decide_eq_false_iff_not, ne_eq, Decidable.not_not, Bool.decide_eq_true] at H8
          (exfalso; omega)
        simp only [Bool.and_eq_true, Bool.or_eq_true, Bool.not_eq_true', Bool.not_eq_false', Bool.and_eq_false_iff, Bool.or_eq_false_iff, Bool.not_not, decide_eq_true_eq, decide_eq_false_iff_not, ne_eq, Decidable.not_not, Bool.decide_eq_true] at H8
        refine G_seq (G_region ?_)
        refine Gv (V_iface rfl rfl rfl) ?_
        refine Ga ?_
        refine Ga ?_
        refine G_end (X_then (G_ret (X_block_ret (X_then_ret (X_block_ret (X_then_ret (X_then_ret (X_block_ret (X_then_ret ?_)))))))))
        refine G_leaveS (.nil _) (by exact (.cons (.tmp rfl) (.cons (.tmp rfl) (.nil)))) rfl ?_ ?_
        · exact hE99
        exact ⟨(by assumption), rfl⟩
  · have hf : UnumR (.tuple #[.int .u64 (n : Nat), .nilIface]) := ⟨⟨n, _, rfl, hn, .inl rfl⟩⟩
    refine G_seq (G_region ?_)
    refine Gv (V_lss rfl rfl rfl) ?_
    refine G_end (X_then (G_seq ?_))
    refine G_cond_f rfl (decide_eq_false (by omega)) ?_
    refine G_exit (X_then_exit (X_then_exit (X_block_hit (X_then (G_seq (G_seq (G_region ?_)))))))
    refine Gm ?_
    refine Gm ?_
    refine Gn ?_
    refine Gn ?_
    refine Gn ?_
    refine Gv (V_pick_f rfl rfl rfl) ?_
    refine G_end (X_then ?_)
    refine G_cond_f rfl rfl ?_
    refine G_skip (X_then (G_seq (G_region ?_)))
    refine Gm ?_
    refine Ga ?_
    refine Ga ?_
    refine G_end (X_then (G_ret ?_))
    refine G_leaveS (.nil _) (by exact (.cons (.tmp rfl) (.cons (.tmp rfl) (.nil)))) rfl ?_ ?_
    · exact hE99
    exact ⟨(by assumption), rfl⟩
theorem ParseUint0_call : CallS Tryz.prog 96 #[.string (S []), .int .i64 10, .int .i64 0] E L (fun r E' L' => UnumR r ∧ L' = L) := by
  have hsyn : UnumR (.tuple #[.int .u64 0, .iface 111 (.int .i64 2)]) := ⟨⟨0, _, rfl, by omega, .inr ⟨2, .inr rfl, rfl⟩⟩⟩
  refine CallS.intro (l := [_, _, _]) _ Tryz.func96 rfl Tryz.ntmps96 rfl ?_
  refine G_seq (G_region ?_)
  refine Ga ?_
  refine Ga ?_
  refine G_end (X_then (G_seq (G_seq (G_region ?_))))
  refine Gm ?_
  refine Gv (V_seql rfl rfl rfl) ?_
  refine G_end (X_then ?_)
  refine G_cond_t rfl (by kernel_rfl) ?_
  refine G_seq (G_region ?_)
  refine Gv (V_iface rfl rfl rfl) ?_
  refine Ga ?_
  refine Ga ?_
  refine G_end (X_then (G_ret (X_then_ret ?_)))
  refine G_leaveS (.nil _) (by exact (.cons (.tmp rfl) (.cons (.tmp rfl) (.nil)))) rfl ?_ ?_
  · exact (.refl _)
  exact ⟨(by assumption), rfl⟩
theorem ParseUintA_call (s : List UInt8) (hs : s.length ≤ 1000000) : CallS Tryz.prog 96 #[.string (S s), .int .i64 10, .int .i64 0] E L (fun r E' L' => UnumR r ∧ L' = L) := by
  by_cases h : s = []
  · rw [h]; exact ParseUint0_call E L
  · exact ParseUint_call E L s (by have := List.length_pos_iff.2 h; omega) hs
end
end Go.Proofs.YtaibabmladgldaaGreatDoor
namespace Go.Proofs.YtaibabmladgldaaGreatDoor
open Go.RowKit
section
variable {P : Program} {fs : List (Nat × Value)} {E : Env} {L : List Res} {o : Oper}
theorem run_eqInt {a : TypeId} {k : IntKind} {s1 : Nat} [ha : Ty P a (.int k) s1 false] (d : Nat) (w : World) (m n : Int) : (Op.equalIn (d + 1) a (.int k m) (.int k n)).run P w = .ok (decide (m = n)) w := by
  rw [Op.equalIn]
  simp only [Sem.run_bind, ha.run, Result.andThen]
  simp
  rfl
theorem run_eqII {t : TypeId} {sz : Nat} {ag : Bool} {ms : Array (String × TypeId)} [ht : Ty P t (.interface ms) sz ag] {a : TypeId} {k : IntKind} {s1 : Nat} [ha : Ty P a (.int k) s1 false] (hc : (P.info? a).map (·.comparable) = some true) (w : World) (m n : Int) : (Op.equal t (.iface a (.int k m)) (.iface a (.int k n))).run P w = .ok (decide (m = n)) w := by
  obtain ⟨i, hi, hci⟩ : ∃ i, P.info? a = some i ∧ i.comparable = true := by
    cases h : P.info? a with
    | none => rw [h] at hc; cases hc
    | some i => rw [h] at hc; exact ⟨i, rfl, by simpa using hc⟩
  have hti : (typeInfo a).run P w = .ok i w := by
    simp [typeInfo, hi]
  show (Op.equalIn (9998 + 1 + 1) t (.iface a (.int k m)) (.iface a (.int k n))).run P w = _
  rw [Op.equalIn]
  simp only [Sem.run_bind, ht.run, Result.andThen, ne_eq, not_true_eq_false, if_false, hti, hci, Bool.not_true, Bool.false_eq_true]
  exact run_eqInt 9998 w m n
theorem V_neII {t u : TypeId} {sz : Nat} {ag : Bool} {ms : Array (String × TypeId)} [ht : Ty P t (.interface ms) sz ag] {x y : Operand} {a : TypeId} {k : IntKind} {s1 : Nat} [ha : Ty P a (.int k) s1 false] {m n : Int} (ho : o.op = .binOp .neq t x y u) (hx : ev fs x = some (.iface a (.int k m))) (hy : ev fs y = some (.iface a (.int k n))) (hc : (P.info? a).map (·.comparable) = some true) : Val P o fs E L (.bool (!decide (m = n))) :=
  V_bin ho hx hy fun w => ⟨by simp [eqGuard], by simp only [binOp, Sem.run_bind, run_eqII (ht := ht) (ha := ha) hc, Result.andThen]; rfl⟩
theorem V_eqII {t u : TypeId} {sz : Nat} {ag : Bool} {ms : Array (String × TypeId)} [ht : Ty P t (.interface ms) sz ag] {x y : Operand} {a : TypeId} {k : IntKind} {s1 : Nat} [ha : Ty P a (.int k) s1 false] {m n : Int} (ho : o.op = .binOp .eql t x y u) (hx : ev fs x = some (.iface a (.int k m))) (hy : ev fs y = some (.iface a (.int k n))) (hc : (P.info? a).map (·.comparable) = some true) : Val P o fs E L (.bool (decide (m = n))) :=
  V_bin ho hx hy fun w => ⟨by simp [eqGuard], by simp only [binOp, Sem.run_bind, run_eqII (ht := ht) (ha := ha) hc, Result.andThen]; rfl⟩
end
end Go.Proofs.YtaibabmladgldaaGreatDoor
