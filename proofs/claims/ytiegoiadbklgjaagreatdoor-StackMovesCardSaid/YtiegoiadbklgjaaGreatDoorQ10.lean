/-
  Rules and contracts, packed: S14, S15, D19, D20, D1, D2, D3, D4, D5, D6, D7, D8, D9, D21, S16, S20.
-/
import Derived.Test.YtiegoiadbklgjaaGreatDoorQ9
set_option maxHeartbeats 1000000
set_option linter.unusedSimpArgs false
set_option linter.unusedVariables false
set_option maxHeartbeats 2000000
set_option maxRecDepth 20000
namespace Go.Proofs.YtiegoiadbklgjaaGreatDoor
open Go.RowKit
/-! The law's awake. -/
section
variable (E : Env) (L : List Res)
theorem awaits25_call (kd sy : Int) (p : Option Addr) (n c : Nat) (xs : List Int) (hx : SlE E 1 p n (i64s xs)) (hn : n ≤ 20) (h0 : decide (awaitM shG (prs xs) = (kd, sy, 0)) = true) :
    CallS Tryz.prog 31 #[.int .i64 kd, .int .i64 sy, .slice p n c] E L (fun r E' L' => r = .bool true ∧ L' = L) := by
  have h := of_decide_eq_true h0
  refine CallS.intro (l := [_, _, _]) _ Tryz.func31 rfl Tryz.ntmps31 rfl ?_
  refine G_seq (G_region ?_)
  refine Ga ?_
  refine G_end (X_then (G_seq (G_region ?_)))
  refine G_call (k := 27) (.mk rfl rfl rfl rfl) rfl rfl (.none rfl) (shown25_call' _ _) ?_
  rintro gv E1 L1 hE1 ⟨hg, rfl⟩
  replace hx := hx.mono hE1
  have hg0 := hg
  obtain ⟨gp, gc, np, nc, pp, pc, rfl, _⟩ := hg0
  refine Gm ?_
  refine G_call (k := 28) (.mk rfl rfl rfl rfl) rfl rfl (.none rfl) (of_call _ _ p n c xs hx (by omega)) ?_
  rintro x2 E2 L2 hE2 ⟨a, k, c', rfl, hs, hc, rfl⟩
  replace hg := hg.mono hE2
  have hk := hs.nSp
  have hkl := prs_len xs
  have hxl := hx.nI
  have ha := fun L0 => Awaits_call E2 L0 _ shG hg shG_light a k c' (prs xs) hs (by omega)
  rw [h] at ha
  skip
  refine G_callv (k := 13) (.mk rfl rfl rfl rfl) rfl rfl (.none rfl) (ha _) ?_
  refine Gm ?_
  refine Gv (V_extract rfl rfl rfl) ?_
  refine Gv (V_extract rfl rfl rfl) ?_
  refine Gv (V_extract rfl rfl rfl) ?_
  refine Ga ?_
  refine Ga ?_
  refine Ga ?_
  refine G_end (X_then (G_seq (G_region ?_)))
  refine Gm ?_
  refine Gv (V_eql rfl rfl rfl) ?_
  refine Gm ?_
  refine G.bool_t 20 rfl (by simp [*]; done) ?_
  refine Gy (V_move rfl rfl) ?_
  refine Gy (V_move rfl rfl) ?_
  refine Gy (V_eql rfl rfl rfl) ?_
  refine Gv (V_pick_t rfl rfl rfl) ?_
  refine Gm ?_
  refine G.bool_t 25 rfl (decide_eq_true (by omega)) ?_
  refine Gy (V_move rfl rfl) ?_
  refine Gy (V_move rfl rfl) ?_
  refine Gy (V_eql rfl rfl rfl) ?_
  refine Gv (V_pick_t rfl rfl rfl) ?_
  refine Ga ?_
  refine G_end (X_then (G_ret ?_))
  refine G_leaveS (.nil _) (by exact (.cons (.tmp rfl) (.nil))) rfl ?_ ?_
  · exact (hE1.trans hE2)
  exact ⟨(by (simp (discharger := omega) only [resVal, if_pos, if_neg]; first | done | rfl)), (by rfl)⟩
theorem checks25_call (w : Int) (p : Option Addr) (n c : Nat) (xs : List Int) (hx : SlE E 1 p n (i64s xs)) (hn : n ≤ 20) (h0 : decide (chkS shG (prs xs) = w) = true) :
    CallS Tryz.prog 32 #[.int .i64 w, .slice p n c] E L (fun r E' L' => r = .bool true ∧ L' = L) := by
  have h := of_decide_eq_true h0
  refine CallS.intro (l := [_, _]) _ Tryz.func32 rfl Tryz.ntmps32 rfl ?_
  refine G_seq (G_region ?_)
  refine Ga ?_
  refine G_end (X_then (G_seq (G_region ?_)))
  refine G_call (k := 27) (.mk rfl rfl rfl rfl) rfl rfl (.none rfl) (shown25_call' _ _) ?_
  rintro gv E1 L1 hE1 ⟨hg, rfl⟩
  replace hx := hx.mono hE1
  have hg0 := hg
  obtain ⟨gp, gc, np, nc, pp, pc, rfl, _⟩ := hg0
  refine Gm ?_
  refine G_call (k := 28) (.mk rfl rfl rfl rfl) rfl rfl (.none rfl) (of_call _ _ p n c xs hx (by omega)) ?_
  rintro x2 E2 L2 hE2 ⟨a, k, c', rfl, hs, hc, rfl⟩
  replace hg := hg.mono hE2
  have hk := hs.nSp
  have hkl := prs_len xs
  have hxl := hx.nI
  have ha := fun L0 => SCheck_call E2 L0 _ shG hg shG_light a k c' (prs xs) hs (by omega)
  rw [h] at ha
  skip
  refine G_callv (k := 15) (.mk rfl rfl rfl rfl) rfl rfl (.none rfl) (ha _) ?_
  refine Gm ?_
  refine Gv (V_eql rfl rfl rfl) ?_
  refine Ga ?_
  refine G_end (X_then (G_ret ?_))
  refine G_leaveS (.nil _) (by exact (.cons (.tmp rfl) (.nil))) rfl ?_ ?_
  · exact (hE1.trans hE2)
  exact ⟨(by (simp (discharger := omega) only [resVal, if_pos, if_neg]; first | done | rfl)), (by rfl)⟩
theorem push_ex (gv : Value) (hg : GrE E gv shG) (p : Option Addr) (n c : Nat) (hs : SlE E 2 p n (spC (prs [0, 1]))) (hc : n ≤ c) : CallS Tryz.prog 17 #[gv, .slice p n c, .int .i64 2] E L (fun r E' L' => ∃ a n' c', r = .tuple #[.slice a n' c', .int .i64 0] ∧ SlE E' 2 a n' (spC [(0, 2), (2, 0)]) ∧ n' ≤ 1000 ∧ L' = L) := by
  have hn := hs.nSp
  have hp : pushM shG (prs [0, 1]) 2 = ([(0, 2), (2, 0)], 0) := by decide +kernel
  have hl : (prs [0, 1]).length = 1 := rfl
  refine CallS.mono (SPush_call E L gv shG hg shG_light p n c (prs [0, 1]) hs (by omega) hc 2) ?_
  rintro r E' L' _ ⟨⟨a, n', c', h1, h2, _, h4⟩, h5⟩
  rw [hp] at h1 h2
  exact ⟨a, n', c', h1, h2, h4, h5⟩
theorem text_ex (p : Option Addr) (n c : Nat) (hs : SlE E 2 p n (spC (prs [0, 2, 2, 1]))) : CallS Tryz.prog 37 #[.slice p n c] E L (fun r E' L' => r = .tuple #[.string (S [48, 58, 50, 32, 50, 58, 49]), .int .i64 0] ∧ L' = L) := by
  have hn := hs.nSp
  have hl : (prs [0, 2, 2, 1]).length = 2 := rfl
  have hp : txtM (prs [0, 2, 2, 1]) = ([48, 58, 50, 32, 50, 58, 49], 0) := by decide +kernel
  refine CallS.mono (SText_call E L (fun x => 0 ≤ x ∧ x < 10) (fun E0 x _ h L0 => Itoa1_call E0 L0 x h) p n c (prs [0, 2, 2, 1]) hs (by omega) (fun s h _ => ?_)) ?_
  · simp only [prs, List.mem_cons, List.not_mem_nil, or_false] at h
    rcases h with rfl | rfl <;> decide
  · rintro r E' L' _ ⟨h1, h2⟩
    rw [hp] at h1
    exact ⟨h1, h2⟩
end
end Go.Proofs.YtiegoiadbklgjaaGreatDoor
set_option linter.unusedSimpArgs false
set_option linter.unusedVariables false
set_option maxHeartbeats 2000000
set_option maxRecDepth 20000
namespace Go.Proofs.YtiegoiadbklgjaaGreatDoor
open Go.RowKit
/-! The law's awake. -/
section
variable (E : Env) (L : List Res)
theorem awake25_call : CallS Tryz.prog 10 #[] E L (fun r E' L' => r = .bool true ∧ L' = L) := by
  refine CallS.intro (l := []) _ Tryz.func10 rfl Tryz.ntmps10 rfl ?_
  refine G_seq (G_region ?_)
  refine Ga ?_
  refine G_end (X_then (G_seq (G_region ?_)))
  refine G_call (k := 27) (.mk rfl rfl rfl rfl) rfl rfl (.none rfl) (shown25_call' _ _) ?_
  rintro r1 E2 L3 hE4 ⟨Z5, rfl⟩
  (refine G_litZ rfl rfl (by decide) (by simp [fillS, zeros, setLs, setL, Value.cells, List.range, List.range.loop]; rfl) (by rfl) rfl rfl (.none rfl) ?_; intro b7 E7 hE7 hs7)
  replace Z5 := Z5.mono hE7
  refine G_call (k := 28) (.mk rfl rfl rfl rfl) rfl rfl (.none rfl) (of_call _ _ _ _ _ _ (by exact SlE.toI (by assumption) rfl) (by omega)) ?_
  rintro r6 E8 L9 hE10 ⟨z11, ⟨z12, ⟨z13, ⟨rfl, ⟨Z14, ⟨Z15, rfl⟩⟩⟩⟩⟩⟩
  replace hs7 := hs7.mono hE10
  replace Z5 := Z5.mono hE10
  refine G_call (k := 17) (.mk rfl rfl rfl rfl) rfl rfl (.none rfl) (push_ex _ _ _ (by assumption) _ _ _ (by assumption) (by assumption)) ?_
  rintro r16 E17 L18 hE19 ⟨z20, ⟨z21, ⟨z22, ⟨rfl, ⟨Z23, ⟨Z24, rfl⟩⟩⟩⟩⟩⟩
  replace Z14 := Z14.mono hE19
  replace hs7 := hs7.mono hE19
  replace Z5 := Z5.mono hE19
  refine Gm ?_
  refine Gv (V_extract rfl rfl rfl) ?_
  refine Gv (V_extract rfl rfl rfl) ?_
  refine Ga ?_
  refine Ga ?_
  refine G_end (X_then (G_seq (G_region ?_)))
  (refine G_litZ rfl rfl (by decide) (by simp [fillS, zeros, setLs, setL, Value.cells, List.range, List.range.loop]; rfl) (by rfl) rfl rfl (.none rfl) ?_; intro b13 E13 hE13 hs13)
  replace Z23 := Z23.mono hE13
  replace Z14 := Z14.mono hE13
  replace hs7 := hs7.mono hE13
  replace Z5 := Z5.mono hE13
  refine G_call (k := 28) (.mk rfl rfl rfl rfl) rfl rfl (.none rfl) (of_call _ _ _ _ _ _ (by exact SlE.toI (by assumption) rfl) (by omega)) ?_
  rintro r25 E26 L27 hE28 ⟨z29, ⟨z30, ⟨z31, ⟨rfl, ⟨Z32, ⟨Z33, rfl⟩⟩⟩⟩⟩⟩
  replace hs13 := hs13.mono hE28
  replace Z23 := Z23.mono hE28
  replace Z14 := Z14.mono hE28
  replace hs7 := hs7.mono hE28
  replace Z5 := Z5.mono hE28
  refine G_call (k := 37) (.mk rfl rfl rfl rfl) rfl rfl (.none rfl) (text_ex _ _ _ _ _ (by assumption)) ?_
  rintro r34 E35 L36 hE37 ⟨rfl, rfl⟩
  replace Z32 := Z32.mono hE37
  replace hs13 := hs13.mono hE37
  replace Z23 := Z23.mono hE37
  replace Z14 := Z14.mono hE37
  replace hs7 := hs7.mono hE37
  replace Z5 := Z5.mono hE37
  refine Gm ?_
  refine Gv (V_extract rfl rfl rfl) ?_
  refine Gv (V_extract rfl rfl rfl) ?_
  refine Ga ?_
  refine Ga ?_
  refine G_end (X_then (G_seq (G_region ?_)))
  (refine G_litZ rfl rfl (by decide) (by simp [fillS, zeros, setLs, setL, Value.cells, List.range, List.range.loop]; rfl) (by rfl) rfl rfl (.none rfl) ?_; intro b18 E18 hE18 hs18)
  replace Z32 := Z32.mono hE18
  replace hs13 := hs13.mono hE18
  replace Z23 := Z23.mono hE18
  replace Z14 := Z14.mono hE18
  replace hs7 := hs7.mono hE18
  replace Z5 := Z5.mono hE18
  refine G_call (k := 31) (.mk rfl rfl rfl rfl) rfl rfl (.none rfl) (awaits25_call _ _ _ _ _ _ _ _ (by exact SlE.toI (by assumption) rfl) (by omega) (by exact (by kernel_rfl : (_ : Bool) = _))) ?_
  rintro r38 E39 L40 hE41 ⟨rfl, rfl⟩
  replace hs18 := hs18.mono hE41
  replace Z32 := Z32.mono hE41
  replace hs13 := hs13.mono hE41
  replace Z23 := Z23.mono hE41
  replace Z14 := Z14.mono hE41
  replace hs7 := hs7.mono hE41
  replace Z5 := Z5.mono hE41
  refine Gm ?_
  (refine G_litZ rfl rfl (by decide) (by simp [fillS, zeros, setLs, setL, Value.cells, List.range, List.range.loop]; rfl) (by rfl) rfl rfl (.yes rfl rfl rfl rfl) ?_; intro b21 E21 hE21 hs21)
  replace hs18 := hs18.mono hE21
  replace Z32 := Z32.mono hE21
  replace hs13 := hs13.mono hE21
  replace Z23 := Z23.mono hE21
  replace Z14 := Z14.mono hE21
  replace hs7 := hs7.mono hE21
  replace Z5 := Z5.mono hE21
  refine G_call (k := 31) (.mk rfl rfl rfl rfl) rfl rfl (.yes rfl rfl rfl rfl) (awaits25_call _ _ _ _ _ _ _ _ (by exact SlE.toI (by assumption) rfl) (by omega) (by exact (by kernel_rfl : (_ : Bool) = _))) ?_
  rintro r42 E43 L44 hE45 ⟨rfl, rfl⟩
  replace hs21 := hs21.mono hE45
  replace hs18 := hs18.mono hE45
  replace Z32 := Z32.mono hE45
  replace hs13 := hs13.mono hE45
  replace Z23 := Z23.mono hE45
  replace Z14 := Z14.mono hE45
  replace hs7 := hs7.mono hE45
  replace Z5 := Z5.mono hE45
  refine Gv (V_pick_t rfl rfl rfl) ?_
  refine Gm ?_
  (refine G_litZ rfl rfl (by decide) (by simp [fillS, zeros, setLs, setL, Value.cells, List.range, List.range.loop]; rfl) (by rfl) rfl rfl (.yes rfl rfl rfl rfl) ?_; intro b25 E25 hE25 hs25)
  replace hs21 := hs21.mono hE25
  replace hs18 := hs18.mono hE25
  replace Z32 := Z32.mono hE25
  replace hs13 := hs13.mono hE25
  replace Z23 := Z23.mono hE25
  replace Z14 := Z14.mono hE25
  replace hs7 := hs7.mono hE25
  replace Z5 := Z5.mono hE25
  refine G_call (k := 31) (.mk rfl rfl rfl rfl) rfl rfl (.yes rfl rfl rfl rfl) (awaits25_call _ _ _ _ _ _ _ _ (by exact SlE.toI (by assumption) rfl) (by omega) (by exact (by kernel_rfl : (_ : Bool) = _))) ?_
  rintro r46 E47 L48 hE49 ⟨rfl, rfl⟩
  replace hs25 := hs25.mono hE49
  replace hs21 := hs21.mono hE49
  replace hs18 := hs18.mono hE49
  replace Z32 := Z32.mono hE49
  replace hs13 := hs13.mono hE49
  replace Z23 := Z23.mono hE49
  replace Z14 := Z14.mono hE49
  replace hs7 := hs7.mono hE49
  replace Z5 := Z5.mono hE49
  refine Gv (V_pick_t rfl rfl rfl) ?_
  refine Gm ?_
  refine Gy (V_move rfl rfl) ?_
  refine Gy (V_eql rfl rfl rfl) ?_
  refine Gv (V_pick_t rfl rfl rfl) ?_
  refine Gm ?_
  refine G.bool_t 32 rfl (by kernel_rfl) ?_
  refine Gy (V_move rfl rfl) ?_
  (refine G_litZ rfl rfl (by decide) (by simp [fillS, zeros, setLs, setL, Value.cells, List.range, List.range.loop]; rfl) (by rfl) rfl rfl (.yes rfl rfl rfl rfl) ?_; intro b34 E34 hE34 hs34)
  replace hs25 := hs25.mono hE34
  replace hs21 := hs21.mono hE34
  replace hs18 := hs18.mono hE34
  replace Z32 := Z32.mono hE34
  replace hs13 := hs13.mono hE34
  replace Z23 := Z23.mono hE34
  replace Z14 := Z14.mono hE34
  replace hs7 := hs7.mono hE34
  replace Z5 := Z5.mono hE34
  refine G_call (k := 28) (.mk rfl rfl rfl rfl) rfl rfl (.yes rfl rfl rfl rfl) (of_call _ _ _ _ _ _ (by exact SlE.toI (by assumption) rfl) (by omega)) ?_
  rintro r50 E51 L52 hE53 ⟨z54, ⟨z55, ⟨z56, ⟨rfl, ⟨Z57, ⟨Z58, rfl⟩⟩⟩⟩⟩⟩
  replace hs34 := hs34.mono hE53
  replace hs25 := hs25.mono hE53
  replace hs21 := hs21.mono hE53
  replace hs18 := hs18.mono hE53
  replace Z32 := Z32.mono hE53
  replace hs13 := hs13.mono hE53
  replace Z23 := Z23.mono hE53
  replace Z14 := Z14.mono hE53
  replace hs7 := hs7.mono hE53
  replace Z5 := Z5.mono hE53
  have g1 : SlE E51 2 z54 z55 (spC (prs [0, 2, 2, 0])) := by assumption
  have g2 := g1.nSp
  have g3 : (prs [0, 2, 2, 0]).length = 2 := rfl
  refine G_callv (k := 19) (.mk rfl rfl rfl rfl) rfl rfl (.yes rfl rfl rfl rfl) (Same25_call _ _ _ _ _ _ _ _ _ _ (by assumption) (by assumption) (by omega) (by omega)) ?_
  refine Gv (V_pick_t rfl rfl rfl) ?_
  refine Gm ?_
  refine G.bool_t 38 rfl (by kernel_rfl) ?_
  refine Gy (V_move rfl rfl) ?_
  refine Gy (V_eql rfl rfl rfl) ?_
  refine Gv (V_pick_t rfl rfl rfl) ?_
  refine Gm ?_
  refine G.bool_t 42 rfl (by kernel_rfl) ?_
  refine Gy (V_move rfl rfl) ?_
  refine Gy (V_seql rfl rfl rfl) ?_
  refine Gv (V_pick_t rfl rfl rfl) ?_
  refine Gm ?_
  refine G.bool_t 46 rfl (by kernel_rfl) ?_
  (refine G_litZ rfl rfl (by decide) (by simp [fillS, zeros, setLs, setL, Value.cells, List.range, List.range.loop]; rfl) (by rfl) rfl rfl (.yes rfl rfl rfl rfl) ?_; intro b47 E47 hE47 hs47)
  replace Z57 := Z57.mono hE47
  replace hs34 := hs34.mono hE47
  replace hs25 := hs25.mono hE47
  replace hs21 := hs21.mono hE47
  replace hs18 := hs18.mono hE47
  replace Z32 := Z32.mono hE47
  replace hs13 := hs13.mono hE47
  replace Z23 := Z23.mono hE47
  replace Z14 := Z14.mono hE47
  replace hs7 := hs7.mono hE47
  replace Z5 := Z5.mono hE47
  replace g1 := g1.mono hE47
  refine G_call (k := 32) (.mk rfl rfl rfl rfl) rfl rfl (.yes rfl rfl rfl rfl) (checks25_call _ _ _ _ _ _ _ (by exact SlE.toI (by assumption) rfl) (by omega) (by exact (by kernel_rfl : (_ : Bool) = _))) ?_
  rintro r2 E3 L4 hE5 ⟨rfl, rfl⟩
  replace hs47 := hs47.mono hE5
  replace Z57 := Z57.mono hE5
  replace hs34 := hs34.mono hE5
  replace hs25 := hs25.mono hE5
  replace hs21 := hs21.mono hE5
  replace hs18 := hs18.mono hE5
  replace Z32 := Z32.mono hE5
  replace hs13 := hs13.mono hE5
  replace Z23 := Z23.mono hE5
  replace Z14 := Z14.mono hE5
  replace hs7 := hs7.mono hE5
  replace Z5 := Z5.mono hE5
  replace g1 := g1.mono hE5
  refine Gv (V_pick_t rfl rfl rfl) ?_
  refine Ga ?_
  refine G_end (X_then (G_ret ?_))
  refine G_leaveS (.nil _) (by exact (.cons (.tmp rfl) (.nil))) rfl ?_ ?_
  · exact ((((((((((((((((hE4.trans hE7).trans hE10).trans hE19).trans hE13).trans hE28).trans hE37).trans hE18).trans hE41).trans hE21).trans hE45).trans hE25).trans hE49).trans hE34).trans hE53).trans hE47).trans hE5)
  exact ⟨(by kernel_rfl), rfl⟩
end
end Go.Proofs.YtiegoiadbklgjaaGreatDoor
set_option linter.unusedSimpArgs false
set_option linter.unusedVariables false
set_option maxHeartbeats 2000000
set_option maxRecDepth 20000
namespace Go.Proofs.YtiegoiadbklgjaaGreatDoor
open Go.RowKit
section
variable (E : Env) (L : List Res)
theorem OwnTexts_call' (p : Option Addr) (c : Nat) (l : List (List UInt8)) (hl : SlE E 1 p l.length (strs l)) (hn : l.length ≤ 1000000000) :
    CallS Tryz.prog 40 #[.slice p l.length c] E L (fun r E' L' => ∃ a c', r = .slice a l.length c' ∧ SlE E' 1 a l.length (strs l) ∧ l.length ≤ c' ∧ L' = L) := by
  refine CallS.intro (l := [.slice p l.length c]) _ Tryz.func40 rfl Tryz.ntmps40 rfl ?_
  refine G_seq (G_region ?_)
  refine Ga ?_
  refine G_end (X_then (G_seq (G_region ?_)))
  (refine G_lit0z rfl rfl rfl (.none rfl) ?_; intro b3)
  refine Gm ?_
  refine G_append rfl rfl rfl (SlE.rd hl) (strs_one l) (by omega) (by omega) rfl rfl (.none rfl) (fun _ _ => .head _ _ _) ?_
  intro a5 c5
  refine G.freezeSl (.head _ _) ?_
  intro E1 hE1 hal hc
  simp only [Nat.zero_add, List.nil_append] at hal hc ⊢
  refine Ga ?_
  refine G_end (X_then (G_ret ?_))
  refine G_leaveS (.nil _) (by exact (.cons (.tmp rfl) (.nil))) rfl ?_ ?_
  · exact hE1
  exact ⟨_, ⟨_, ⟨rfl, ⟨(by assumption), ⟨(by assumption), rfl⟩⟩⟩⟩⟩
theorem OwnGrammar_call (gv : Value) (g : Gr) (hg : GrE E gv g) (hl : Light g) : CallS Tryz.prog 11 #[gv] E L (fun r E' L' => GrE E' r g ∧ L' = L) := by
  obtain ⟨tp, tc, np, nc, pp, pc, rfl, ht, hn, ⟨rows, hrows, hps, hre⟩, k1, k2, k3⟩ := hg
  have hlen : g.prods.length = rows.length := by rw [← hrows]; simp
  have q1 := hl.t; have q2 := hl.n; have q3 := hl.p
  refine CallS.intro (l := [_]) _ Tryz.func11 rfl Tryz.ntmps11 rfl ?_
  refine G_seq (G_region ?_)
  (refine G_boxA rfl rfl rfl rfl (.none rfl) ?_; intro b1)
  (refine G_alloc rfl rfl rfl (.none rfl) ?_; intro b2)
  refine G_end (X_then (G_seq (G_region ?_)))
  refine Gv (V_fieldAddr rfl rfl (by decide)) ?_
  refine Gv (V_load rfl rfl (Cell.own (.tail _ (.head _)) rfl)) ?_
  refine G_call (k := 40) (.mk rfl rfl rfl rfl) rfl rfl (.none rfl) (OwnTexts_call' _ _ _ _ _ (by assumption) (by omega)) ?_
  rintro r1 E2 L3 hE4 ⟨z5, ⟨z6, ⟨rfl, ⟨Z7, ⟨Z8, rfl⟩⟩⟩⟩⟩
  replace ht := ht.mono hE4
  replace hn := hn.mono hE4
  replace hps := hps.mono hE4
  replace hre := hre.mono hE4
  refine Gv (V_fieldAddr rfl rfl (by decide)) ?_
  refine G_storeAt rfl rfl rfl rfl rfl rfl (.none rfl) (.tail _ (.head _ _ _)) (Nat.le_of_ble_eq_true rfl) (by simp only [putAll, Nat.zero_add, Nat.reduceAdd, List.setIfInBounds_toArray, List.set_cons_succ, List.set_cons_zero]; rfl) ?_
  refine G_end (X_then (G_seq (G_region ?_)))
  refine Gv (V_fieldAddr rfl rfl (by decide)) ?_
  refine Gv (V_load rfl rfl (Cell.own (.tail _ (.head _)) rfl)) ?_
  refine G_call (k := 40) (.mk rfl rfl rfl rfl) rfl rfl (.none rfl) (OwnTexts_call' _ _ _ _ _ (by assumption) (by omega)) ?_
  rintro r9 E10 L11 hE12 ⟨z13, ⟨z14, ⟨rfl, ⟨Z15, ⟨Z16, rfl⟩⟩⟩⟩⟩
  replace Z7 := Z7.mono hE12
  replace ht := ht.mono hE12
  replace hn := hn.mono hE12
  replace hps := hps.mono hE12
  replace hre := hre.mono hE12
  refine Gv (V_fieldAddr rfl rfl (by decide)) ?_
  refine G_storeAt rfl rfl rfl rfl rfl rfl (.none rfl) (.tail _ (.head _ _ _)) (Nat.le_of_ble_eq_true rfl) (by simp only [putAll, Nat.zero_add, Nat.reduceAdd, List.setIfInBounds_toArray, List.set_cons_succ, List.set_cons_zero]; rfl) ?_
  refine G_end (X_then (G_seq (G_region ?_)))
  refine Ga ?_
  refine G_end (X_then (G_seq (G_seq (G_region ?_))))
  refine Ga ?_
  refine G_end (X_then (G_block ?_))
  refine G.nilSl 56 2 ?_
  refine G_loop (α := Nat × Env × Option Addr × Nat × List Row) (fun x => [(1, .pointer (some ⟨b1, 0, none⟩)), (2, .pointer (some ⟨b2, 0, none⟩)), (3, .slice x.2.2.1 x.1 x.2.2.2.1), (4, .int .i64 x.1)]) (fun x => x.2.1)
    (fun x => .sl 56 2 x.2.2.1 x.1 x.2.2.2.1 (prows x.2.2.2.2) :: .blk b2 (.cells #[.int .i64 0, .slice none 0 0, .string ⟨#[]⟩, .slice none 0 0, .int .i64 0, .slice none 0 0] 25 (0, 0)) :: .blk b1 (.cells #[.int .i64 g.k, .slice z5 g.toks.length z6, .string (S g.sep), .slice z13 g.names.length z14, .int .i64 g.start, .slice pp g.prods.length pc] 25 (0, 0)) :: L)
    (fun x => E10.Le x.2.1 ∧ x.1 ≤ rows.length ∧ x.2.2.2.2.map (·.2.2) = (rows.take x.1).map (·.2.2) ∧ RowsE x.2.1 x.2.2.2.2) (fun x => rows.length - x.1) (0, E10, none, 0, [])
    ⟨.refl _, Nat.zero_le _, rfl, fun r hr => (by cases hr)⟩ ⟨rfl, rfl, rfl, rfl, trivial⟩ rfl rfl ?_
  rintro ⟨i, E, a, ca, rs⟩ ⟨hE, hi, hrs, hrE⟩
  simp only at hE hi hrs hrE ⊢
  replace hps := hps.mono hE
  replace hre := hre.mono hE
  have hrl : rs.length = i := by have := congrArg List.length hrs; simp at this; omega
  by_cases hlt : i < rows.length
  · have hg1 := List.getElem?_eq_getElem hlt
    have hyl := prows_left hg1
    have hyr := prows_right hg1
    have hre1 := hre.get hg1
    have hp : rows[i].2.2 ∈ g.prods := by rw [← hrows]; exact List.mem_map.2 ⟨rows[i], List.getElem_mem hlt, rfl⟩
    have h8 := hl.ps _ hp
    have htk : (rows.take (i + 1)).map (·.2.2) = (rows.take i).map (·.2.2) ++ [rows[i].2.2] := by rw [List.take_succ_eq_append_getElem hlt, List.map_append]; rfl
    have hrl2 := prows_len rs
    refine G_seq (G_seq (G_region ?_))
    refine Gm ?_
    refine Gv (V_fieldAddr rfl rfl (by decide)) ?_
    refine Gv (V_load rfl rfl (Cell.own (.tail _ (.tail _ (.head _))) rfl)) ?_
    refine Gv (V_lenS rfl rfl) ?_
    refine Gv (V_lss rfl rfl rfl) ?_
    refine G_end (X_then ?_)
    refine G_cond_t rfl (decide_eq_true (by omega)) ?_
    refine G_skip (X_then (G_seq (G_block ?_)))
    refine G_drawX 16 [(0, 0), (1, 0), (2, 1), (3, 0), (4, 1), (5, 0), (6, 1), (7, 0), (8, 1), (9, 0), (10, 1), (11, 0), (12, 1), (13, 3), (14, 0), (15, 2)] mixed (by kernel_rfl) ?_
    refine F_pure rfl (fun _ _ => V_move rfl rfl) rfl rfl (.none rfl) ?_
    refine F_pure rfl (fun _ _ => V_fieldAddr rfl rfl (by decide)) rfl rfl (.none rfl) ?_
    refine F_load rfl (.tail _ (.tail _ (.head _))) (V_load rfl rfl (Cell.own (.head _) rfl)) rfl rfl (.none rfl) ?_
    refine F_pure rfl (fun _ _ => V_move rfl rfl) rfl rfl (.none rfl) ?_
    refine F_loadE rfl (V_idxAddr rfl rfl rfl (SlE.rd (by assumption)) (by omega) (by omega)) rfl rfl (.none rfl) ?_
    refine F_pure rfl (fun _ _ => V_fieldAddrX rfl rfl (by assumption) (by omega) (by decide)) rfl rfl (.none rfl) ?_
    refine F_loadE rfl (V_loadS rfl rfl (SlE.rd (by assumption)) hyl (by simp)) rfl rfl (.none rfl) ?_
    refine F_pure rfl (fun _ _ => V_fieldAddr rfl rfl (by decide)) rfl rfl (.none rfl) ?_
    refine F_load rfl (.tail _ (.tail _ (.head _))) (V_load rfl rfl (Cell.own (.head _) rfl)) rfl rfl (.none rfl) ?_
    refine F_pure rfl (fun _ _ => V_move rfl rfl) rfl rfl (.none rfl) ?_
    refine F_loadE rfl (V_idxAddr rfl rfl rfl (SlE.rd (by assumption)) (by omega) (by omega)) rfl rfl (.none rfl) ?_
    refine F_pure rfl (fun _ _ => V_fieldAddrX rfl rfl (by assumption) (by omega) (by decide)) rfl rfl (.none rfl) ?_
    refine F_loadE rfl (V_loadS rfl rfl (SlE.rd (by assumption)) (by assumption) (by simp)) rfl rfl (.none rfl) ?_
    apply F_call (k := 41) rfl (.mk rfl rfl rfl rfl) rfl rfl (.none rfl)
    · (intro L0; refine CallS.mono (OwnInts_call _ _ _ _ _ (by assumption) (by omega)) ?_; exact fun _ _ _ _ h => h)
    · (rintro L0 r E' L' ⟨z1, ⟨z2, ⟨rfl, ⟨Z3, rfl⟩⟩⟩⟩; exact ⟨rfl, ⟨_, ⟨_, ⟨rfl, ⟨(by assumption), rfl⟩⟩⟩⟩⟩)
    rintro r4 E5 hE6 ⟨z7, ⟨z8, ⟨rfl, ⟨Z9, _⟩⟩⟩⟩
    replace hrE := hrE.mono hE6
    replace hps := hps.mono hE6
    replace hre := hre.mono hE6
    replace hre1 := hre1.mono hE6
    refine F_pure rfl (fun _ _ => V_build rfl rfl (by simp [fillV, setLs, setL, Value.cells]; rfl)) rfl rfl (.none rfl) ?_
    (refine F_litZ rfl rfl rfl (by decide) (by simp [fillS, zeros, setLs, setL, Value.cells, List.range, List.range.loop]; rfl) (by rfl) rfl rfl (.none rfl) ?_; intro b35 E35 hE35 hs35)
    replace Z9 := Z9.mono hE35
    replace hrE := hrE.mono hE35
    replace hps := hps.mono hE35
    replace hre := hre.mono hE35
    replace hre1 := hre1.mono hE35
    (refine F_end (.nil _) ?_; dsimp only [List.drop])
    (refine G_append rfl rfl rfl (SlE.rd (by assumption)) (by simp [Value.oneCell']) (by omega) (by omega) rfl rfl (.none rfl) (fun _ _ => (.head _ _ _)) ?_; intro a36 c36)
    refine Ga ?_
    refine G_end (X_block (X_then (G_region ?_)))
    refine Gm ?_
    refine Gv (V_add_i64 rfl rfl rfl (by omega) (by omega)) ?_
    refine Ga ?_
    refine G_end (X_then ?_)
    have hap := prows_append rs [(z7, z8, rows[i].2.2)]
    refine G_again (i + 1, E35, a36, c36, rs ++ [(z7, z8, rows[i].2.2)]) ⟨(hE.trans hE6).trans hE35, hlt, by rw [List.map_append, hrs, htk]; rfl, ?_⟩ (by simp only; omega) ⟨rfl, rfl, rfl, rfl, trivial⟩ rfl (by rw [hap]; rfl)
    intro r hr
    rcases List.mem_append.1 hr with h | h
    · exact hrE r h
    · rw [List.mem_singleton.1 h]; assumption
  · refine G.freezeSl (.head _ _) ?_
    intro E1 hE1 hal hc
    have hi2 : i = rows.length := by omega
    have hfin : GrE E1 (.agg #[.int .i64 g.k, .slice z5 g.toks.length z6, .string (S g.sep), .slice z13 g.names.length z14, .int .i64 g.start, .slice a i ca]) g := by
      have := GrE.mk (E := E1) (g := g) (pp := a) (pc := ca) ((Z7.mono hE).mono hE1) ((Z15.mono hE).mono hE1) ⟨rs, by rw [hrs, hi2, List.take_length, hrows], by rw [hlen, ← hi2]; exact hal, hrE.mono hE1⟩ Z8 Z16 (by omega)
      rwa [hlen, ← hi2] at this
    refine G_seq (G_seq (G_region ?_))
    refine Gm ?_
    refine Gv (V_fieldAddr rfl rfl (by decide)) ?_
    refine Gv (V_load rfl rfl (Cell.own (.tail _ (.head _)) rfl)) ?_
    refine Gv (V_lenS rfl rfl) ?_
    refine Gv (V_lss rfl rfl rfl) ?_
    refine G_end (X_then ?_)
    refine G_cond_f rfl (decide_eq_false (by omega)) ?_
    refine G_exit (X_then_exit (X_then_exit (X_block_hit (X_then (G_seq (G_region ?_))))))
    refine Gm ?_
    refine Gv (V_fieldAddr rfl rfl (by decide)) ?_
    refine G_storeAt rfl rfl rfl rfl rfl rfl (.none rfl) (.tail _ (.head _ _ _)) (Nat.le_of_ble_eq_true rfl) (by simp only [putAll, Nat.zero_add, Nat.reduceAdd, List.setIfInBounds_toArray, List.set_cons_succ, List.set_cons_zero]; rfl) ?_
    refine G_end (X_then (G_seq (G_region ?_)))
    refine Gv (V_loadA rfl rfl (Cells.own (.tail _ (.head _))) rfl) ?_
    refine G_storeA rfl rfl rfl rfl (by simp [Value.oneCell']) rfl (.none rfl) (.head _ _ _) rfl ?_
    refine G_end (X_then (G_ret ?_))
    refine G_leaveS (.drop _ (.drop _ (.nil _))) (by exact (.cons (.cellA rfl (Cells.own (.head _)) rfl) (.nil))) rfl ?_ ?_
    · exact (((hE4.trans hE12).trans hE).trans hE1)
    exact ⟨(by assumption), rfl⟩
end
end Go.Proofs.YtiegoiadbklgjaaGreatDoor
set_option linter.unusedSimpArgs false
set_option linter.unusedVariables false
set_option maxHeartbeats 2000000
set_option maxRecDepth 20000
namespace Go.Proofs.YtiegoiadbklgjaaGreatDoor
open Go.RowKit
abbrev heavyB (g : Gr) : Bool := (decide ((10 : Int) < g.toks.length) || decide ((10 : Int) < g.names.length) || decide ((30 : Int) < g.prods.length) || decide ((40 : Int) < g.sep.length) || !g.toks.all fun s => decide ((s.length : Int) ≤ 40)) || !g.names.all fun s => decide ((s.length : Int) ≤ 40)
theorem heavy_iff {g : Gr} : heavyB g = false ↔ g.toks.length ≤ 10 ∧ g.names.length ≤ 10 ∧ g.prods.length ≤ 30 ∧ g.sep.length ≤ 40 ∧ (∀ s, s ∈ g.toks → s.length ≤ 40) ∧ ∀ s, s ∈ g.names → s.length ≤ 40 := by
  simp only [heavyB, Bool.or_eq_false_iff, decide_eq_false_iff_not, Bool.not_eq_false', List.all_eq_true, decide_eq_true_eq]
  constructor
  · rintro ⟨⟨⟨⟨⟨h1, h2⟩, h3⟩, h4⟩, h5⟩, h6⟩
    exact ⟨by omega, by omega, by omega, by omega, fun s hs => by have := h5 s hs; omega, fun s hs => by have := h6 s hs; omega⟩
  · rintro ⟨h1, h2, h3, h4, h5, h6⟩
    exact ⟨⟨⟨⟨⟨by omega, by omega⟩, by omega⟩, by omega⟩, fun s hs => by have := h5 s hs; omega⟩, fun s hs => by have := h6 s hs; omega⟩
section
variable (E : Env) (L : List Res)
theorem LightGrammar_call (gv : Value) (g : Gr) (hg : GrE E gv g) (h1 : g.toks.length ≤ 9223372036854775807) (h2 : g.names.length ≤ 9223372036854775807) (h3 : g.prods.length ≤ 9223372036854775807) (h4 : ∀ p, p ∈ g.prods → p.2.length ≤ 9223372036854775807) : CallV Tryz.prog 8 #[gv] E L (.bool (lightB g)) := by
  obtain ⟨tp, tc, np, nc, pp, pc, rfl, ht, hn, ⟨rows, hrows, hps, hre⟩, k1, k2, k3⟩ := hg
  have hlen : g.prods.length = rows.length := by rw [← hrows]; simp
  refine CallS.toV (CallS.intro (l := [_]) _ Tryz.func8 rfl Tryz.ntmps8 rfl ?_)
  cases hc : heavyB g with
  | true =>
    have hno : lightB g = false := by
      refine Bool.eq_false_iff.2 fun h => ?_
      have hl := lightB_iff.1 h
      rw [heavy_iff.2 ⟨hl.t, hl.n, hl.p, hl.sep, hl.ts, hl.ns⟩] at hc
      cases hc
    rw [hno]
    refine G_seq (G_region ?_)
    (refine G_boxA rfl rfl rfl rfl (.none rfl) ?_; intro b1)
    refine Ga ?_
    refine G_end (X_then (G_seq (G_seq (G_region ?_))))
    refine Gv (V_fieldAddr rfl rfl (by decide)) ?_
    refine Gv (V_load rfl rfl (Cell.own (.head _) rfl)) ?_
    refine Gv (V_lenS rfl rfl) ?_
    refine Gv (V_gtr rfl rfl rfl) ?_
    refine Gm ?_
    apply G_joinOr 5 8 13 rfl
    · intro H1
      dsimp only [List.take]
      simp only [Bool.and_eq_true, Bool.or_eq_true, Bool.not_eq_true', Bool.not_eq_false', Bool.and_eq_false_iff, Bool.or_eq_false_iff, Bool.not_not, decide_eq_true_eq, decide_eq_false_iff_not, ne_eq, Decidable.not_not, Bool.decide_eq_true] at H1
      refine Gn ?_
      refine Gn ?_
      refine Gn ?_
      refine Gn ?_
      refine Gv (V_pick_t rfl rfl rfl) ?_
      refine G_end ?_
      exact JQ_end 5 rfl rfl (by kernel_rfl)
    · intro H2
      dsimp only [List.take]
      simp only [Bool.and_eq_true, Bool.or_eq_true, Bool.not_eq_true', Bool.not_eq_false', Bool.and_eq_false_iff, Bool.or_eq_false_iff, Bool.not_not, decide_eq_true_eq, decide_eq_false_iff_not, ne_eq, Decidable.not_not, Bool.decide_eq_true] at H2
      refine Gy (V_fieldAddr rfl rfl (by decide)) ?_
      refine Gy (V_load rfl rfl (Cell.own (.head _) rfl)) ?_
      refine Gy (V_lenS rfl rfl) ?_
      refine Gy (V_gtr rfl rfl rfl) ?_
      refine Gv (V_pick_f rfl rfl rfl) ?_
      refine G_end ?_
      exact JQ_end 5 rfl rfl (by kernel_rfl)
    dsimp only [List.drop]
    refine Gm ?_
    apply G_joinOr 5 14 19 rfl
    · intro H3
      dsimp only [List.take]
      simp only [Bool.and_eq_true, Bool.or_eq_true, Bool.not_eq_true', Bool.not_eq_false', Bool.and_eq_false_iff, Bool.or_eq_false_iff, Bool.not_not, decide_eq_true_eq, decide_eq_false_iff_not, ne_eq, Decidable.not_not, Bool.decide_eq_true] at H3
      refine Gn ?_
      refine Gn ?_
      refine Gn ?_
      refine Gn ?_
      refine Gv (V_pick_t rfl rfl rfl) ?_
      refine G_end ?_
      exact JQ_end 5 rfl rfl (by kernel_rfl)
    · intro H4
      dsimp only [List.take]
      simp only [Bool.and_eq_true, Bool.or_eq_true, Bool.not_eq_true', Bool.not_eq_false', Bool.and_eq_false_iff, Bool.or_eq_false_iff, Bool.not_not, decide_eq_true_eq, decide_eq_false_iff_not, ne_eq, Decidable.not_not, Bool.decide_eq_true] at H4
      refine Gy (V_fieldAddr rfl rfl (by decide)) ?_
      refine Gy (V_load rfl rfl (Cell.own (.head _) rfl)) ?_
      refine Gy (V_lenS rfl rfl) ?_
      refine Gy (V_gtr rfl rfl rfl) ?_
      refine Gv (V_pick_f rfl rfl rfl) ?_
      refine G_end ?_
      exact JQ_end 5 rfl rfl (by kernel_rfl)
    dsimp only [List.drop]
    refine Gm ?_
    apply G_joinOr 5 20 25 rfl
    · intro H5
      dsimp only [List.take]
      simp only [Bool.and_eq_true, Bool.or_eq_true, Bool.not_eq_true', Bool.not_eq_false', Bool.and_eq_false_iff, Bool.or_eq_false_iff, Bool.not_not, decide_eq_true_eq, decide_eq_false_iff_not, ne_eq, Decidable.not_not, Bool.decide_eq_true] at H5
      refine Gn ?_
      refine Gn ?_
      refine Gn ?_
      refine Gn ?_
      refine Gv (V_pick_t rfl rfl rfl) ?_
      refine G_end ?_
      exact JQ_end 5 rfl rfl (by kernel_rfl)
    · intro H6
      dsimp only [List.take]
      simp only [Bool.and_eq_true, Bool.or_eq_true, Bool.not_eq_true', Bool.not_eq_false', Bool.and_eq_false_iff, Bool.or_eq_false_iff, Bool.not_not, decide_eq_true_eq, decide_eq_false_iff_not, ne_eq, Decidable.not_not, Bool.decide_eq_true] at H6
      refine Gy (V_fieldAddr rfl rfl (by decide)) ?_
      refine Gy (V_load rfl rfl (Cell.own (.head _) rfl)) ?_
      refine Gy (V_len rfl rfl) ?_
      refine Gy (V_gtr rfl rfl rfl) ?_
      refine Gv (V_pick_f rfl rfl rfl) ?_
      refine G_end ?_
      exact JQ_end 5 rfl rfl (by kernel_rfl)
    dsimp only [List.drop]
    refine Gm ?_
    apply G_joinOr 5 26 31 rfl
    · intro H7
      dsimp only [List.take]
      simp only [Bool.and_eq_true, Bool.or_eq_true, Bool.not_eq_true', Bool.not_eq_false', Bool.and_eq_false_iff, Bool.or_eq_false_iff, Bool.not_not, decide_eq_true_eq, decide_eq_false_iff_not, ne_eq, Decidable.not_not, Bool.decide_eq_true] at H7
      refine Gn ?_
      refine Gn ?_
      refine Gn ?_
      refine Gn ?_
      refine Gv (V_pick_t rfl rfl rfl) ?_
      refine G_end ?_
      exact JQ_end 5 rfl rfl (by kernel_rfl)
    · intro H8
      dsimp only [List.take]
      simp only [Bool.and_eq_true, Bool.or_eq_true, Bool.not_eq_true', Bool.not_eq_false', Bool.and_eq_false_iff, Bool.or_eq_false_iff, Bool.not_not, decide_eq_true_eq, decide_eq_false_iff_not, ne_eq, Decidable.not_not, Bool.decide_eq_true] at H8
      refine Gy (V_fieldAddr rfl rfl (by decide)) ?_
      refine Gy (V_load rfl rfl (Cell.own (.head _) rfl)) ?_
      refine G_callv (k := 39) (.mk rfl rfl rfl rfl) rfl rfl (.yes rfl rfl rfl rfl) (Short_call _ _ _ _ _ (by assumption) (by assumption) _) ?_
      refine Gy (V_not rfl rfl) ?_
      refine Gv (V_pick_f rfl rfl rfl) ?_
      refine G_end ?_
      exact JQ_end 5 rfl rfl (by kernel_rfl)
    dsimp only [List.drop]
    refine Gm ?_
    apply G_joinOr 5 32 37 rfl
    · intro H9
      dsimp only [List.take]
      simp only [Bool.and_eq_true, Bool.or_eq_true, Bool.not_eq_true', Bool.not_eq_false', Bool.and_eq_false_iff, Bool.or_eq_false_iff, Bool.not_not, decide_eq_true_eq, decide_eq_false_iff_not, ne_eq, Decidable.not_not, Bool.decide_eq_true] at H9
      refine Gn ?_
      refine Gn ?_
      refine Gn ?_
      refine Gn ?_
      refine Gv (V_pick_t rfl rfl rfl) ?_
      refine G_end ?_
      exact JQ_end 5 rfl rfl (by kernel_rfl)
    · intro H10
      dsimp only [List.take]
      simp only [Bool.and_eq_true, Bool.or_eq_true, Bool.not_eq_true', Bool.not_eq_false', Bool.and_eq_false_iff, Bool.or_eq_false_iff, Bool.not_not, decide_eq_true_eq, decide_eq_false_iff_not, ne_eq, Decidable.not_not, Bool.decide_eq_true] at H10
      refine Gy (V_fieldAddr rfl rfl (by decide)) ?_
      refine Gy (V_load rfl rfl (Cell.own (.head _) rfl)) ?_
      refine G_callv (k := 39) (.mk rfl rfl rfl rfl) rfl rfl (.yes rfl rfl rfl rfl) (Short_call _ _ _ _ _ (by assumption) (by assumption) _) ?_
      refine Gy (V_not rfl rfl) ?_
      refine Gv (V_pick_f rfl rfl rfl) ?_
      refine G_end ?_
      exact JQ_end 5 rfl rfl (by kernel_rfl)
    dsimp only [List.drop]
    refine G_end (X_then ?_)
    refine G_cond_t rfl (by assumption) ?_
    refine G_seq (G_region ?_)
    refine Ga ?_
    refine G_end (X_then (G_ret (X_then_ret ?_)))
    refine G_leaveS (.drop _ (.nil _)) (by exact (.cons (.tmp rfl) (.nil))) rfl ?_ ?_
    · exact (.refl _)
    exact ⟨(by kernel_rfl), rfl⟩
  | false =>
    refine G_seq (G_region ?_)
    (refine G_boxA rfl rfl rfl rfl (.none rfl) ?_; intro b1)
    refine Ga ?_
    refine G_end (X_then (G_seq (G_seq (G_region ?_))))
    refine Gv (V_fieldAddr rfl rfl (by decide)) ?_
    refine Gv (V_load rfl rfl (Cell.own (.head _) rfl)) ?_
    refine Gv (V_lenS rfl rfl) ?_
    refine Gv (V_gtr rfl rfl rfl) ?_
    refine Gm ?_
    apply G_joinOr 5 8 13 rfl
    · intro H1
      dsimp only [List.take]
      simp only [Bool.and_eq_true, Bool.or_eq_true, Bool.not_eq_true', Bool.not_eq_false', Bool.and_eq_false_iff, Bool.or_eq_false_iff, Bool.not_not, decide_eq_true_eq, decide_eq_false_iff_not, ne_eq, Decidable.not_not, Bool.decide_eq_true] at H1
      refine Gn ?_
      refine Gn ?_
      refine Gn ?_
      refine Gn ?_
      refine Gv (V_pick_t rfl rfl rfl) ?_
      refine G_end ?_
      exact JQ_end 5 rfl rfl (by kernel_rfl)
    · intro H2
      dsimp only [List.take]
      simp only [Bool.and_eq_true, Bool.or_eq_true, Bool.not_eq_true', Bool.not_eq_false', Bool.and_eq_false_iff, Bool.or_eq_false_iff, Bool.not_not, decide_eq_true_eq, decide_eq_false_iff_not, ne_eq, Decidable.not_not, Bool.decide_eq_true] at H2
      refine Gy (V_fieldAddr rfl rfl (by decide)) ?_
      refine Gy (V_load rfl rfl (Cell.own (.head _) rfl)) ?_
      refine Gy (V_lenS rfl rfl) ?_
      refine Gy (V_gtr rfl rfl rfl) ?_
      refine Gv (V_pick_f rfl rfl rfl) ?_
      refine G_end ?_
      exact JQ_end 5 rfl rfl (by kernel_rfl)
    dsimp only [List.drop]
    refine Gm ?_
    apply G_joinOr 5 14 19 rfl
    · intro H3
      dsimp only [List.take]
      simp only [Bool.and_eq_true, Bool.or_eq_true, Bool.not_eq_true', Bool.not_eq_false', Bool.and_eq_false_iff, Bool.or_eq_false_iff, Bool.not_not, decide_eq_true_eq, decide_eq_false_iff_not, ne_eq, Decidable.not_not, Bool.decide_eq_true] at H3
      refine Gn ?_
      refine Gn ?_
      refine Gn ?_
      refine Gn ?_
      refine Gv (V_pick_t rfl rfl rfl) ?_
      refine G_end ?_
      exact JQ_end 5 rfl rfl (by kernel_rfl)
    · intro H4
      dsimp only [List.take]
      simp only [Bool.and_eq_true, Bool.or_eq_true, Bool.not_eq_true', Bool.not_eq_false', Bool.and_eq_false_iff, Bool.or_eq_false_iff, Bool.not_not, decide_eq_true_eq, decide_eq_false_iff_not, ne_eq, Decidable.not_not, Bool.decide_eq_true] at H4
      refine Gy (V_fieldAddr rfl rfl (by decide)) ?_
      refine Gy (V_load rfl rfl (Cell.own (.head _) rfl)) ?_
      refine Gy (V_lenS rfl rfl) ?_
      refine Gy (V_gtr rfl rfl rfl) ?_
      refine Gv (V_pick_f rfl rfl rfl) ?_
      refine G_end ?_
      exact JQ_end 5 rfl rfl (by kernel_rfl)
    dsimp only [List.drop]
    refine Gm ?_
    apply G_joinOr 5 20 25 rfl
    · intro H5
      dsimp only [List.take]
      simp only [Bool.and_eq_true, Bool.or_eq_true, Bool.not_eq_true', Bool.not_eq_false', Bool.and_eq_false_iff, Bool.or_eq_false_iff, Bool.not_not, decide_eq_true_eq, decide_eq_false_iff_not, ne_eq, Decidable.not_not, Bool.decide_eq_true] at H5
      refine Gn ?_
      refine Gn ?_
      refine Gn ?_
      refine Gn ?_
      refine Gv (V_pick_t rfl rfl rfl) ?_
      refine G_end ?_
      exact JQ_end 5 rfl rfl (by kernel_rfl)
    · intro H6
      dsimp only [List.take]
      simp only [Bool.and_eq_true, Bool.or_eq_true, Bool.not_eq_true', Bool.not_eq_false', Bool.and_eq_false_iff, Bool.or_eq_false_iff, Bool.not_not, decide_eq_true_eq, decide_eq_false_iff_not, ne_eq, Decidable.not_not, Bool.decide_eq_true] at H6
      refine Gy (V_fieldAddr rfl rfl (by decide)) ?_
      refine Gy (V_load rfl rfl (Cell.own (.head _) rfl)) ?_
      refine Gy (V_len rfl rfl) ?_
      refine Gy (V_gtr rfl rfl rfl) ?_
      refine Gv (V_pick_f rfl rfl rfl) ?_
      refine G_end ?_
      exact JQ_end 5 rfl rfl (by kernel_rfl)
    dsimp only [List.drop]
    refine Gm ?_
    apply G_joinOr 5 26 31 rfl
    · intro H7
      dsimp only [List.take]
      simp only [Bool.and_eq_true, Bool.or_eq_true, Bool.not_eq_true', Bool.not_eq_false', Bool.and_eq_false_iff, Bool.or_eq_false_iff, Bool.not_not, decide_eq_true_eq, decide_eq_false_iff_not, ne_eq, Decidable.not_not, Bool.decide_eq_true] at H7
      refine Gn ?_
      refine Gn ?_
      refine Gn ?_
      refine Gn ?_
      refine Gv (V_pick_t rfl rfl rfl) ?_
      refine G_end ?_
      exact JQ_end 5 rfl rfl (by kernel_rfl)
    · intro H8
      dsimp only [List.take]
      simp only [Bool.and_eq_true, Bool.or_eq_true, Bool.not_eq_true', Bool.not_eq_false', Bool.and_eq_false_iff, Bool.or_eq_false_iff, Bool.not_not, decide_eq_true_eq, decide_eq_false_iff_not, ne_eq, Decidable.not_not, Bool.decide_eq_true] at H8
      refine Gy (V_fieldAddr rfl rfl (by decide)) ?_
      refine Gy (V_load rfl rfl (Cell.own (.head _) rfl)) ?_
      refine G_callv (k := 39) (.mk rfl rfl rfl rfl) rfl rfl (.yes rfl rfl rfl rfl) (Short_call _ _ _ _ _ (by assumption) (by assumption) _) ?_
      refine Gy (V_not rfl rfl) ?_
      refine Gv (V_pick_f rfl rfl rfl) ?_
      refine G_end ?_
      exact JQ_end 5 rfl rfl (by kernel_rfl)
    dsimp only [List.drop]
    refine Gm ?_
    apply G_joinOr 5 32 37 rfl
    · intro H9
      dsimp only [List.take]
      simp only [Bool.and_eq_true, Bool.or_eq_true, Bool.not_eq_true', Bool.not_eq_false', Bool.and_eq_false_iff, Bool.or_eq_false_iff, Bool.not_not, decide_eq_true_eq, decide_eq_false_iff_not, ne_eq, Decidable.not_not, Bool.decide_eq_true] at H9
      refine Gn ?_
      refine Gn ?_
      refine Gn ?_
      refine Gn ?_
      refine Gv (V_pick_t rfl rfl rfl) ?_
      refine G_end ?_
      exact JQ_end 5 rfl rfl (by kernel_rfl)
    · intro H10
      dsimp only [List.take]
      simp only [Bool.and_eq_true, Bool.or_eq_true, Bool.not_eq_true', Bool.not_eq_false', Bool.and_eq_false_iff, Bool.or_eq_false_iff, Bool.not_not, decide_eq_true_eq, decide_eq_false_iff_not, ne_eq, Decidable.not_not, Bool.decide_eq_true] at H10
      refine Gy (V_fieldAddr rfl rfl (by decide)) ?_
      refine Gy (V_load rfl rfl (Cell.own (.head _) rfl)) ?_
      refine G_callv (k := 39) (.mk rfl rfl rfl rfl) rfl rfl (.yes rfl rfl rfl rfl) (Short_call _ _ _ _ _ (by assumption) (by assumption) _) ?_
      refine Gy (V_not rfl rfl) ?_
      refine Gv (V_pick_f rfl rfl rfl) ?_
      refine G_end ?_
      exact JQ_end 5 rfl rfl (by kernel_rfl)
    dsimp only [List.drop]
    refine G_end (X_then ?_)
    refine G_cond_f rfl (by assumption) ?_
    refine G_skip (X_then (G_seq (G_seq (G_region ?_))))
    refine Ga ?_
    refine G_end (X_then (G_block ?_))
    have hh := heavy_iff.1 hc
    refine G_loop (α := Nat) (fun i => [(1, .pointer (some ⟨b1, 0, none⟩)), (3, .int .i64 i)]) (fun _ => E) (fun _ => .blk b1 (.cells #[.int .i64 g.k, .slice tp g.toks.length tc, .string (S g.sep), .slice np g.names.length nc, .int .i64 g.start, .slice pp g.prods.length pc] 25 (0, 0)) :: L)
      (fun i => i ≤ rows.length ∧ ∀ k, k < i → (hk : k < rows.length) → rows[k].2.2.2.length ≤ 8) (fun i => rows.length - i) 0 ⟨Nat.zero_le _, fun k hk => by cases hk⟩ ⟨rfl, rfl, trivial⟩ rfl rfl ?_
    rintro i ⟨hi, hall⟩
    by_cases hlt : i < rows.length
    · have hg1 := List.getElem?_eq_getElem hlt
      have hyr := prows_right hg1
      have hp : rows[i].2.2 ∈ g.prods := by rw [← hrows]; exact List.mem_map.2 ⟨rows[i], List.getElem_mem hlt, rfl⟩
      have h5 := h4 _ hp
      by_cases h8 : rows[i].2.2.2.length ≤ 8
      · refine G_seq ?_
        refine G_seq (G_region ?_)
        refine Gm ?_
        refine Gv (V_fieldAddr rfl rfl (by decide)) ?_
        refine Gv (V_load rfl rfl (Cell.own (.head _) rfl)) ?_
        refine Gv (V_lenS rfl rfl) ?_
        refine Gv (V_lss rfl rfl rfl) ?_
        refine G_end (X_then ?_)
        refine G_cond_t rfl (decide_eq_true (by omega)) ?_
        refine G_skip (X_then (G_seq (G_block (G_seq (G_region ?_)))))
        refine Gv (V_fieldAddr rfl rfl (by decide)) ?_
        refine Gv (V_load rfl rfl (Cell.own (.head _) rfl)) ?_
        refine Gm ?_
        refine Gv (V_idxAddr rfl rfl rfl (SlE.rd (by assumption)) (by omega) (by omega)) ?_
        refine Gv (V_fieldAddrE rfl rfl (by assumption) (by omega) (by decide)) ?_
        refine Gv (V_loadS rfl rfl (SlE.rd (by assumption)) (by assumption) (by simp)) ?_
        refine Gv (V_lenS rfl rfl) ?_
        refine Gv (V_gtr rfl rfl rfl) ?_
        refine G_end (X_then ?_)
        refine G_cond_f rfl (decide_eq_false (by omega)) ?_
        refine G_skip (X_block (X_then (G_region ?_)))
        refine Gm ?_
        refine Gv (V_add_i64 rfl rfl rfl (by omega) (by omega)) ?_
        refine Ga ?_
        refine G_end (X_then ?_)
        refine G_again (i + 1) ⟨hlt, ?_⟩ (by omega) ⟨rfl, rfl, trivial⟩ rfl rfl
        intro k hk hk2
        by_cases he : k = i
        · subst he; exact h8
        · exact hall k (by omega) hk2
      · have hno : lightB g = false := by
          refine Bool.eq_false_iff.2 fun h => ?_
          exact h8 ((lightB_iff.1 h).ps _ hp)
        rw [hno]
        refine G_seq (G_seq (G_region ?_))
        refine Gm ?_
        refine Gv (V_fieldAddr rfl rfl (by decide)) ?_
        refine Gv (V_load rfl rfl (Cell.own (.head _) rfl)) ?_
        refine Gv (V_lenS rfl rfl) ?_
        refine Gv (V_lss rfl rfl rfl) ?_
        refine G_end (X_then ?_)
        refine G_cond_t rfl (decide_eq_true (by omega)) ?_
        refine G_skip (X_then (G_seq (G_block (G_seq (G_region ?_)))))
        refine Gv (V_fieldAddr rfl rfl (by decide)) ?_
        refine Gv (V_load rfl rfl (Cell.own (.head _) rfl)) ?_
        refine Gm ?_
        refine Gv (V_idxAddr rfl rfl rfl (SlE.rd (by assumption)) (by omega) (by omega)) ?_
        refine Gv (V_fieldAddrE rfl rfl (by assumption) (by omega) (by decide)) ?_
        refine Gv (V_loadS rfl rfl (SlE.rd (by assumption)) (by assumption) (by simp)) ?_
        refine Gv (V_lenS rfl rfl) ?_
        refine Gv (V_gtr rfl rfl rfl) ?_
        refine G_end (X_then ?_)
        refine G_cond_t rfl (decide_eq_true (by omega)) ?_
        refine G_seq (G_region ?_)
        refine Ga ?_
        refine G_end (X_then (G_ret (X_block_ret (X_then_ret (X_then_ret (X_block_ret (X_then_ret ?_)))))))
        refine G_leaveS (.drop _ (.nil _)) (by exact (.cons (.tmp rfl) (.nil))) rfl ?_ ?_
        · exact (.refl _)
        exact ⟨(by kernel_rfl), rfl⟩
    · have hyes : lightB g = true := lightB_iff.2 ⟨hh.1, hh.2.1, hh.2.2.1, hh.2.2.2.1, hh.2.2.2.2.1, hh.2.2.2.2.2, fun p hp => by
        rw [← hrows] at hp
        obtain ⟨x, hx, rfl⟩ := List.mem_map.1 hp
        obtain ⟨k, hk, rfl⟩ := List.getElem_of_mem hx
        exact hall k (by omega) hk⟩
      rw [hyes]
      refine G_seq (G_seq (G_region ?_))
      refine Gm ?_
      refine Gv (V_fieldAddr rfl rfl (by decide)) ?_
      refine Gv (V_load rfl rfl (Cell.own (.head _) rfl)) ?_
      refine Gv (V_lenS rfl rfl) ?_
      refine Gv (V_lss rfl rfl rfl) ?_
      refine G_end (X_then ?_)
      refine G_cond_f rfl (decide_eq_false (by omega)) ?_
      refine G_exit (X_then_exit (X_then_exit (X_block_hit (X_then (G_seq (G_region ?_))))))
      refine Ga ?_
      refine G_end (X_then (G_ret ?_))
      refine G_leaveS (.drop _ (.nil _)) (by exact (.cons (.tmp rfl) (.nil))) rfl ?_ ?_
      · exact (.refl _)
      exact ⟨(by kernel_rfl), rfl⟩
end
end Go.Proofs.YtiegoiadbklgjaaGreatDoor
namespace Go.Proofs.YtiegoiadbklgjaaGreatDoor

/-! Least costs, in plain Lean. -/
abbrev Tab := List (Option Nat)
def tget (f : Tab) (s : Int) : Option Nat := (f[(s - 16).toNat]?).getD none
def symc (t : Option Nat) (f : Tab) (s : Int) : Option Nat := if s < 16 then t else tget f s
def addO : Option Nat → Option Nat → Option Nat
  | some a, some b => some (a + b)
  | _, _ => none
theorem addO_zero (a : Option Nat) : addO a (some 0) = a := by cases a <;> rfl
theorem addO_some {a b : Option Nat} {c : Nat} (h : addO a b = some c) : ∃ x y, a = some x ∧ b = some y ∧ c = x + y := by
  cases a with
  | none => cases h
  | some x => cases b with
    | none => cases h
    | some y => exact ⟨x, y, rfl, rfl, (Option.some.inj h).symm⟩
def cost (t : Option Nat) (f : Tab) : List Int → Option Nat
  | [] => some 0
  | s :: r => addO (symc t f s) (cost t f r)
/-- What a string of symbols may cost. -/
inductive D (ps : List Pr) (t : Option Nat) (own : Nat) : List Int → Nat → Prop
  | nil : D ps t own [] 0
  | term {s : Int} {r : List Int} {k c : Nat} : s < 16 → t = some k → D ps t own r c → D ps t own (s :: r) (k + c)
  | non {p : Pr} {r : List Int} {a b : Nat} : p ∈ ps → 16 ≤ p.1 → D ps t own p.2 a → D ps t own r b → D ps t own (p.1 :: r) (own + a + b)
def Stable (ps : List Pr) (t : Option Nat) (own : Nat) (f : Tab) : Prop := ∀ p, p ∈ ps → ∀ c, cost t f p.2 = some c → ∃ c', tget f p.1 = some c' ∧ c' ≤ own + c
def Sound (ps : List Pr) (t : Option Nat) (own : Nat) (f : Tab) : Prop := ∀ s c, 16 ≤ s → tget f s = some c → D ps t own [s] c
section
variable {ps : List Pr} {t : Option Nat} {own : Nat} {f : Tab}
theorem D.cons {s : Int} {a : Nat} {r : List Int} {b : Nat} (h : D ps t own [s] a) (hr : D ps t own r b) : D ps t own (s :: r) (a + b) := by
  generalize hl : [s] = l at h
  cases h with
  | nil => cases hl
  | term h1 h2 h3 =>
    obtain ⟨rfl, rfl⟩ := List.cons.inj hl
    cases h3
    exact D.term h1 h2 hr
  | non h1 h2 h3 h4 =>
    obtain ⟨rfl, rfl⟩ := List.cons.inj hl
    cases h4
    exact D.non h1 h2 h3 hr
theorem D.one {p : Pr} {a : Nat} (h1 : p ∈ ps) (h2 : 16 ≤ p.1) (h3 : D ps t own p.2 a) : D ps t own [p.1] (own + a) := D.non h1 h2 h3 .nil
theorem Stable.le (hs : Stable ps t own f) {r : List Int} {c : Nat} (h : D ps t own r c) : ∃ c', cost t f r = some c' ∧ c' ≤ c := by
  induction h with
  | nil => exact ⟨0, rfl, Nat.le_refl _⟩
  | term h1 h2 _ ih =>
    obtain ⟨x, hx, hle⟩ := ih
    refine ⟨_, ?_, Nat.add_le_add_left hle _⟩
    rw [cost, hx, symc, if_pos h1, h2]; rfl
  | non h1 h2 _ _ ih1 ih2 =>
    obtain ⟨x, hx, hle⟩ := ih1
    obtain ⟨y, hy, hle2⟩ := ih2
    obtain ⟨z, hz, hle3⟩ := hs _ h1 _ hx
    refine ⟨z + y, ?_, by omega⟩
    rw [cost, hy, symc, if_neg (by omega), hz]; rfl
theorem Sound.cost (hs : Sound ps t own f) {r : List Int} {c : Nat} (h : cost t f r = some c) : D ps t own r c := by
  induction r generalizing c with
  | nil => rw [Option.some.inj h.symm]; exact .nil
  | cons s r ih =>
    obtain ⟨x, y, hx, hy, rfl⟩ := addO_some h
    rw [symc] at hx
    by_cases hlt : s < 16
    · rw [if_pos hlt] at hx
      exact .term hlt hx (ih hy)
    · rw [if_neg hlt] at hx
      exact (hs s x (by omega) hx).cons (ih hy)
theorem tget_ext {f f' : Tab} (hl : f.length = f'.length) (h : ∀ s, 16 ≤ s → tget f s = tget f' s) : f = f' := by
  apply List.ext_getElem hl
  intro i h1 h2
  have := h (16 + i) (by omega)
  have e : ((16 : Int) + i - 16).toNat = i := by omega
  simpa [tget, e, h1, h2] using this
/-- The least costs of n nonterminals. -/
structure IsLeast (ps : List Pr) (n : Nat) (t : Option Nat) (own : Nat) (f : Tab) : Prop where
  len : f.length = n
  stable : Stable ps t own f
  sound : Sound ps t own f
theorem IsLeast.uniq {n : Nat} {f' : Tab} (h : IsLeast ps n t own f) (h' : IsLeast ps n t own f') : f = f' := by
  apply tget_ext (h.len.trans h'.len.symm)
  have key : ∀ {g g' : Tab}, IsLeast ps n t own g → IsLeast ps n t own g' → ∀ s, 16 ≤ s → ∀ c, tget g s = some c → ∃ c', tget g' s = some c' ∧ c' ≤ c := by
    intro g g' h h' s hs c hc
    obtain ⟨c', h1, h2⟩ := h'.stable.le (h.sound s c hs hc)
    have e : cost t g' [s] = tget g' s := by show addO (symc t g' s) (some 0) = _; rw [addO_zero, symc, if_neg (by omega)]
    rw [e] at h1
    exact ⟨c', h1, h2⟩
  intro s hs
  cases h1 : tget f s with
  | none =>
    cases h2 : tget f' s with
    | none => rfl
    | some c =>
      obtain ⟨c', h3, _⟩ := key h' h s hs c h2
      rw [h1] at h3; cases h3
  | some c =>
    obtain ⟨c', h3, h4⟩ := key h h' s hs c h1
    obtain ⟨c'', h5, h6⟩ := key h' h s hs c' h3
    rw [h1] at h5
    have := Option.some.inj h5
    rw [h3]
    congr 1
    omega
end
end Go.Proofs.YtiegoiadbklgjaaGreatDoor
namespace Go.Proofs.YtiegoiadbklgjaaGreatDoor

/-! Least costs exist, and are found step by step. -/
def wide (f : Tab) : Nat := f.countP Option.isSome
def mo : Option Nat → Nat
  | none => 1099511627777
  | some c => c
def meas (f : Tab) : Nat := (f.map mo).sum
def Bd (f : Tab) : Prop := ∀ s c, tget f s = some c → c ≤ 16 ^ wide f
structure Wf (ps : List Pr) (n : Nat) : Prop where
  nn : n ≤ 10
  left : ∀ p, p ∈ ps → 16 ≤ p.1 ∧ p.1 < 16 + n
  right : ∀ p, p ∈ ps → p.2.length ≤ 8
  syms : ∀ p, p ∈ ps → ∀ s, s ∈ p.2 → s < 16 + n
structure Small (t : Option Nat) (own : Nat) : Prop where
  t : ∀ k, t = some k → k ≤ 1
  own : own ≤ 1
structure Inv (ps : List Pr) (n : Nat) (t : Option Nat) (own : Nat) (f : Tab) : Prop where
  len : f.length = n
  sound : Sound ps t own f
  bd : Bd f
def better (t : Option Nat) (own : Nat) (f : Tab) (p : Pr) : Option Nat :=
  match cost t f p.2 with
  | none => none
  | some c => match tget f p.1 with
    | none => some (own + c)
    | some c' => if own + c < c' then some (own + c) else none
def upd (f : Tab) (p : Pr) (v : Nat) : Tab := f.set (p.1 - 16).toNat (some v)
theorem better_iff {t : Option Nat} {own : Nat} {f : Tab} {p : Pr} {v : Nat} : better t own f p = some v ↔ ∃ c, cost t f p.2 = some c ∧ v = own + c ∧ ∀ c', tget f p.1 = some c' → own + c < c' := by
  rw [better]
  cases h1 : cost t f p.2 with
  | none => simp
  | some c =>
    cases h2 : tget f p.1 with
    | none =>
      constructor
      · intro h; exact ⟨c, rfl, (Option.some.inj h).symm, fun c' h => by cases h⟩
      · rintro ⟨c', h, rfl, _⟩; rw [Option.some.inj h]
    | some c' =>
      show (if own + c < c' then some (own + c) else none) = some v ↔ _
      by_cases hlt : own + c < c'
      · rw [if_pos hlt]
        constructor
        · intro h; exact ⟨c, rfl, (Option.some.inj h).symm, fun c' h => by rw [Option.some.inj h.symm]; exact hlt⟩
        · rintro ⟨c', h, rfl, _⟩; rw [Option.some.inj h]
      · rw [if_neg hlt]
        constructor
        · intro h; cases h
        · rintro ⟨x, h, rfl, h3⟩
          have := h3 c' rfl
          rw [Option.some.inj h] at hlt
          exact absurd this hlt
theorem better_stable {t : Option Nat} {own : Nat} {f : Tab} {ps : List Pr} : Stable ps t own f ↔ ∀ p, p ∈ ps → better t own f p = none := by
  constructor
  · intro h p hp
    cases hb : better t own f p with
    | none => rfl
    | some v =>
      obtain ⟨c, h1, _, h3⟩ := better_iff.1 hb
      obtain ⟨c', h4, h5⟩ := h p hp c h1
      have := h3 c' h4
      omega
  · intro h p hp c hc
    cases h2 : tget f p.1 with
    | none =>
      have := h p hp
      simp [better, hc, h2] at this
    | some c' =>
      refine ⟨c', rfl, ?_⟩
      have := h p hp
      simp only [better, hc, h2] at this
      by_cases hlt : own + c < c'
      · rw [if_pos hlt] at this; cases this
      · omega
theorem tget_upd {f : Tab} {p : Pr} {v : Nat} {s : Int} (h : (p.1 - 16).toNat < f.length) : tget (upd f p v) s = if (p.1 - 16).toNat = (s - 16).toNat then some v else tget f s := by
  rw [tget, upd, List.getElem?_set]
  by_cases he : (p.1 - 16).toNat = (s - 16).toNat
  · rw [if_pos he, if_pos he, if_pos h]; rfl
  · rw [if_neg he, if_neg he]; rfl
theorem wide_upd {f : Tab} {p : Pr} {v : Nat} (h : (p.1 - 16).toNat < f.length) : wide (upd f p v) = wide f + (if tget f p.1 = none then 1 else 0) := by
  have key : ∀ (f : Tab) (k : Nat), k < f.length → (f.set k (some v)).countP Option.isSome = f.countP Option.isSome + (if (f[k]?).getD none = none then 1 else 0) := by
    intro f
    induction f with
    | nil => intro k h; cases h
    | cons x f ih =>
      intro k h
      cases k with
      | zero => cases x <;> simp
      | succ k =>
        have := ih k (Nat.lt_of_succ_lt_succ h)
        simp only [List.set_cons_succ, List.countP_cons, this, List.getElem?_cons_succ]
        omega
  exact key f _ h
theorem meas_upd {f : Tab} {p : Pr} {v : Nat} (h : (p.1 - 16).toNat < f.length) (hv : v < mo (tget f p.1)) : meas (upd f p v) < meas f := by
  have key : ∀ (f : Tab) (k : Nat), k < f.length → v < mo ((f[k]?).getD none) → ((f.set k (some v)).map mo).sum < (f.map mo).sum := by
    intro f
    induction f with
    | nil => intro k h; cases h
    | cons x f ih =>
      intro k h hv
      cases k with
      | zero =>
        simp only [List.getElem?_cons_zero, Option.getD_some] at hv
        simp only [List.set_cons_zero, List.map_cons, List.sum_cons]
        have e : mo (some v) = v := rfl
        omega
      | succ k =>
        have := ih k (Nat.lt_of_succ_lt_succ h) hv
        simp only [List.set_cons_succ, List.map_cons, List.sum_cons]
        omega
  exact key f _ h hv
theorem cost_le {t : Option Nat} {f : Tab} {B : Nat} (ht : ∀ k, t = some k → k ≤ B) (hf : ∀ s c, tget f s = some c → c ≤ B) : ∀ (l : List Int) (c : Nat), cost t f l = some c → c ≤ l.length * B := by
  intro l
  induction l with
  | nil => intro c h; rw [Option.some.inj h.symm]; exact Nat.zero_le _
  | cons s l ih =>
    intro c h
    obtain ⟨x, y, hx, hy, rfl⟩ := addO_some h
    have h1 := ih y hy
    have h2 : x ≤ B := by
      rw [symc] at hx
      by_cases hlt : s < 16
      · rw [if_pos hlt] at hx; exact ht x hx
      · rw [if_neg hlt] at hx; exact hf s x hx
    rw [List.length_cons, Nat.succ_mul]
    omega
theorem wide_le (f : Tab) : wide f ≤ f.length := List.countP_le_length
theorem Inv.le {ps : List Pr} {n : Nat} {t : Option Nat} {own : Nat} {f : Tab} (h : Inv ps n t own f) (hw : Wf ps n) {s : Int} {c : Nat} (hc : tget f s = some c) : c ≤ 1099511627776 := by
  have h1 := h.bd s c hc
  have h2 := wide_le f
  have h3 : wide f ≤ 10 := by have := h.len; have := hw.nn; omega
  have h4 : 16 ^ wide f ≤ 16 ^ 10 := Nat.pow_le_pow_right (by decide) h3
  have h5 : (16 : Nat) ^ 10 = 1099511627776 := by decide
  omega
theorem Inv.upd {ps : List Pr} {n : Nat} {t : Option Nat} {own : Nat} {f : Tab} (h : Inv ps n t own f) (hw : Wf ps n) (hs : Small t own) {p : Pr} (hp : p ∈ ps) {v : Nat} (hb : better t own f p = some v) :
    Inv ps n t own (upd f p v) ∧ meas (Proofs.YtiegoiadbklgjaaGreatDoor.upd f p v) < meas f ∧ v ≤ 1099511627776 := by
  obtain ⟨c, hc, rfl, hlt⟩ := better_iff.1 hb
  have hl := hw.left p hp
  have hlen := h.len
  have hk : (p.1 - 16).toNat < f.length := by omega
  have hinv : Inv ps n t own (Proofs.YtiegoiadbklgjaaGreatDoor.upd f p (own + c)) := by
    refine ⟨by simp [Proofs.YtiegoiadbklgjaaGreatDoor.upd, h.len], ?_, ?_⟩
    · intro s x hs16 hx
      rw [tget_upd hk] at hx
      by_cases he : (p.1 - 16).toNat = (s - 16).toNat
      · rw [if_pos he] at hx
        have : s = p.1 := by omega
        subst this
        rw [← Option.some.inj hx]
        exact D.one hp hs16 (h.sound.cost hc)
      · rw [if_neg he] at hx
        exact h.sound s x hs16 hx
    · have hB : 1 ≤ 16 ^ wide f := Nat.pow_pos (by decide)
      have hcl : c ≤ p.2.length * 16 ^ wide f := cost_le (fun k hk => Nat.le_trans (hs.t k hk) hB) h.bd p.2 c hc
      have h8 : p.2.length * 16 ^ wide f ≤ 8 * 16 ^ wide f := Nat.mul_le_mul_right _ (hw.right p hp)
      have hown := hs.own
      intro s x hx
      rw [tget_upd hk] at hx
      rw [wide_upd hk]
      by_cases he : (p.1 - 16).toNat = (s - 16).toNat
      · rw [if_pos he] at hx
        have hx := Option.some.inj hx
        cases hn : tget f p.1 with
        | none =>
          rw [if_pos rfl, Nat.pow_succ]
          omega
        | some c' =>
          rw [if_neg (by simp)]
          have h1 := hlt c' hn
          have h2 := h.bd _ _ hn
          show x ≤ 16 ^ wide f
          omega
      · rw [if_neg he] at hx
        have h1 := h.bd s x hx
        have h2 : 16 ^ wide f ≤ 16 ^ (wide f + if tget f p.1 = none then 1 else 0) := Nat.pow_le_pow_right (by decide) (Nat.le_add_right _ _)
        omega
  have hv : own + c ≤ 1099511627776 := by
    refine hinv.le hw (s := p.1) ?_
    rw [tget_upd hk, if_pos rfl]
  refine ⟨hinv, meas_upd hk ?_, hv⟩
  cases hn : tget f p.1 with
  | none => show _ < 1099511627777; omega
  | some c' => exact hlt c' hn
/-- The first production that makes a cost less. -/
def step (t : Option Nat) (own : Nat) (f : Tab) : List Pr → Option Tab
  | [] => none
  | p :: ps => match better t own f p with
    | some v => some (upd f p v)
    | none => step t own f ps
theorem step_none {t : Option Nat} {own : Nat} {f : Tab} {ps : List Pr} (h : step t own f ps = none) : Stable ps t own f := by
  rw [better_stable]
  induction ps with
  | nil => intro p hp; cases hp
  | cons q ps ih =>
    intro p hp
    rw [step] at h
    cases hb : better t own f q with
    | some v => rw [hb] at h; cases h
    | none =>
      rw [hb] at h
      cases hp with
      | head => exact hb
      | tail _ hp => exact ih h p hp
theorem step_some {t : Option Nat} {own : Nat} {f f' : Tab} {ps : List Pr} (h : step t own f ps = some f') : ∃ p v, p ∈ ps ∧ better t own f p = some v ∧ f' = upd f p v := by
  induction ps with
  | nil => cases h
  | cons q ps ih =>
    rw [step] at h
    cases hb : better t own f q with
    | some v => rw [hb] at h; exact ⟨q, v, .head _, hb, (Option.some.inj h).symm⟩
    | none =>
      rw [hb] at h
      obtain ⟨p, v, h1, h2, h3⟩ := ih h
      exact ⟨p, v, .tail _ h1, h2, h3⟩
def lfp (t : Option Nat) (own : Nat) (ps : List Pr) : Nat → Tab → Tab
  | 0, f => f
  | k + 1, f => match step t own f ps with
    | none => f
    | some f' => lfp t own ps k f'
theorem lfp_least {ps : List Pr} {n : Nat} {t : Option Nat} {own : Nat} (hw : Wf ps n) (hs : Small t own) : ∀ (k : Nat) (f : Tab), meas f < k → Inv ps n t own f → IsLeast ps n t own (lfp t own ps k f) ∧ Inv ps n t own (lfp t own ps k f) := by
  intro k
  induction k with
  | zero => intro f h; cases h
  | succ k ih =>
    intro f hk h
    rw [lfp]
    cases hb : step t own f ps with
    | none => exact ⟨⟨h.len, step_none hb, h.sound⟩, h⟩
    | some f' =>
      obtain ⟨p, v, h1, h2, rfl⟩ := step_some hb
      obtain ⟨h3, h4, _⟩ := h.upd hw hs h1 h2
      exact ih _ (by omega) h3
def start (n : Nat) : Tab := List.replicate n none
theorem tget_start (n : Nat) (s : Int) : tget (start n) s = none := by
  rw [tget, start, List.getElem?_replicate]
  by_cases h : (s - 16).toNat < n
  · rw [if_pos h]; rfl
  · rw [if_neg h]; rfl
theorem inv_start (ps : List Pr) (n : Nat) (t : Option Nat) (own : Nat) : Inv ps n t own (start n) :=
  ⟨by simp [start], fun s c _ h => (by rw [tget_start] at h; cases h), fun s c h => (by rw [tget_start] at h; cases h)⟩
theorem meas_start (n : Nat) : meas (start n) = n * 1099511627777 := by
  simp [meas, start, mo]
def best (ps : List Pr) (n : Nat) (t : Option Nat) (own : Nat) : Tab := lfp t own ps 10995116277771 (start n)
theorem best_all {ps : List Pr} {n : Nat} {t : Option Nat} {own : Nat} (hw : Wf ps n) (hs : Small t own) : IsLeast ps n t own (best ps n t own) ∧ Inv ps n t own (best ps n t own) := by
  refine lfp_least hw hs _ _ ?_ (inv_start ps n t own)
  rw [meas_start]
  have := hw.nn
  omega
theorem best_least {ps : List Pr} {n : Nat} {t : Option Nat} {own : Nat} (hw : Wf ps n) (hs : Small t own) : IsLeast ps n t own (best ps n t own) := (best_all hw hs).1
theorem best_eq {ps : List Pr} {n : Nat} {t : Option Nat} {own : Nat} {f : Tab} (hw : Wf ps n) (hs : Small t own) (h : IsLeast ps n t own f) : f = best ps n t own := h.uniq (best_least hw hs)
example : best [(16, [0, 17]), (17, [1]), (17, []), (18, [18, 0])] 3 (some 1) 0 = [some 1, some 0, none] := by rfl
end Go.Proofs.YtiegoiadbklgjaaGreatDoor
namespace Go.Proofs.YtiegoiadbklgjaaGreatDoor

/-! What can be made at all: tables of booleans. -/
def tb (b : Bool) : Option Nat := if b = true then some 0 else none
def tab (l : List Bool) : Tab := l.map tb
def bget (l : List Bool) (s : Int) : Bool := (l[(s - 16).toNat]?).getD false
def goodB (terms : Bool) (l : List Bool) (s : Int) : Bool := if s < 16 then terms else bget l s
theorem tb_some (b : Bool) : (tb b).isSome = b := by cases b <;> rfl
theorem tab_some (l : List Bool) : (tab l).map Option.isSome = l := by
  induction l with
  | nil => rfl
  | cons b l ih =>
    have e : (tab (b :: l)).map Option.isSome = (tb b).isSome :: (tab l).map Option.isSome := rfl
    rw [e, ih, tb_some]
theorem tget_tab (l : List Bool) (s : Int) : tget (tab l) s = tb (bget l s) := by
  rw [tget, tab, List.getElem?_map, bget]
  cases l[(s - 16).toNat]? <;> rfl
theorem symc_tab (terms : Bool) (l : List Bool) (s : Int) : symc (tb terms) (tab l) s = tb (goodB terms l s) := by
  rw [symc, goodB]
  by_cases h : s < 16
  · rw [if_pos h, if_pos h]
  · rw [if_neg h, if_neg h, tget_tab]
theorem cost_tab (terms : Bool) (l : List Bool) (r : List Int) : cost (tb terms) (tab l) r = tb (r.all (goodB terms l)) := by
  induction r with
  | nil => rfl
  | cons s r ih =>
    rw [cost, ih, symc_tab, List.all_cons]
    cases goodB terms l s <;> cases r.all (goodB terms l) <;> rfl
theorem better_tab (terms : Bool) (l : List Bool) (p : Pr) : better (tb terms) 0 (tab l) p = tb (!bget l p.1 && p.2.all (goodB terms l)) := by
  rw [better, cost_tab, tget_tab]
  cases bget l p.1 <;> cases p.2.all (goodB terms l) <;> rfl
theorem upd_tab (l : List Bool) (p : Pr) : upd (tab l) p 0 = tab (l.set (p.1 - 16).toNat true) := by
  rw [upd, tab, tab, List.map_set]; rfl
theorem small_tb (b : Bool) (own : Nat) (h : own ≤ 1) : Small (tb b) own := ⟨fun k hk => by cases b <;> simp [tb] at hk; omega, h⟩
abbrev InvB (ps : List Pr) (n : Nat) (terms : Bool) (l : List Bool) : Prop := Inv ps n (tb terms) 0 (tab l)
def gen (ps : List Pr) (n : Nat) (terms : Bool) : List Bool := (best ps n (tb terms) 0).map Option.isSome
theorem InvB.upd {ps : List Pr} {n : Nat} {terms : Bool} {l : List Bool} (h : InvB ps n terms l) (hw : Wf ps n) {p : Pr} (hp : p ∈ ps) (h1 : bget l p.1 = false) (h2 : p.2.all (goodB terms l) = true) :
    InvB ps n terms (l.set (p.1 - 16).toNat true) ∧ meas (tab (l.set (p.1 - 16).toNat true)) < meas (tab l) := by
  have hb : better (tb terms) 0 (tab l) p = some 0 := by rw [better_tab, h1, h2]; rfl
  obtain ⟨h3, h4, _⟩ := Inv.upd h hw (small_tb terms 0 (by decide)) hp hb
  rw [upd_tab] at h3 h4
  exact ⟨h3, h4⟩
theorem InvB.done {ps : List Pr} {n : Nat} {terms : Bool} {l : List Bool} (h : InvB ps n terms l) (hw : Wf ps n) (hs : ∀ p, p ∈ ps → (!bget l p.1 && p.2.all (goodB terms l)) = false) : l = gen ps n terms := by
  have hst : Stable ps (tb terms) 0 (tab l) := better_stable.2 fun p hp => by rw [better_tab, hs p hp]; rfl
  rw [gen, ← best_eq hw (small_tb terms 0 (by decide)) ⟨h.len, hst, h.sound⟩, tab_some]
theorem D.any {ps : List Pr} {t t' : Option Nat} {own own' : Nat} (ht : t.isSome = true → t'.isSome = true) {r : List Int} {c : Nat} (h : D ps t own r c) : ∃ c', D ps t' own' r c' := by
  induction h with
  | nil => exact ⟨0, .nil⟩
  | term h1 h2 _ ih =>
    obtain ⟨c', h'⟩ := ih
    obtain ⟨k, hk⟩ := Option.isSome_iff_exists.1 (ht (by rw [h2]; rfl))
    exact ⟨_, .term h1 hk h'⟩
  | non h1 h2 _ _ ih1 ih2 =>
    obtain ⟨a, ha⟩ := ih1
    obtain ⟨b, hb⟩ := ih2
    exact ⟨_, .non h1 h2 ha hb⟩
/-! What is reached. -/
inductive Rch (ps : List Pr) (a : Int) : Int → Prop
  | refl : Rch ps a a
  | step {p : Pr} {s : Int} : Rch ps a p.1 → p ∈ ps → s ∈ p.2 → 16 ≤ s → Rch ps a s
def rrules (ps : List Pr) (a : Int) : List Pr := (a, []) :: ps.flatMap fun p => (p.2.filter fun s => decide (16 ≤ s)).map fun s => (s, [p.1])
theorem mem_rrules {ps : List Pr} {a : Int} {q : Pr} : q ∈ rrules ps a ↔ q = (a, []) ∨ ∃ p s, p ∈ ps ∧ s ∈ p.2 ∧ 16 ≤ s ∧ q = (s, [p.1]) := by
  rw [rrules, List.mem_cons, List.mem_flatMap]
  constructor
  · rintro (h | ⟨p, hp, h⟩)
    · exact .inl h
    · obtain ⟨s, hs, rfl⟩ := List.mem_map.1 h
      obtain ⟨h1, h2⟩ := List.mem_filter.1 hs
      exact .inr ⟨p, s, hp, h1, of_decide_eq_true h2, rfl⟩
  · rintro (h | ⟨p, s, h1, h2, h3, rfl⟩)
    · exact .inl h
    · exact .inr ⟨p, h1, List.mem_map.2 ⟨s, List.mem_filter.2 ⟨h2, decide_eq_true h3⟩, rfl⟩⟩
theorem wf_rrules {ps : List Pr} {n : Nat} {a : Int} (hw : Wf ps n) (h1 : 16 ≤ a) (h2 : a < 16 + n) : Wf (rrules ps a) n := by
  refine ⟨hw.nn, ?_, ?_, ?_⟩
  · intro q hq
    rcases mem_rrules.1 hq with rfl | ⟨p, s, hp, hs, h16, rfl⟩
    · exact ⟨h1, h2⟩
    · exact ⟨h16, hw.syms p hp s hs⟩
  · intro q hq
    rcases mem_rrules.1 hq with rfl | ⟨p, s, hp, hs, h16, rfl⟩
    · exact Nat.zero_le _
    · show 1 ≤ 8; decide
  · intro q hq x hx
    rcases mem_rrules.1 hq with rfl | ⟨p, s, hp, hs, h16, rfl⟩
    · cases hx
    · have := List.mem_singleton.1 hx
      subst this
      exact (hw.left p hp).2
def reachL (ps : List Pr) (n : Nat) (a : Int) : List Bool := gen (rrules ps a) n false
/-- A table that is being made: what is marked is reached. -/
abbrev InvR (ps : List Pr) (n : Nat) (a : Int) (l : List Bool) : Prop := InvB (rrules ps a) n false l
theorem InvR.upd {ps : List Pr} {n : Nat} {a : Int} {l : List Bool} (h : InvR ps n a l) (hw : Wf ps n) (h1 : 16 ≤ a) (h2 : a < 16 + n) {p : Pr} {s : Int} (hp : p ∈ ps) (hs : s ∈ p.2) (h16 : 16 ≤ s) (h3 : bget l p.1 = true) (h4 : bget l s = false) :
    InvR ps n a (l.set (s - 16).toNat true) ∧ meas (tab (l.set (s - 16).toNat true)) < meas (tab l) := by
  refine InvB.upd (p := (s, [p.1])) h (wf_rrules hw h1 h2) (mem_rrules.2 (.inr ⟨p, s, hp, hs, h16, rfl⟩)) h4 ?_
  have := (hw.left p hp).1
  show (goodB false l p.1 && true) = true
  rw [goodB, if_neg (by omega), h3]; rfl
theorem InvR.done {ps : List Pr} {n : Nat} {a : Int} {l : List Bool} (h : InvR ps n a l) (hw : Wf ps n) (h1 : 16 ≤ a) (h2 : a < 16 + n) (ha : bget l a = true) (hs : ∀ p, p ∈ ps → bget l p.1 = true → ∀ s, s ∈ p.2 → 16 ≤ s → bget l s = true) : l = reachL ps n a := by
  refine InvB.done h (wf_rrules hw h1 h2) fun q hq => ?_
  rcases mem_rrules.1 hq with rfl | ⟨p, s, hp, hx, h16, rfl⟩
  · rw [ha]; rfl
  · have := (hw.left p hp).1
    show (!bget l s && (goodB false l p.1 && true)) = false
    rw [goodB, if_neg (by omega)]
    cases hb : bget l p.1 with
    | false => cases bget l s <;> rfl
    | true => rw [hs p hp hb s hx h16]; rfl
end Go.Proofs.YtiegoiadbklgjaaGreatDoor
set_option linter.unusedSimpArgs false
set_option linter.unusedVariables false
set_option maxHeartbeats 2000000
set_option maxRecDepth 20000
namespace Go.Proofs.YtiegoiadbklgjaaGreatDoor
open Go.RowKit
section
variable (E : Env) (L : List Res)
end
end Go.Proofs.YtiegoiadbklgjaaGreatDoor
set_option linter.unusedSimpArgs false
set_option linter.unusedVariables false
set_option maxHeartbeats 2000000
set_option maxRecDepth 20000
namespace Go.Proofs.YtiegoiadbklgjaaGreatDoor
open Go.RowKit
def bools (l : List Bool) : List Value := l.map fun b => .bool b
section
variable (E : Env) (L : List Res)
end
end Go.Proofs.YtiegoiadbklgjaaGreatDoor
set_option linter.unusedSimpArgs false
set_option linter.unusedVariables false
set_option maxHeartbeats 2000000
set_option maxRecDepth 20000
namespace Go.Proofs.YtiegoiadbklgjaaGreatDoor
open Go.RowKit
section
variable (E : Env) (L : List Res)
end
end Go.Proofs.YtiegoiadbklgjaaGreatDoor
set_option linter.unusedSimpArgs false
set_option linter.unusedVariables false
set_option maxHeartbeats 2000000
set_option maxRecDepth 20000
namespace Go.Proofs.YtiegoiadbklgjaaGreatDoor
open Go.RowKit
section
variable (E : Env) (L : List Res)
end
end Go.Proofs.YtiegoiadbklgjaaGreatDoor
set_option linter.unusedSimpArgs false
set_option linter.unusedVariables false
set_option maxHeartbeats 2000000
set_option maxRecDepth 20000
namespace Go.Proofs.YtiegoiadbklgjaaGreatDoor
open Go.RowKit
/-! Numbers that are marked in a map. -/
def marks (n : Nat) (ks : List Int) : List Bool := (List.range n).map fun i => decide ((16 : Int) + (i : Nat) ∈ ks)
section
variable (E : Env) (L : List Res)
end
end Go.Proofs.YtiegoiadbklgjaaGreatDoor
set_option linter.unusedSimpArgs false
set_option linter.unusedVariables false
set_option maxHeartbeats 2000000
set_option maxRecDepth 20000
namespace Go.Proofs.YtiegoiadbklgjaaGreatDoor
open Go.RowKit
structure Valid (g : Gr) : Prop where
  wf : Wf g.prods g.names.length
  start : 16 ≤ g.start ∧ g.start < 16 + g.names.length
  syms : ∀ p, p ∈ g.prods → ∀ s, s ∈ p.2 → (0 ≤ s ∧ s < g.toks.length) ∨ (16 ≤ s ∧ s < 16 + g.names.length)
  toks : 1 ≤ g.toks.length ∧ g.toks.length ≤ 8
  names : 1 ≤ g.names.length ∧ g.names.length ≤ 8
  prods : g.prods.length ≤ 24
  right : ∀ p, p ∈ g.prods → p.2.length ≤ 6
section
variable (E : Env) (L : List Res)
end
end Go.Proofs.YtiegoiadbklgjaaGreatDoor
set_option linter.unusedSimpArgs false
set_option linter.unusedVariables false
set_option maxHeartbeats 2000000
set_option maxRecDepth 20000
namespace Go.Proofs.YtiegoiadbklgjaaGreatDoor
open Go.RowKit
section
variable (E : Env) (L : List Res)
theorem SameGrammar_call (gv hv : Value) (g : Gr) (hg : GrE E gv g) (hh : GrE E hv g) (hl : Light g) : CallV Tryz.prog 24 #[gv, hv] E L (.bool true) := by
  obtain ⟨tp, tc, np, nc, pp, pc, rfl, ht, hn, ⟨rows, hrows, hps, hre⟩, k1, k2, k3⟩ := hg
  obtain ⟨tp', tc', np', nc', pp', pc', rfl, ht', hn', ⟨rows', hrows', hps', hre'⟩, k1', k2', k3'⟩ := hh
  have hlen : g.prods.length = rows.length := by rw [← hrows]; simp
  have hlen' : g.prods.length = rows'.length := by rw [← hrows']; simp
  have q1 := hl.t; have q2 := hl.n; have q3 := hl.p
  refine CallS.toV (CallS.intro (l := [_, _]) _ Tryz.func24 rfl Tryz.ntmps24 rfl ?_)
  refine G_seq (G_region ?_)
  (refine G_boxA rfl rfl rfl rfl (.none rfl) ?_; intro b2)
  (refine G_boxA rfl rfl rfl rfl (.none rfl) ?_; intro b3)
  refine Ga ?_
  refine G_end (X_then (G_seq (G_seq (G_region ?_))))
  refine Gv (V_fieldAddr rfl rfl (by decide)) ?_
  refine Gv (V_load rfl rfl (Cell.own (.tail _ (.head _)) rfl)) ?_
  refine Gv (V_fieldAddr rfl rfl (by decide)) ?_
  refine Gv (V_load rfl rfl (Cell.own (.head _) rfl)) ?_
  refine Gv (V_neq rfl rfl rfl) ?_
  refine Gm ?_
  refine G.bool_f 11 rfl (decide_eq_false (by omega)) ?_
  refine Gy (V_fieldAddr rfl rfl (by decide)) ?_
  refine Gy (V_load rfl rfl (Cell.own (.tail _ (.head _)) rfl)) ?_
  refine Gy (V_fieldAddr rfl rfl (by decide)) ?_
  refine Gy (V_load rfl rfl (Cell.own (.head _) rfl)) ?_
  refine G_callv (k := 51) (.mk rfl rfl rfl rfl) rfl rfl (.yes rfl rfl rfl rfl) (SameTexts_call' _ _ _ _ _ _ _ _ _ _ (by assumption) (by assumption) (by omega) (by omega)) ?_
  refine Gy (V_not rfl rfl) ?_
  refine Gv (V_pick_f rfl rfl rfl) ?_
  refine Gm ?_
  refine G.bool_f 19 rfl (by simp [*]; done) ?_
  refine Gy (V_fieldAddr rfl rfl (by decide)) ?_
  refine Gy (V_load rfl rfl (Cell.own (.tail _ (.head _)) rfl)) ?_
  refine Gy (V_fieldAddr rfl rfl (by decide)) ?_
  refine Gy (V_load rfl rfl (Cell.own (.head _) rfl)) ?_
  refine Gy (V_sneq rfl rfl rfl) ?_
  refine Gv (V_pick_f rfl rfl rfl) ?_
  refine Gm ?_
  refine G.bool_f 26 rfl (by simp [*]; done) ?_
  refine Gy (V_fieldAddr rfl rfl (by decide)) ?_
  refine Gy (V_load rfl rfl (Cell.own (.tail _ (.head _)) rfl)) ?_
  refine Gy (V_fieldAddr rfl rfl (by decide)) ?_
  refine Gy (V_load rfl rfl (Cell.own (.head _) rfl)) ?_
  refine G_callv (k := 51) (.mk rfl rfl rfl rfl) rfl rfl (.yes rfl rfl rfl rfl) (SameTexts_call' _ _ _ _ _ _ _ _ _ _ (by assumption) (by assumption) (by omega) (by omega)) ?_
  refine Gy (V_not rfl rfl) ?_
  refine Gv (V_pick_f rfl rfl rfl) ?_
  refine Gm ?_
  refine G.bool_f 34 rfl (by simp [*]; done) ?_
  refine Gy (V_fieldAddr rfl rfl (by decide)) ?_
  refine Gy (V_load rfl rfl (Cell.own (.tail _ (.head _)) rfl)) ?_
  refine Gy (V_fieldAddr rfl rfl (by decide)) ?_
  refine Gy (V_load rfl rfl (Cell.own (.head _) rfl)) ?_
  refine Gy (V_neq rfl rfl rfl) ?_
  refine Gv (V_pick_f rfl rfl rfl) ?_
  refine Gm ?_
  refine G.bool_f 41 rfl (decide_eq_false (by omega)) ?_
  refine Gy (V_fieldAddr rfl rfl (by decide)) ?_
  refine Gy (V_load rfl rfl (Cell.own (.tail _ (.head _)) rfl)) ?_
  refine Gy (V_lenS rfl rfl) ?_
  refine Gy (V_fieldAddr rfl rfl (by decide)) ?_
  refine Gy (V_load rfl rfl (Cell.own (.head _) rfl)) ?_
  refine Gy (V_lenS rfl rfl) ?_
  refine Gy (V_neq rfl rfl rfl) ?_
  refine Gv (V_pick_f rfl rfl rfl) ?_
  refine G_end (X_then ?_)
  refine G_cond_f rfl (decide_eq_false (by omega)) ?_
  refine G_skip (X_then (G_seq (G_seq (G_region ?_))))
  refine Ga ?_
  refine G_end (X_then (G_block ?_))
  refine G_loop (α := Nat) (fun i => [(2, .pointer (some ⟨b2, 0, none⟩)), (3, .pointer (some ⟨b3, 0, none⟩)), (5, .int .i64 i)]) (fun _ => E) (fun _ => .blk b3 (.cells #[.int .i64 g.k, .slice tp' g.toks.length tc', .string (S g.sep), .slice np' g.names.length nc', .int .i64 g.start, .slice pp' g.prods.length pc'] 25 (0, 0)) :: .blk b2 (.cells #[.int .i64 g.k, .slice tp g.toks.length tc, .string (S g.sep), .slice np g.names.length nc, .int .i64 g.start, .slice pp g.prods.length pc] 25 (0, 0)) :: L)
    (fun i => i ≤ rows.length) (fun i => rows.length - i) 0 (Nat.zero_le _) ⟨rfl, rfl, rfl, trivial⟩ rfl rfl ?_
  intro i hi
  by_cases hlt : i < rows.length
  · have hg1 := List.getElem?_eq_getElem hlt
    have hlt' : i < rows'.length := by omega
    have hg2 := List.getElem?_eq_getElem hlt'
    have he : rows'[i].2.2 = rows[i].2.2 := by
      have h1 : (rows'.map (·.2.2))[i]? = (rows.map (·.2.2))[i]? := by rw [hrows, hrows']
      simpa [hlt, hlt'] using h1
    have hyl := prows_left hg1
    have hyr := prows_right hg1
    have hyl' := prows_left hg2
    have hyr' := prows_right hg2
    have hre1 := hre.get hg1
    have hre2 := hre'.get hg2
    rw [he] at hyl' hyr' hre2
    have hp : rows[i].2.2 ∈ g.prods := by rw [← hrows]; exact List.mem_map.2 ⟨rows[i], List.getElem_mem hlt, rfl⟩
    have h8 := hl.ps _ hp
    refine G_seq (G_seq (G_region ?_))
    refine Gm ?_
    refine Gv (V_fieldAddr rfl rfl (by decide)) ?_
    refine Gv (V_load rfl rfl (Cell.own (.tail _ (.head _)) rfl)) ?_
    refine Gv (V_lenS rfl rfl) ?_
    refine Gv (V_lss rfl rfl rfl) ?_
    refine G_end (X_then ?_)
    refine G_cond_t rfl (decide_eq_true (by omega)) ?_
    refine G_skip (X_then (G_seq (G_block (G_seq ?_))))
    refine G_draw mixed (by kernel_rfl) ?_
    refine Q_val (V_fieldAddr rfl rfl (by decide)) rfl rfl (.none rfl) ?_
    refine Q_val (V_load rfl rfl (Cell.own (.tail _ (.head _)) rfl)) rfl rfl (.none rfl) ?_
    refine Q_val (V_move rfl rfl) rfl rfl (.none rfl) ?_
    refine Q_val (V_idxAddr rfl rfl rfl (SlE.rd (by assumption)) (by omega) (by omega)) rfl rfl (.none rfl) ?_
    refine Q_val (V_fieldAddrE rfl rfl (by assumption) (by omega) (by decide)) rfl rfl (.none rfl) ?_
    refine Q_val (V_loadS rfl rfl (SlE.rd (by assumption)) hyl (by simp)) rfl rfl (.none rfl) ?_
    refine Q_val (V_fieldAddr rfl rfl (by decide)) rfl rfl (.none rfl) ?_
    refine Q_val (V_load rfl rfl (Cell.own (.head _) rfl)) rfl rfl (.none rfl) ?_
    refine Q_val (V_move rfl rfl) rfl rfl (.none rfl) ?_
    refine Q_val (V_idxAddr rfl rfl rfl (SlE.rd (by assumption)) (by omega) (by omega)) rfl rfl (.none rfl) ?_
    refine Q_val (V_fieldAddrE rfl rfl (by assumption) (by omega) (by decide)) rfl rfl (.none rfl) ?_
    refine Q_val (V_loadS rfl rfl (SlE.rd (by assumption)) hyl' (by simp)) rfl rfl (.none rfl) ?_
    refine Q_val (V_neq rfl rfl rfl) rfl rfl (.none rfl) ?_
    refine Q_val (V_move rfl rfl) rfl rfl (.none rfl) ?_
    refine Q_bool_f 70 rfl (decide_eq_false (by omega)) ?_
    refine Q_val (V_fieldAddr rfl rfl (by decide)) rfl rfl (.yes rfl rfl rfl rfl) ?_
    refine Q_val (V_load rfl rfl (Cell.own (.tail _ (.head _)) rfl)) rfl rfl (.yes rfl rfl rfl rfl) ?_
    refine Q_val (V_move rfl rfl) rfl rfl (.yes rfl rfl rfl rfl) ?_
    refine Q_val (V_idxAddr rfl rfl rfl (SlE.rd (by assumption)) (by omega) (by omega)) rfl rfl (.yes rfl rfl rfl rfl) ?_
    refine Q_val (V_fieldAddrE rfl rfl (by assumption) (by omega) (by decide)) rfl rfl (.yes rfl rfl rfl rfl) ?_
    refine Q_val (V_loadS rfl rfl (SlE.rd (by assumption)) (by assumption) (by simp)) rfl rfl (.yes rfl rfl rfl rfl) ?_
    refine Q_val (V_fieldAddr rfl rfl (by decide)) rfl rfl (.yes rfl rfl rfl rfl) ?_
    refine Q_val (V_load rfl rfl (Cell.own (.head _) rfl)) rfl rfl (.yes rfl rfl rfl rfl) ?_
    refine Q_val (V_move rfl rfl) rfl rfl (.yes rfl rfl rfl rfl) ?_
    refine Q_val (V_idxAddr rfl rfl rfl (SlE.rd (by assumption)) (by omega) (by omega)) rfl rfl (.yes rfl rfl rfl rfl) ?_
    refine Q_val (V_fieldAddrE rfl rfl (by assumption) (by omega) (by decide)) rfl rfl (.yes rfl rfl rfl rfl) ?_
    refine Q_val (V_loadS rfl rfl (SlE.rd (by assumption)) (by assumption) (by simp)) rfl rfl (.yes rfl rfl rfl rfl) ?_
    refine Q_callv (k := 33) (.mk rfl rfl rfl rfl) rfl rfl (.yes rfl rfl rfl rfl) (SameInts_call' _ _ _ _ _ _ _ _ _ _ (by assumption) (by assumption) (by omega) (by omega)) ?_
    refine Q_val (V_not rfl rfl) rfl rfl (.yes rfl rfl rfl rfl) ?_
    refine Q_val (V_pick_f rfl rfl rfl) rfl rfl (.none rfl) ?_
    refine Q_end ?_
    refine X_then ?_
    refine G_cond_f rfl (by simp [*]; done) ?_
    refine G_skip (X_block (X_then (G_region ?_)))
    refine Gm ?_
    refine Gv (V_add_i64 rfl rfl rfl (by omega) (by omega)) ?_
    refine Ga ?_
    refine G_end (X_then ?_)
    exact G_again (i + 1) hlt (by omega) ⟨rfl, rfl, rfl, trivial⟩ rfl rfl
  · refine G_seq ?_
    refine G_seq (G_region ?_)
    refine Gm ?_
    refine Gv (V_fieldAddr rfl rfl (by decide)) ?_
    refine Gv (V_load rfl rfl (Cell.own (.tail _ (.head _)) rfl)) ?_
    refine Gv (V_lenS rfl rfl) ?_
    refine Gv (V_lss rfl rfl rfl) ?_
    refine G_end (X_then ?_)
    refine G_cond_f rfl (decide_eq_false (by omega)) ?_
    refine G_exit (X_then_exit (X_then_exit (X_block_hit (X_then (G_seq (G_region ?_))))))
    refine Ga ?_
    refine G_end (X_then (G_ret ?_))
    refine G_leaveS (.drop _ (.drop _ (.nil _))) (by exact (.cons (.tmp rfl) (.nil))) rfl ?_ ?_
    · exact (.refl _)
    exact ⟨(by kernel_rfl), rfl⟩
end
end Go.Proofs.YtiegoiadbklgjaaGreatDoor
set_option linter.unusedSimpArgs false
set_option linter.unusedVariables false
set_option maxHeartbeats 2000000
set_option maxRecDepth 20000
namespace Go.Proofs.YtiegoiadbklgjaaGreatDoor
open Go.RowKit
/-! The law StackMoves. -/
section
variable (E : Env) (L : List Res)
theorem light25_call (p : Option Addr) (n c : Nat) : CallV Tryz.prog 9 #[.slice p n c] E L (.bool (decide (n ≤ 70))) := by
  refine CallS.toV (CallS.intro (l := [_]) _ Tryz.func9 rfl Tryz.ntmps9 rfl ?_)
  by_cases h : n ≤ 70
  · refine G_seq ?_
    refine G_region ?_
    refine Ga ?_
    refine G_end (X_then (G_seq (G_region ?_)))
    refine Gm ?_
    refine Gv (V_lenS rfl rfl) ?_
    refine Gv (V_leq rfl rfl rfl) ?_
    refine Ga ?_
    refine G_end (X_then (G_ret ?_))
    refine G_leaveS (.nil _) (by exact (.cons (.tmp rfl) (.nil))) rfl ?_ ?_
    · exact (.refl _)
    exact ⟨(by ((try simp only [resVal]); (repeat' split) <;> first | rfl | (exfalso; omega) | (simp_all; done) | (simp_all; omega))), (by rfl)⟩
  · refine G_seq ?_
    refine G_region ?_
    refine Ga ?_
    refine G_end (X_then (G_seq (G_region ?_)))
    refine Gm ?_
    refine Gv (V_lenS rfl rfl) ?_
    refine Gv (V_leq rfl rfl rfl) ?_
    refine Ga ?_
    refine G_end (X_then (G_ret ?_))
    refine G_leaveS (.nil _) (by exact (.cons (.tmp rfl) (.nil))) rfl ?_ ?_
    · exact (.refl _)
    exact ⟨(by ((try simp only [resVal]); (repeat' split) <;> first | rfl | (exfalso; omega) | (simp_all; done) | (simp_all; omega))), (by rfl)⟩
theorem StackMoves_call (gv : Value) (g : Gr) (hg : GrE E gv g) (h1 : g.toks.length ≤ 9223372036854775807) (h2 : g.names.length ≤ 9223372036854775807) (h3 : g.prods.length ≤ 9223372036854775807) (h4 : ∀ p, p ∈ g.prods → p.2.length ≤ 9223372036854775807)
    (p : Option Addr) (n c : Nat) (l : List Spt) (hs : SlE E 2 p n (spC l)) (hn : n ≤ 9223372036854775807) (hc : n ≤ c) (k : Int) : CallS Tryz.prog 3 #[gv, .slice p n c, .int .i64 k] E L (fun r E' L' => r = .bool true ∧ L' = L) := by
  have hg0 := hg
  obtain ⟨tp, tc, np, nc, pp, pc, rfl, _⟩ := hg
  refine CallS.intro (l := [_, _, _]) _ Tryz.func3 rfl Tryz.ntmps3 rfl ?_
  cases hlb : lightB g with
  | false =>
    refine G_seq (G_region ?_)
    (refine G_boxA rfl rfl rfl rfl (.none rfl) ?_; intro b3)
    refine Ga ?_
    refine G_end (X_then (G_seq (G_seq (G_region ?_))))
    refine Gv (V_loadA rfl rfl (Cells.own (.head _)) rfl) ?_
    refine G_callv (k := 8) (.mk rfl rfl rfl rfl) rfl rfl (.none rfl) (LightGrammar_call _ _ _ _ (by assumption) (by assumption) (by assumption) (by assumption) (by assumption)) ?_
    refine Gv (V_not rfl rfl) ?_
    refine Gm ?_
    refine G.bool_t 24 rfl (by simp [*]; done) ?_
    refine Gn ?_
    refine Gn ?_
    refine Gn ?_
    refine Gv (V_pick_t rfl rfl rfl) ?_
    refine G_end (X_then ?_)
    refine G_cond_t rfl rfl ?_
    refine G_seq (G_region ?_)
    refine G_call (k := 10) (.mk rfl rfl rfl rfl) rfl rfl (.none rfl) (awake25_call _ _) ?_
    rintro r1 E2 L3 hE4 ⟨rfl, rfl⟩
    replace hs := hs.mono hE4
    replace hg0 := hg0.mono hE4
    refine Ga ?_
    refine G_end (X_then (G_ret (X_then_ret ?_)))
    refine G_leaveS (.drop _ (.nil _)) (by exact (.cons (.tmp rfl) (.nil))) rfl ?_ ?_
    · exact hE4
    exact ⟨(by kernel_rfl), rfl⟩
  | true =>
    have hl : Light g := lightB_iff.1 hlb
    by_cases h70 : n ≤ 70
    · refine G_seq ?_
      refine G_region ?_
      (refine G_boxA rfl rfl rfl rfl (.none rfl) ?_; intro b3)
      refine Ga ?_
      refine G_end (X_then (G_seq (G_seq (G_region ?_))))
      refine Gv (V_loadA rfl rfl (Cells.own (.head _)) rfl) ?_
      refine G_callv (k := 8) (.mk rfl rfl rfl rfl) rfl rfl (.none rfl) (LightGrammar_call _ _ _ _ (by assumption) (by assumption) (by assumption) (by assumption) (by assumption)) ?_
      refine Gv (V_not rfl rfl) ?_
      refine Gm ?_
      refine G.bool_f 24 rfl (by simp [*]; done) ?_
      refine Gy (V_move rfl rfl) ?_
      refine G_callv (k := 9) (.mk rfl rfl rfl rfl) rfl rfl (.yes rfl rfl rfl rfl) (light25_call _ _ _ _ _) ?_
      refine Gy (V_not rfl rfl) ?_
      refine Gv (V_pick_f rfl rfl rfl) ?_
      refine G_end (X_then ?_)
      refine G_cond_f rfl (by simp [*]; done) ?_
      refine G_skip (X_then (G_seq (G_region ?_)))
      refine Gv (V_loadA rfl rfl (Cells.own (.head _)) rfl) ?_
      refine G_call (k := 11) (.mk rfl rfl rfl rfl) rfl rfl (.none rfl) (OwnGrammar_call _ _ _ _ (by assumption) (by assumption)) ?_
      rintro r1 E2 L3 hE4 ⟨Z5, rfl⟩
      replace hs := hs.mono hE4
      replace hg0 := hg0.mono hE4
      refine Gm ?_
      refine G_call (k := 12) (.mk rfl rfl rfl rfl) rfl rfl (.none rfl) (Lown_call _ _ _ _ _ _ (by assumption) (by omega)) ?_
      rintro r6 E7 L8 hE9 ⟨z10, ⟨z11, ⟨rfl, ⟨Z12, ⟨Z13, rfl⟩⟩⟩⟩⟩
      replace Z5 := Z5.mono hE9
      replace hs := hs.mono hE9
      replace hg0 := hg0.mono hE9
      (refine G_alloc rfl rfl rfl (.none rfl) ?_; intro b7)
      have hgr : GrE E7 r1 g := by assumption
      have hg1 := hgr
      obtain ⟨tp', tc', np', nc', pp', pc', rfl, _⟩ := hgr
      refine G_storeA rfl rfl rfl rfl (by simp [Value.oneCell']) rfl (.none rfl) (.head _ _ _) rfl ?_
      refine Ga ?_
      refine G_end (X_then (G_seq (G_region ?_)))
      refine Gv (V_loadA rfl rfl (Cells.own (.head _)) rfl) ?_
      refine Gm ?_
      refine G_callv (k := 13) (.mk rfl rfl rfl rfl) rfl rfl (.none rfl) (Awaits_call _ _ _ _ (by assumption) (by assumption) _ _ _ _ (by assumption) (by assumption)) ?_
      refine Gm ?_
      refine Gv (V_extract rfl rfl rfl) ?_
      refine Gv (V_extract rfl rfl rfl) ?_
      refine Gv (V_extract rfl rfl rfl) ?_
      refine Ga ?_
      refine Ga ?_
      refine Ga ?_
      refine G_end (X_then (G_seq (G_region ?_)))
      refine Gv (V_loadA rfl rfl (Cells.own (.tail _ (.head _))) rfl) ?_
      refine Gm ?_
      refine G_callv (k := 14) (.mk rfl rfl rfl rfl) rfl rfl (.none rfl) (RAwaits_call _ _ _ _ (by assumption) (by assumption) _ _ _ _ (by assumption) (by assumption)) ?_
      refine Gm ?_
      refine Gv (V_extract rfl rfl rfl) ?_
      refine Gv (V_extract rfl rfl rfl) ?_
      refine Gv (V_extract rfl rfl rfl) ?_
      refine Ga ?_
      refine Ga ?_
      refine Ga ?_
      refine G_end (X_then (G_seq (G_seq ?_)))
      refine G_draw mixed (by kernel_rfl) ?_
      refine Q_val (V_loadA rfl rfl (Cells.own (.head _)) rfl) rfl rfl (.none rfl) ?_
      refine Q_val (V_move rfl rfl) rfl rfl (.none rfl) ?_
      refine Q_callv (k := 15) (.mk rfl rfl rfl rfl) rfl rfl (.none rfl) (SCheck_call _ _ _ _ (by assumption) (by assumption) _ _ _ _ (by assumption) (by assumption)) ?_
      refine Q_val (V_loadA rfl rfl (Cells.own (.tail _ (.head _))) rfl) rfl rfl (.none rfl) ?_
      refine Q_val (V_move rfl rfl) rfl rfl (.none rfl) ?_
      refine Q_callv (k := 16) (.mk rfl rfl rfl rfl) rfl rfl (.none rfl) (RSCheck_call _ _ _ _ (by assumption) (by assumption) _ _ _ _ (by assumption) (by assumption)) ?_
      refine Q_val (V_neq rfl rfl rfl) rfl rfl (.none rfl) ?_
      refine Q_val (V_move rfl rfl) rfl rfl (.none rfl) ?_
      refine Q_bool_f 55 rfl (decide_eq_false (by omega)) ?_
      refine Q_val (V_move rfl rfl) rfl rfl (.yes rfl rfl rfl rfl) ?_
      refine Q_val (V_move rfl rfl) rfl rfl (.yes rfl rfl rfl rfl) ?_
      refine Q_val (V_neq rfl rfl rfl) rfl rfl (.yes rfl rfl rfl rfl) ?_
      refine Q_val (V_pick_f rfl rfl rfl) rfl rfl (.none rfl) ?_
      refine Q_val (V_move rfl rfl) rfl rfl (.none rfl) ?_
      refine Q_bool_f 60 rfl (decide_eq_false (by omega)) ?_
      refine Q_val (V_move rfl rfl) rfl rfl (.yes rfl rfl rfl rfl) ?_
      refine Q_val (V_move rfl rfl) rfl rfl (.yes rfl rfl rfl rfl) ?_
      refine Q_val (V_neq rfl rfl rfl) rfl rfl (.yes rfl rfl rfl rfl) ?_
      refine Q_val (V_pick_f rfl rfl rfl) rfl rfl (.none rfl) ?_
      refine Q_val (V_move rfl rfl) rfl rfl (.none rfl) ?_
      refine Q_bool_f 65 rfl (decide_eq_false (by omega)) ?_
      refine Q_val (V_move rfl rfl) rfl rfl (.yes rfl rfl rfl rfl) ?_
      refine Q_val (V_move rfl rfl) rfl rfl (.yes rfl rfl rfl rfl) ?_
      refine Q_val (V_neq rfl rfl rfl) rfl rfl (.yes rfl rfl rfl rfl) ?_
      refine Q_val (V_pick_f rfl rfl rfl) rfl rfl (.none rfl) ?_
      refine Q_end ?_
      refine X_then ?_
      refine G_cond_f rfl (decide_eq_false (by omega)) ?_
      refine G_skip (X_then (G_seq (G_region ?_)))
      refine Gv (V_loadA rfl rfl (Cells.own (.head _)) rfl) ?_
      refine Gm ?_
      refine Gm ?_
      refine G_call (k := 17) (.mk rfl rfl rfl rfl) rfl rfl (.none rfl) (SPush_call _ _ _ _ (by assumption) (by assumption) _ _ _ _ (by assumption) (by assumption) (by assumption) _) ?_
      rintro r1 E3 L4 hE5 ⟨⟨z6, ⟨z7, ⟨z8, ⟨rfl, ⟨Z9, ⟨Z10, Z11⟩⟩⟩⟩⟩⟩, rfl⟩
      replace Z12 := Z12.mono hE5
      replace hs := hs.mono hE5
      replace hg0 := hg0.mono hE5
      replace Z5 := Z5.mono hE5
      replace hg1 := hg1.mono hE5
      refine Gm ?_
      refine Gv (V_extract rfl rfl rfl) ?_
      refine Gv (V_extract rfl rfl rfl) ?_
      refine Ga ?_
      refine Ga ?_
      refine G_end (X_then (G_seq (G_region ?_)))
      refine Gv (V_loadA rfl rfl (Cells.own (.tail _ (.head _))) rfl) ?_
      refine Gm ?_
      refine Gm ?_
      refine G_call (k := 18) (.mk rfl rfl rfl rfl) rfl rfl (.none rfl) (RPush_call _ _ _ _ (by assumption) (by assumption) _ _ _ _ (by assumption) (by assumption) (by assumption) _) ?_
      rintro r12 E13 L14 hE15 ⟨⟨z16, ⟨z17, ⟨z18, ⟨rfl, ⟨Z19, ⟨Z20, Z21⟩⟩⟩⟩⟩⟩, rfl⟩
      replace Z9 := Z9.mono hE15
      replace Z12 := Z12.mono hE15
      replace hs := hs.mono hE15
      replace hg0 := hg0.mono hE15
      replace Z5 := Z5.mono hE15
      replace hg1 := hg1.mono hE15
      refine Gm ?_
      refine Gv (V_extract rfl rfl rfl) ?_
      refine Gv (V_extract rfl rfl rfl) ?_
      refine Ga ?_
      refine Ga ?_
      refine G_end (X_then (G_seq (G_seq (G_region ?_))))
      refine Gm ?_
      refine Gm ?_
      refine G_callv (k := 19) (.mk rfl rfl rfl rfl) rfl rfl (.none rfl) (Same25_call _ _ _ _ _ _ _ _ _ _ (by assumption) (by assumption) (by omega) (by omega)) ?_
      refine Gv (V_not rfl rfl) ?_
      refine Gm ?_
      refine G.bool_f 88 rfl (by simp [*]; done) ?_
      refine Gy (V_move rfl rfl) ?_
      refine Gy (V_move rfl rfl) ?_
      refine Gy (V_neq rfl rfl rfl) ?_
      refine Gv (V_pick_f rfl rfl rfl) ?_
      refine G_end (X_then ?_)
      refine G_cond_f rfl (decide_eq_false (by omega)) ?_
      refine G_skip (X_then (G_seq (G_region ?_)))
      refine Gv (V_loadA rfl rfl (Cells.own (.head _)) rfl) ?_
      refine Gm ?_
      refine G_call (k := 20) (.mk rfl rfl rfl rfl) rfl rfl (.none rfl) (SMove_call _ _ _ _ (by assumption) (by assumption) _ _ _ _ (by assumption) (by assumption) (by assumption)) ?_
      rintro r22 E23 L24 hE25 ⟨⟨z26, ⟨z27, ⟨z28, ⟨rfl, ⟨Z29, ⟨Z30, Z31⟩⟩⟩⟩⟩⟩, rfl⟩
      replace Z19 := Z19.mono hE25
      replace Z9 := Z9.mono hE25
      replace Z12 := Z12.mono hE25
      replace hs := hs.mono hE25
      replace hg0 := hg0.mono hE25
      replace Z5 := Z5.mono hE25
      replace hg1 := hg1.mono hE25
      refine Gm ?_
      refine Gv (V_extract rfl rfl rfl) ?_
      refine Gv (V_extract rfl rfl rfl) ?_
      refine Ga ?_
      refine Ga ?_
      refine G_end (X_then (G_seq (G_region ?_)))
      refine Gv (V_loadA rfl rfl (Cells.own (.tail _ (.head _))) rfl) ?_
      refine Gm ?_
      refine G_call (k := 21) (.mk rfl rfl rfl rfl) rfl rfl (.none rfl) (RMove_call _ _ _ _ (by assumption) (by assumption) _ _ _ _ (by assumption) (by assumption) (by assumption)) ?_
      rintro r32 E33 L34 hE35 ⟨⟨z36, ⟨z37, ⟨z38, ⟨rfl, ⟨Z39, ⟨Z40, Z41⟩⟩⟩⟩⟩⟩, rfl⟩
      replace Z29 := Z29.mono hE35
      replace Z19 := Z19.mono hE35
      replace Z9 := Z9.mono hE35
      replace Z12 := Z12.mono hE35
      replace hs := hs.mono hE35
      replace hg0 := hg0.mono hE35
      replace Z5 := Z5.mono hE35
      replace hg1 := hg1.mono hE35
      refine Gm ?_
      refine Gv (V_extract rfl rfl rfl) ?_
      refine Gv (V_extract rfl rfl rfl) ?_
      refine Ga ?_
      refine Ga ?_
      refine G_end (X_then (G_seq (G_region ?_)))
      refine Gv (V_loadA rfl rfl (Cells.own (.head _)) rfl) ?_
      refine Gm ?_
      refine G_call (k := 22) (.mk rfl rfl rfl rfl) rfl rfl (.none rfl) (SPop_call _ _ _ _ (by assumption) (by assumption) _ _ _ _ (by assumption) (by assumption) (by assumption)) ?_
      rintro r42 E43 L44 hE45 ⟨⟨z46, ⟨z47, ⟨z48, ⟨rfl, ⟨Z49, ⟨Z50, Z51⟩⟩⟩⟩⟩⟩, rfl⟩
      replace Z39 := Z39.mono hE45
      replace Z29 := Z29.mono hE45
      replace Z19 := Z19.mono hE45
      replace Z9 := Z9.mono hE45
      replace Z12 := Z12.mono hE45
      replace hs := hs.mono hE45
      replace hg0 := hg0.mono hE45
      replace Z5 := Z5.mono hE45
      replace hg1 := hg1.mono hE45
      refine Gm ?_
      refine Gv (V_extract rfl rfl rfl) ?_
      refine Gv (V_extract rfl rfl rfl) ?_
      refine Ga ?_
      refine Ga ?_
      refine G_end (X_then (G_seq (G_region ?_)))
      refine Gv (V_loadA rfl rfl (Cells.own (.tail _ (.head _))) rfl) ?_
      refine Gm ?_
      refine G_call (k := 23) (.mk rfl rfl rfl rfl) rfl rfl (.none rfl) (RPop_call _ _ _ _ (by assumption) (by assumption) _ _ _ _ (by assumption) (by assumption) (by assumption)) ?_
      rintro r52 E53 L54 hE55 ⟨⟨z56, ⟨z57, ⟨z58, ⟨rfl, ⟨Z59, ⟨Z60, Z61⟩⟩⟩⟩⟩⟩, rfl⟩
      replace Z49 := Z49.mono hE55
      replace Z39 := Z39.mono hE55
      replace Z29 := Z29.mono hE55
      replace Z19 := Z19.mono hE55
      replace Z9 := Z9.mono hE55
      replace Z12 := Z12.mono hE55
      replace hs := hs.mono hE55
      replace hg0 := hg0.mono hE55
      replace Z5 := Z5.mono hE55
      replace hg1 := hg1.mono hE55
      refine Gm ?_
      refine Gv (V_extract rfl rfl rfl) ?_
      refine Gv (V_extract rfl rfl rfl) ?_
      refine Ga ?_
      refine Ga ?_
      refine G_end (X_then (G_seq (G_region ?_)))
      refine Gm ?_
      refine Gm ?_
      refine G_callv (k := 19) (.mk rfl rfl rfl rfl) rfl rfl (.none rfl) (Same25_call _ _ _ _ _ _ _ _ _ _ (by assumption) (by assumption) (by omega) (by omega)) ?_
      refine Gm ?_
      refine G.bool_t 120 rfl (by simp [*]; done) ?_
      refine Gy (V_move rfl rfl) ?_
      refine Gy (V_move rfl rfl) ?_
      refine Gy (V_eql rfl rfl rfl) ?_
      refine Gv (V_pick_t rfl rfl rfl) ?_
      refine Gm ?_
      refine G.bool_t 125 rfl (decide_eq_true (by omega)) ?_
      refine Gy (V_move rfl rfl) ?_
      refine Gy (V_move rfl rfl) ?_
      refine G_callv (k := 19) (.mk rfl rfl rfl rfl) rfl rfl (.yes rfl rfl rfl rfl) (Same25_call _ _ _ _ _ _ _ _ _ _ (by assumption) (by assumption) (by omega) (by omega)) ?_
      refine Gv (V_pick_t rfl rfl rfl) ?_
      refine Gm ?_
      refine G.bool_t 130 rfl (by simp [*]; done) ?_
      refine Gy (V_move rfl rfl) ?_
      refine Gy (V_move rfl rfl) ?_
      refine Gy (V_eql rfl rfl rfl) ?_
      refine Gv (V_pick_t rfl rfl rfl) ?_
      refine Gm ?_
      refine G.bool_t 135 rfl (decide_eq_true (by omega)) ?_
      refine Gy (V_move rfl rfl) ?_
      refine Gy (V_move rfl rfl) ?_
      refine G_callv (k := 19) (.mk rfl rfl rfl rfl) rfl rfl (.yes rfl rfl rfl rfl) (Same25_call _ _ _ _ _ _ _ _ _ _ (by assumption) (by assumption) (by omega) (by omega)) ?_
      refine Gv (V_pick_t rfl rfl rfl) ?_
      refine Gm ?_
      refine G.bool_t 140 rfl (by simp [*]; done) ?_
      refine Gy (V_loadA rfl rfl (Cells.own (.head _)) rfl) ?_
      refine Gy (V_loadA rfl rfl (Cells.own (.tail _ (.head _))) rfl) ?_
      refine G_callv (k := 24) (.mk rfl rfl rfl rfl) rfl rfl (.yes rfl rfl rfl rfl) (SameGrammar_call _ _ _ _ _ (by assumption) (by assumption) (by assumption)) ?_
      refine Gv (V_pick_t rfl rfl rfl) ?_
      refine Gm ?_
      refine G_call (k := 10) (.mk rfl rfl rfl rfl) rfl rfl (.yes rfl rfl rfl rfl) (awake25_call _ _) ?_
      rintro r62 E63 L64 hE65 ⟨rfl, rfl⟩
      replace Z59 := Z59.mono hE65
      replace Z49 := Z49.mono hE65
      replace Z39 := Z39.mono hE65
      replace Z29 := Z29.mono hE65
      replace Z19 := Z19.mono hE65
      replace Z9 := Z9.mono hE65
      replace Z12 := Z12.mono hE65
      replace hs := hs.mono hE65
      replace hg0 := hg0.mono hE65
      replace Z5 := Z5.mono hE65
      replace hg1 := hg1.mono hE65
      refine Gv (V_pick_t rfl rfl rfl) ?_
      refine Ga ?_
      refine G_end (X_then (G_ret ?_))
      refine G_leaveS (.drop _ (.drop _ (.nil _))) (by exact (.cons (.tmp rfl) (.nil))) rfl ?_ ?_
      · exact ((((((((hE4.trans hE9).trans hE5).trans hE15).trans hE25).trans hE35).trans hE45).trans hE55).trans hE65)
      exact ⟨(by kernel_rfl), rfl⟩
    · refine G_seq ?_
      refine G_region ?_
      (refine G_boxA rfl rfl rfl rfl (.none rfl) ?_; intro b3)
      refine Ga ?_
      refine G_end (X_then (G_seq (G_seq (G_region ?_))))
      refine Gv (V_loadA rfl rfl (Cells.own (.head _)) rfl) ?_
      refine G_callv (k := 8) (.mk rfl rfl rfl rfl) rfl rfl (.none rfl) (LightGrammar_call _ _ _ _ (by assumption) (by assumption) (by assumption) (by assumption) (by assumption)) ?_
      refine Gv (V_not rfl rfl) ?_
      refine Gm ?_
      refine G.bool_f 24 rfl (by simp [*]; done) ?_
      refine Gy (V_move rfl rfl) ?_
      refine G_callv (k := 9) (.mk rfl rfl rfl rfl) rfl rfl (.yes rfl rfl rfl rfl) (light25_call _ _ _ _ _) ?_
      refine Gy (V_not rfl rfl) ?_
      refine Gv (V_pick_f rfl rfl rfl) ?_
      refine G_end (X_then ?_)
      refine G_cond_t rfl (by simp [*]; done) ?_
      refine G_seq (G_region ?_)
      refine G_call (k := 10) (.mk rfl rfl rfl rfl) rfl rfl (.none rfl) (awake25_call _ _) ?_
      rintro r1 E2 L3 hE4 ⟨rfl, rfl⟩
      replace hs := hs.mono hE4
      replace hg0 := hg0.mono hE4
      refine Ga ?_
      refine G_end (X_then (G_ret (X_then_ret ?_)))
      refine G_leaveS (.drop _ (.nil _)) (by exact (.cons (.tmp rfl) (.nil))) rfl ?_ ?_
      · exact hE4
      exact ⟨(by kernel_rfl), rfl⟩
end
end Go.Proofs.YtiegoiadbklgjaaGreatDoor
namespace Go.Proofs.YtiegoiadbklgjaaGreatDoor
/-! What the row of StackMoves needs, together. -/
end Go.Proofs.YtiegoiadbklgjaaGreatDoor
