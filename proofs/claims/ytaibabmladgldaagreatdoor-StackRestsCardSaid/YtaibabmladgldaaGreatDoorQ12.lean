/-
  Rules and contracts, packed: S31, S36, T15, S38.
-/
import Derived.Test.YtaibabmladgldaaGreatDoorQ11
set_option maxHeartbeats 1000000
namespace Go.Proofs.YtaibabmladgldaaGreatDoor
open Go.RowKit
/-! Plain law: texts of stacks are read back. -/
theorem notbad {s : Spt} : ¬ badT s ↔ (0 ≤ s.1 ∧ s.1 < 1000) ∧ 0 ≤ s.2 ∧ s.2 < 1000 := by
  simp only [badT]
  omega
theorem txtE_zero : ∀ {l : List Spt}, (∀ s, s ∈ l → ¬ badT s) → txtE l = 0 := by
  intro l
  induction l with
  | nil => intro _; rfl
  | cons s l ih =>
    intro h
    simp only [txtE]
    rw [if_neg (h s (.head _)), ih (fun x hx => h x (.tail _ hx))]
theorem spT_eq (s : Spt) : spT s = dec s.1 ++ 58 :: dec s.2 := by simp [spT]
theorem spT_no32 {s : Spt} (h : ¬ badT s) : (32 : UInt8) ∉ spT s := by
  obtain ⟨h1, h2⟩ := notbad.1 h
  rw [spT_eq]
  simp only [List.mem_append, List.mem_cons, not_or]
  exact ⟨dig_ne (goodN_dig (dec_good h1).1).1 rfl, by decide, dig_ne (goodN_dig (dec_good h2).1).1 rfl⟩
theorem wordM_spT {s : Spt} (h : ¬ badT s) : wordM (spT s) = some s := by
  obtain ⟨h1, h2⟩ := notbad.1 h
  rw [spT_eq, wordM_mk (dec_good h1).1 (dec_good h2).1, spv, (dec_good h1).2, (dec_good h2).2]
theorem jnS_cons (x y : List UInt8) (l : List (List UInt8)) : jnS (x :: y :: l) = x ++ 32 :: jnS (y :: l) := by simp [jnS]
theorem split_jn : ∀ {l : List (List UInt8)} {x : List UInt8}, (∀ w, w ∈ x :: l → (32 : UInt8) ∉ w) → splitB 32 (jnS (x :: l)) = x :: l := by
  intro l
  induction l with
  | nil =>
    intro x h
    have : jnS [x] = x := by simp [jnS]
    rw [this, splitB_notin _ _ (h x (.head _))]
  | cons y l ih =>
    intro x h
    rw [jnS_cons, splitB_app _ _ _ (h x (.head _)), ih (fun w hw => h w (.tail _ hw))]
theorem wordsM_map : ∀ {l : List Spt}, (∀ s, s ∈ l → ¬ badT s) → wordsM (l.map spT) = some l := by
  intro l
  induction l with
  | nil => intro _; rfl
  | cons s l ih =>
    intro h
    simp only [List.map_cons, wordsM, wordM_spT (h s (.head _)), ih (fun x hx => h x (.tail _ hx))]
theorem jn_split : ∀ s : List UInt8, jnS (splitB 32 s) = s := by
  intro s
  induction s with
  | nil => rfl
  | cons b s ih =>
    unfold splitB
    by_cases hb : b = 32
    · rw [if_pos hb]
      cases h : splitB 32 s with
      | nil => exact absurd h (splitB_ne 32 s)
      | cons p ps => rw [jnS_cons, ← h, ih, hb]; rfl
    · rw [if_neg hb]
      cases h : splitB 32 s with
      | nil => exact absurd h (splitB_ne 32 s)
      | cons p ps =>
        rw [h] at ih
        simp only [jnS, List.cons_append] at ih ⊢
        rw [ih]
theorem wordM_back {w : List UInt8} {x : Spt} (h : wordM w = some x) : spT x = w ∧ ¬ badT x := by
  obtain ⟨a, b, ha, hb, rfl, rfl⟩ := wordM_some h
  obtain ⟨h1, h2⟩ := goodN_dec ha
  obtain ⟨h3, h4⟩ := goodN_dec hb
  refine ⟨by rw [spT_eq, h1, h3], notbad.2 ?_⟩
  simp only
  omega
theorem wordsM_back : ∀ {ws : List (List UInt8)} {l : List Spt}, wordsM ws = some l → l.map spT = ws ∧ ∀ s, s ∈ l → ¬ badT s := by
  intro ws
  induction ws with
  | nil => intro l h; cases h; exact ⟨rfl, fun s hs => by cases hs⟩
  | cons w ws ih =>
    intro l h
    simp only [wordsM] at h
    split at h
    · rename_i x xs h1 h2
      cases h
      obtain ⟨i1, i2⟩ := ih h2
      obtain ⟨j1, j2⟩ := wordM_back h1
      refine ⟨by rw [List.map_cons, j1, i1], fun s hs => ?_⟩
      rcases List.mem_cons.1 hs with rfl | hs
      · exact j2
      · exact i2 s hs
    · cases h
theorem text_parse {l : List Spt} (h64 : l.length ≤ 64) (h : ∀ s, s ∈ l → ¬ badT s) : (txtM l).2 = 0 ∧ parseM (txtM l).1 = (l, 0) := by
  unfold txtM
  rw [if_neg (by omega), if_neg (by rw [txtE_zero h]; simp)]
  cases l with
  | nil => rw [if_pos rfl]; exact ⟨rfl, rfl⟩
  | cons s l =>
    rw [if_neg (by simp)]
    refine ⟨rfl, ?_⟩
    have hw : wordsM (splitB 32 (jnS ((s :: l).map spT))) = some (s :: l) := by
      rw [List.map_cons, split_jn, ← List.map_cons, wordsM_map h]
      intro w hw
      rw [← List.map_cons] at hw
      obtain ⟨x, hx, rfl⟩ := List.mem_map.1 hw
      exact spT_no32 (h x hx)
    unfold parseM
    simp only
    rw [if_neg, hw]
    · simp only
      rw [if_neg (by omega)]
    · intro e
      rw [e] at hw
      have : wordsM (splitB 32 [45]) = none := by decide +kernel
      rw [this] at hw
      cases hw
theorem parse_text {s : List UInt8} {k : List Spt} (h : parseM s = (k, 0)) : txtM k = (s, 0) ∧ k.length ≤ 64 ∧ ∀ x, x ∈ k → ¬ badT x := by
  unfold parseM at h
  split at h
  · rename_i hs
    cases h
    exact ⟨by rw [hs]; rfl, by simp, fun x hx => by cases hx⟩
  · split at h
    · cases h
    · rename_i l hl
      split at h
      · cases h
      · rename_i h64
        cases h
        obtain ⟨h1, h2⟩ := wordsM_back hl
        have hne : k ≠ [] := fun e => by
          rw [e] at h1
          exact splitB_ne 32 s h1.symm
        refine ⟨?_, by omega, h2⟩
        unfold txtM
        rw [if_neg (by omega), if_neg (by rw [txtE_zero h2]; simp), if_neg hne, h1, jn_split]
theorem parse_nil {s : List UInt8} (h : (parseM s).2 ≠ 0) : (parseM s).1 = [] := by
  unfold parseM at h ⊢
  split at h
  · exact absurd rfl h
  · rename_i h1
    rw [if_neg h1]
    split at h
    · rfl
    · rename_i l h2
      split at h
      · rename_i h3; rw [if_pos h3]
      · exact absurd rfl h
theorem small_in {g : Gr} (hg : gcheck g = 0) {l : List Spt} (h : chkS g l = 0) : ∀ s, s ∈ l → ¬ badT s := by
  intro s hs
  have ho := chkS_in h s hs
  simp only [outS, not_or, Int.not_lt, Int.not_le] at ho
  have hv := valid_of hg
  have h24 := hv.prods
  obtain ⟨k, hk⟩ : ∃ k : Nat, s.1 = k := ⟨s.1.toNat, by omega⟩
  have hpk : g.prods[k]? = some g.prods[k] := List.getElem?_eq_getElem (by omega)
  have h6 := hv.right _ (List.mem_of_getElem? hpk)
  rw [hk, rightP_eq hpk] at ho
  exact notbad.2 (by omega)
end Go.Proofs.YtaibabmladgldaaGreatDoor
set_option linter.unusedSimpArgs false
set_option linter.unusedVariables false
set_option maxHeartbeats 2000000
set_option maxRecDepth 20000
namespace Go.Proofs.YtaibabmladgldaaGreatDoor
open Go.RowKit
/-! The law StackBack. -/
theorem txt_len {l : List Spt} (h : l.length ≤ 64) : (txtM l).1.length ≤ 600 := by
  have hj : ∀ ws : List (List UInt8), (∀ w, w ∈ ws → w.length ≤ 7) → (jnS ws).length ≤ 8 * ws.length := by
    intro ws
    cases ws with
    | nil => intro _; simp [jnS]
    | cons x ws =>
      intro h1
      have hx := h1 x (.head _)
      have h2 : ∀ vs : List (List UInt8), (∀ w, w ∈ vs → w.length ≤ 7) → (vs.flatMap fun y => (32 : UInt8) :: y).length ≤ 8 * vs.length := by
        intro vs
        induction vs with
        | nil => intro _; simp
        | cons v vs ih =>
          intro h3
          have := ih (fun w hw => h3 w (.tail _ hw))
          have := h3 v (.head _)
          simp only [List.flatMap_cons, List.length_append, List.length_cons]
          omega
      have := h2 ws (fun w hw => h1 w (.tail _ hw))
      simp only [jnS, List.length_append, List.length_cons]
      omega
  unfold txtM
  split
  · simp
  · split
    · simp
    · split
      · simp
      · have := hj (l.map spT) (fun w hw => by obtain ⟨s, _, rfl⟩ := List.mem_map.1 hw; exact spT_len s)
        rw [List.length_map] at this
        simp only
        omega
section
variable (E : Env) (L : List Res)
theorem SText_call' (hT : LaidS E) (p : Option Addr) (n c : Nat) (l : List Spt) (hs : SlE E 2 p n (spC l)) (hn : n ≤ 9223372036854775807) (t : List UInt8) (e : Int) (h : txtM l = (t, e)) : CallS Tryz.prog 26 #[.slice p n c] E L (fun r E' L' => r = .tuple #[.string (S t), .int .i64 e] ∧ L' = L) := by
  have hc := SText_call E L (fun x => 0 ≤ x ∧ x < 1000) (fun E0 x h0 hx => ItoaOk_all E0 x hx (hT.pow.mono h0)) p n c l hs hn (fun s _ hb => notbad.1 hb)
  rw [h] at hc
  exact hc
theorem SParse_call' (hT : LaidS E) (s : List UInt8) (hs : s.length ≤ 1000) (l : List Spt) (e : Int) (h : parseM s = (l, e)) : CallS Tryz.prog 8 #[.string (S s)] E L (fun r E' L' => (∃ a c', r = .tuple #[.slice a l.length c', .int .i64 e] ∧ SlE E' 2 a l.length (spC l) ∧ l.length ≤ c' ∧ l.length ≤ 1000) ∧ L' = L) := by
  refine CallS.mono (SParse_call E L s hs hT) ?_
  rintro r E' L' _ ⟨⟨a, n', c', h1, h2, h3, h4⟩, h5⟩
  rw [h] at h1 h2
  obtain rfl : n' = l.length := h2.nSp
  exact ⟨⟨a, c', h1, h2, h3, h4⟩, h5⟩
theorem StackBack_call (hT : LaidS E) (p1 : Option Addr) (c1 : Nat) (xs1 : List Int) (hx1 : SlE E 1 p1 xs1.length (i64s xs1)) (hn1 : xs1.length ≤ 9223372036854775807) (hb1 : ∀ n, n ∈ xs1 → -9223372036854775808 ≤ n ∧ n ≤ 9223372036854775807)
    (p2 : Option Addr) (c2 : Nat) (xs2 : List Int) (hx2 : SlE E 1 p2 xs2.length (i64s xs2)) (hn2 : xs2.length ≤ 9223372036854775807) (hb2 : ∀ n, n ∈ xs2 → -9223372036854775808 ≤ n ∧ n ≤ 9223372036854775807) (s : List UInt8) (hs : s.length ≤ 9223372036854775807) :
    CallS Tryz.prog 6 #[.slice p1 xs1.length c1, .slice p2 xs2.length c2, .string (S s)] E L (fun r E' L' => r = .bool true ∧ L' = L) := by
  refine CallS.intro (l := [_, _, _]) _ Tryz.func6 rfl Tryz.ntmps6 rfl ?_
  refine G_seq (G_region ?_)
  refine Ga ?_
  refine G_end (X_then (G_seq (G_region ?_)))
  refine G_call (k := 4) (.mk rfl rfl rfl rfl) rfl rfl (.none rfl) (StackKnown_call _ _ hT) ?_
  rintro x1 E1 L1 hE1 ⟨rfl, rfl⟩
  replace hx1 := hx1.mono hE1
  replace hx2 := hx2.mono hE1
  replace hT := hT.mono hE1
  refine Ga ?_
  refine G_end (X_then (G_seq (G_region ?_)))
  refine Gm ?_
  refine G_call (k := 21) (.mk rfl rfl rfl rfl) rfl rfl (.none rfl) (Any_call _ _ p1 c1 xs1 hx1 hn1 hb1) ?_
  rintro gv E2 L2 hE2 ⟨g, hg, hl, hgc, rfl⟩
  replace hx2 := hx2.mono hE2
  replace hT := hT.mono hE2
  refine Gm ?_
  refine G_call (k := 22) (.mk rfl rfl rfl rfl) rfl rfl (.none rfl) (walked_call _ _ _ g hg hl hgc p2 _ c2 xs2 hx2 hn2 hb2) ?_
  rintro x3 E3 L3 hE3 ⟨⟨a, ca, l, rfl, hsl, hca, hl30, hch⟩, rfl⟩
  replace hT := hT.mono hE3
  obtain ⟨ht1, ht2⟩ := text_parse (l := l) (by omega) (small_in hgc hch)
  have htl := txt_len (l := l) (by omega)
  obtain ⟨tx, te, htx⟩ : ∃ tx te, txtM l = (tx, te) := ⟨_, _, rfl⟩
  rw [htx] at ht1 ht2 htl
  simp only at ht1 ht2 htl
  subst ht1
  obtain ⟨kk, e, hp⟩ : ∃ kk e, parseM s = (kk, e) := ⟨_, _, rfl⟩
  by_cases h100 : 100 < s.length
  · refine Gm ?_
    refine Gv (V_extract rfl rfl rfl) ?_
    refine Gv (V_extract rfl rfl rfl) ?_
    refine Ga ?_
    refine Ga ?_
    refine G_end (X_then (G_seq (G_region ?_)))
    refine Gm ?_
    refine G_call (k := 26) (.mk rfl rfl rfl rfl) rfl rfl (.none rfl) (SText_call' _ _ (by assumption) _ _ _ _ (by assumption) (by omega) _ _ (by assumption)) ?_
    rintro r1 E4 L5 hE6 ⟨rfl, rfl⟩
    replace hsl := hsl.mono hE6
    replace hT := hT.mono hE6
    refine Gm ?_
    refine Gv (V_extract rfl rfl rfl) ?_
    refine Gv (V_extract rfl rfl rfl) ?_
    refine Ga ?_
    refine Ga ?_
    refine G_end (X_then (G_seq (G_region ?_)))
    refine Gm ?_
    refine G_call (k := 8) (.mk rfl rfl rfl rfl) rfl rfl (.none rfl) (SParse_call' _ _ (by assumption) _ (by omega) _ _ (by assumption)) ?_
    rintro r7 E8 L9 hE10 ⟨⟨z11, ⟨z12, ⟨rfl, ⟨Z13, ⟨Z14, Z15⟩⟩⟩⟩⟩, rfl⟩
    replace hsl := hsl.mono hE10
    replace hT := hT.mono hE10
    refine Gm ?_
    refine Gv (V_extract rfl rfl rfl) ?_
    refine Gv (V_extract rfl rfl rfl) ?_
    refine Ga ?_
    refine Ga ?_
    refine G_end (X_then (G_seq (G_seq (G_region ?_))))
    refine Gm ?_
    refine Gv (V_not rfl rfl) ?_
    refine Gm ?_
    refine G.bool_f 38 rfl (by kernel_rfl) ?_
    refine Gy (V_move rfl rfl) ?_
    refine Gy (V_neq rfl rfl rfl) ?_
    refine Gv (V_pick_f rfl rfl rfl) ?_
    refine Gm ?_
    refine G.bool_f 42 rfl (by kernel_rfl) ?_
    refine Gy (V_move rfl rfl) ?_
    refine Gy (V_neq rfl rfl rfl) ?_
    refine Gv (V_pick_f rfl rfl rfl) ?_
    refine Gm ?_
    refine G.bool_f 46 rfl (by kernel_rfl) ?_
    refine Gy (V_move rfl rfl) ?_
    refine Gy (V_move rfl rfl) ?_
    refine G_callv (k := 27) (.mk rfl rfl rfl rfl) rfl rfl (.yes rfl rfl rfl rfl) (SSame_call _ _ _ _ _ _ _ _ _ _ (by assumption) (by assumption) (by omega) (by omega)) ?_
    refine Gy (V_not rfl rfl) ?_
    refine Gv (V_pick_f rfl rfl rfl) ?_
    refine G_end (X_then ?_)
    refine G_cond_f rfl (by simp [*]; done) ?_
    refine G_skip (X_then (G_seq (G_seq (G_region ?_))))
    refine Gm ?_
    refine Gv (V_len rfl rfl) ?_
    refine Gv (V_gtr rfl rfl rfl) ?_
    refine G_end (X_then ?_)
    refine G_cond_t rfl (decide_eq_true (by omega)) ?_
    refine G_seq (G_region ?_)
    refine Gm ?_
    refine Ga ?_
    refine G_end (X_then (G_ret (X_then_ret ?_)))
    refine G_leaveS (.nil _) (by exact (.cons (.tmp rfl) (.nil))) rfl ?_ ?_
    · exact ((((hE1.trans hE2).trans hE3).trans hE6).trans hE10)
    exact ⟨(by kernel_rfl), rfl⟩
  · by_cases he : e = 0
    · subst he
      obtain ⟨hk1, hk2, _⟩ := parse_text hp
      refine Gm ?_
      refine Gv (V_extract rfl rfl rfl) ?_
      refine Gv (V_extract rfl rfl rfl) ?_
      refine Ga ?_
      refine Ga ?_
      refine G_end (X_then (G_seq (G_region ?_)))
      refine Gm ?_
      refine G_call (k := 26) (.mk rfl rfl rfl rfl) rfl rfl (.none rfl) (SText_call' _ _ (by assumption) _ _ _ _ (by assumption) (by omega) _ _ (by assumption)) ?_
      rintro r1 E4 L5 hE6 ⟨rfl, rfl⟩
      replace hsl := hsl.mono hE6
      replace hT := hT.mono hE6
      refine Gm ?_
      refine Gv (V_extract rfl rfl rfl) ?_
      refine Gv (V_extract rfl rfl rfl) ?_
      refine Ga ?_
      refine Ga ?_
      refine G_end (X_then (G_seq (G_region ?_)))
      refine Gm ?_
      refine G_call (k := 8) (.mk rfl rfl rfl rfl) rfl rfl (.none rfl) (SParse_call' _ _ (by assumption) _ (by omega) _ _ (by assumption)) ?_
      rintro r7 E8 L9 hE10 ⟨⟨z11, ⟨z12, ⟨rfl, ⟨Z13, ⟨Z14, Z15⟩⟩⟩⟩⟩, rfl⟩
      replace hsl := hsl.mono hE10
      replace hT := hT.mono hE10
      refine Gm ?_
      refine Gv (V_extract rfl rfl rfl) ?_
      refine Gv (V_extract rfl rfl rfl) ?_
      refine Ga ?_
      refine Ga ?_
      refine G_end (X_then (G_seq (G_seq (G_region ?_))))
      refine Gm ?_
      refine Gv (V_not rfl rfl) ?_
      refine Gm ?_
      refine G.bool_f 38 rfl (by kernel_rfl) ?_
      refine Gy (V_move rfl rfl) ?_
      refine Gy (V_neq rfl rfl rfl) ?_
      refine Gv (V_pick_f rfl rfl rfl) ?_
      refine Gm ?_
      refine G.bool_f 42 rfl (by kernel_rfl) ?_
      refine Gy (V_move rfl rfl) ?_
      refine Gy (V_neq rfl rfl rfl) ?_
      refine Gv (V_pick_f rfl rfl rfl) ?_
      refine Gm ?_
      refine G.bool_f 46 rfl (by kernel_rfl) ?_
      refine Gy (V_move rfl rfl) ?_
      refine Gy (V_move rfl rfl) ?_
      refine G_callv (k := 27) (.mk rfl rfl rfl rfl) rfl rfl (.yes rfl rfl rfl rfl) (SSame_call _ _ _ _ _ _ _ _ _ _ (by assumption) (by assumption) (by omega) (by omega)) ?_
      refine Gy (V_not rfl rfl) ?_
      refine Gv (V_pick_f rfl rfl rfl) ?_
      refine G_end (X_then ?_)
      refine G_cond_f rfl (by simp [*]; done) ?_
      refine G_skip (X_then (G_seq (G_seq (G_region ?_))))
      refine Gm ?_
      refine Gv (V_len rfl rfl) ?_
      refine Gv (V_gtr rfl rfl rfl) ?_
      refine G_end (X_then ?_)
      refine G_cond_f rfl (decide_eq_false (by omega)) ?_
      refine G_skip (X_then (G_seq (G_region ?_)))
      refine Gm ?_
      refine G_call (k := 8) (.mk rfl rfl rfl rfl) rfl rfl (.none rfl) (SParse_call' _ _ (by assumption) _ (by omega) _ _ (by assumption)) ?_
      rintro r16 E17 L18 hE19 ⟨⟨z20, ⟨z21, ⟨rfl, ⟨Z22, ⟨Z23, Z24⟩⟩⟩⟩⟩, rfl⟩
      replace Z13 := Z13.mono hE19
      replace hsl := hsl.mono hE19
      replace hT := hT.mono hE19
      refine Gm ?_
      refine Gv (V_extract rfl rfl rfl) ?_
      refine Gv (V_extract rfl rfl rfl) ?_
      refine Ga ?_
      refine Ga ?_
      refine G_end (X_then (G_seq (G_seq (G_region ?_))))
      refine Gm ?_
      refine Gv (V_neq rfl rfl rfl) ?_
      refine G_end (X_then ?_)
      refine G_cond_f rfl (by kernel_rfl) ?_
      refine G_skip (X_then (G_seq (G_region ?_)))
      refine Gm ?_
      refine G_call (k := 26) (.mk rfl rfl rfl rfl) rfl rfl (.none rfl) (SText_call' _ _ (by assumption) _ _ _ _ (by assumption) (by omega) _ _ (by assumption)) ?_
      rintro r25 E26 L27 hE28 ⟨rfl, rfl⟩
      replace Z22 := Z22.mono hE28
      replace Z13 := Z13.mono hE28
      replace hsl := hsl.mono hE28
      replace hT := hT.mono hE28
      refine Gm ?_
      refine Gv (V_extract rfl rfl rfl) ?_
      refine Gv (V_extract rfl rfl rfl) ?_
      refine Ga ?_
      refine Ga ?_
      refine G_end (X_then (G_seq (G_region ?_)))
      refine Gm ?_
      refine Gm ?_
      refine Gy (V_move rfl rfl) ?_
      refine Gy (V_eql rfl rfl rfl) ?_
      refine Gv (V_pick_t rfl rfl rfl) ?_
      refine Gm ?_
      refine G.bool_t 79 rfl (by kernel_rfl) ?_
      refine Gy (V_move rfl rfl) ?_
      refine Gy (V_move rfl rfl) ?_
      refine Gy (V_seql rfl rfl rfl) ?_
      refine Gv (V_pick_t rfl rfl rfl) ?_
      refine Ga ?_
      refine G_end (X_then (G_ret ?_))
      refine G_leaveS (.nil _) (by exact (.cons (.tmp rfl) (.nil))) rfl ?_ ?_
      · exact ((((((hE1.trans hE2).trans hE3).trans hE6).trans hE10).trans hE19).trans hE28)
      exact ⟨(by (simp (discharger := omega) only [resVal, if_pos, if_neg]; first | done | rfl)), (by rfl)⟩
    · have hkn : kk = [] := by have := parse_nil (s := s) (by rw [hp]; exact he); rwa [hp] at this
      subst hkn
      have h0 : ([] : List Spt).length = 0 := rfl
      refine Gm ?_
      refine Gv (V_extract rfl rfl rfl) ?_
      refine Gv (V_extract rfl rfl rfl) ?_
      refine Ga ?_
      refine Ga ?_
      refine G_end (X_then (G_seq (G_region ?_)))
      refine Gm ?_
      refine G_call (k := 26) (.mk rfl rfl rfl rfl) rfl rfl (.none rfl) (SText_call' _ _ (by assumption) _ _ _ _ (by assumption) (by omega) _ _ (by assumption)) ?_
      rintro r1 E4 L5 hE6 ⟨rfl, rfl⟩
      replace hsl := hsl.mono hE6
      replace hT := hT.mono hE6
      refine Gm ?_
      refine Gv (V_extract rfl rfl rfl) ?_
      refine Gv (V_extract rfl rfl rfl) ?_
      refine Ga ?_
      refine Ga ?_
      refine G_end (X_then (G_seq (G_region ?_)))
      refine Gm ?_
      refine G_call (k := 8) (.mk rfl rfl rfl rfl) rfl rfl (.none rfl) (SParse_call' _ _ (by assumption) _ (by omega) _ _ (by assumption)) ?_
      rintro r7 E8 L9 hE10 ⟨⟨z11, ⟨z12, ⟨rfl, ⟨Z13, ⟨Z14, Z15⟩⟩⟩⟩⟩, rfl⟩
      replace hsl := hsl.mono hE10
      replace hT := hT.mono hE10
      refine Gm ?_
      refine Gv (V_extract rfl rfl rfl) ?_
      refine Gv (V_extract rfl rfl rfl) ?_
      refine Ga ?_
      refine Ga ?_
      refine G_end (X_then (G_seq (G_seq (G_region ?_))))
      refine Gm ?_
      refine Gv (V_not rfl rfl) ?_
      refine Gm ?_
      refine G.bool_f 38 rfl (by kernel_rfl) ?_
      refine Gy (V_move rfl rfl) ?_
      refine Gy (V_neq rfl rfl rfl) ?_
      refine Gv (V_pick_f rfl rfl rfl) ?_
      refine Gm ?_
      refine G.bool_f 42 rfl (by kernel_rfl) ?_
      refine Gy (V_move rfl rfl) ?_
      refine Gy (V_neq rfl rfl rfl) ?_
      refine Gv (V_pick_f rfl rfl rfl) ?_
      refine Gm ?_
      refine G.bool_f 46 rfl (by kernel_rfl) ?_
      refine Gy (V_move rfl rfl) ?_
      refine Gy (V_move rfl rfl) ?_
      refine G_callv (k := 27) (.mk rfl rfl rfl rfl) rfl rfl (.yes rfl rfl rfl rfl) (SSame_call _ _ _ _ _ _ _ _ _ _ (by assumption) (by assumption) (by omega) (by omega)) ?_
      refine Gy (V_not rfl rfl) ?_
      refine Gv (V_pick_f rfl rfl rfl) ?_
      refine G_end (X_then ?_)
      refine G_cond_f rfl (by simp [*]; done) ?_
      refine G_skip (X_then (G_seq (G_seq (G_region ?_))))
      refine Gm ?_
      refine Gv (V_len rfl rfl) ?_
      refine Gv (V_gtr rfl rfl rfl) ?_
      refine G_end (X_then ?_)
      refine G_cond_f rfl (decide_eq_false (by omega)) ?_
      refine G_skip (X_then (G_seq (G_region ?_)))
      refine Gm ?_
      refine G_call (k := 8) (.mk rfl rfl rfl rfl) rfl rfl (.none rfl) (SParse_call' _ _ (by assumption) _ (by omega) _ _ (by assumption)) ?_
      rintro r16 E17 L18 hE19 ⟨⟨z20, ⟨z21, ⟨rfl, ⟨Z22, ⟨Z23, Z24⟩⟩⟩⟩⟩, rfl⟩
      replace Z13 := Z13.mono hE19
      replace hsl := hsl.mono hE19
      replace hT := hT.mono hE19
      refine Gm ?_
      refine Gv (V_extract rfl rfl rfl) ?_
      refine Gv (V_extract rfl rfl rfl) ?_
      refine Ga ?_
      refine Ga ?_
      refine G_end (X_then (G_seq (G_seq (G_region ?_))))
      refine Gm ?_
      refine Gv (V_neq rfl rfl rfl) ?_
      refine G_end (X_then ?_)
      refine G_cond_t rfl (decide_eq_true (by omega)) ?_
      refine G_seq (G_region ?_)
      refine Gm ?_
      refine Gm ?_
      refine Gy (V_move rfl rfl) ?_
      refine Gy (V_lenS rfl rfl) ?_
      refine Gy (V_eql rfl rfl rfl) ?_
      refine Gv (V_pick_t rfl rfl rfl) ?_
      refine Ga ?_
      refine G_end (X_then (G_ret (X_then_ret ?_)))
      refine G_leaveS (.nil _) (by exact (.cons (.tmp rfl) (.nil))) rfl ?_ ?_
      · exact (((((hE1.trans hE2).trans hE3).trans hE6).trans hE10).trans hE19)
      exact ⟨(by kernel_rfl), rfl⟩
end
end Go.Proofs.YtaibabmladgldaaGreatDoor
namespace Go.Proofs.YtaibabmladgldaaGreatDoor
open Go.RowKit
/-! What the row lays for texts of numbers. LAID internal/strconv.uint64pow10 strconv.ErrSyntax strconv.ErrRange -/
abbrev pow10s : List Int := [1, 10, 100, 1000, 10000, 100000, 1000000, 10000000, 100000000, 1000000000, 10000000000, 100000000000, 1000000000000, 10000000000000, 100000000000000, 1000000000000000, 10000000000000000, 100000000000000000, 1000000000000000000, 10000000000000000000]
abbrev RowLaid (E : Env) : Prop := LaidS E
theorem rowLaid {W : World} {laid : List (String × DataW Unit)} {d1 d2 : DataW Unit} (h : laidMet Tryz.prog laid W) (h0 : ("internal/strconv.uint64pow10", DataW.agg (pow10s.map fun n => .lit (.int .u64 n))) ∈ laid) (h1 : ("strconv.ErrSyntax", d1) ∈ laid) (h2 : ("strconv.ErrRange", d2) ∈ laid) : RowLaid (Env.of W) :=
  ⟨laid_ints (i := 2) (j := 4) (n := 2) h h0 (show Tryz.prog.globalNamed "internal/strconv.uint64pow10" = some 5 by kernel_rfl) (show (Tryz.prog.globals[5]?).map (·.type) = some 145 by kernel_rfl) Tryz.underlying145 Tryz.underlying122 (by kernel_rfl) rfl (by decide),
    laid_face h h1 (show Tryz.prog.globalNamed "strconv.ErrSyntax" = some 3 by kernel_rfl) (show (Tryz.prog.globals[3]?).map (·.type) = some 83 by kernel_rfl) Tryz.underlying83,
    laid_face h h2 (show Tryz.prog.globalNamed "strconv.ErrRange" = some 4 by kernel_rfl) (show (Tryz.prog.globals[4]?).map (·.type) = some 83 by kernel_rfl) Tryz.underlying83⟩
end Go.Proofs.YtaibabmladgldaaGreatDoor
namespace Go.Proofs.YtaibabmladgldaaGreatDoor
/-! What the rows of StackRests and StackBack need, together. -/
end Go.Proofs.YtaibabmladgldaaGreatDoor
