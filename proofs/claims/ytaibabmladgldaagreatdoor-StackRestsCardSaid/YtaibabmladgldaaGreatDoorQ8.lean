/-
  Rules and contracts, packed: S34, S8, S12, Sep27, Sep28, L1, L2, Sep29, Sep31, Sep32, T0, T1, S13, T2.
-/
import Derived.Lib.Builder
import Derived.Lib.AppendStr
import Derived.Lib.UnsafeStr
import Derived.Lib.Bytealg
import Derived.Laws.Externs
import Derived.Lib.ConvBytes
import Derived.Laws.Runes
import Derived.Laws.CopyRow
import Derived.Laws.IdiomCopy
import Derived.Lib.MakeNoZero
import Derived.Test.YtaibabmladgldaaGreatDoorQ7
set_option maxHeartbeats 1000000
set_option linter.unusedSimpArgs false
set_option linter.unusedVariables false
set_option maxHeartbeats 2000000
set_option maxRecDepth 20000
namespace Go.Proofs.YtaibabmladgldaaGreatDoor
open Go.RowKit
/-! The law's walked: steps made of numbers; it never fails for a grammar that is right. -/
theorem awaitM_ok {g : Gr} {l : List Spt} (h : chkS g l = 0) : awaitM g l = ((awS g.prods l).1, (awS g.prods l).2, 0) := by
  unfold awaitM
  rw [if_neg (fun h1 => h1 h)]
/-- The productions of x among the first k. -/
def idxP (ps : List Pr) (x : Int) (k : Nat) : List Nat := (List.range k).filter fun p => decide (leftP ps (p : Nat) = x)
theorem idxP_succ (ps : List Pr) (x : Int) (k : Nat) : idxP ps x (k + 1) = if leftP ps (k : Nat) = x then idxP ps x k ++ [k] else idxP ps x k := by
  unfold idxP
  rw [List.range_succ, List.filter_append]
  by_cases h : leftP ps (k : Nat) = x
  · simp [h]
  · simp [h]
theorem idxP_mem {ps : List Pr} {x : Int} {k p : Nat} : p ∈ idxP ps x k ↔ p < k ∧ leftP ps (p : Nat) = x := by simp [idxP]
theorem idxP_len (ps : List Pr) (x : Int) (k : Nat) : (idxP ps x k).length ≤ k := by
  have := List.length_filter_le (fun p => decide (leftP ps (p : Nat) = x)) (List.range k)
  rwa [List.length_range] at this
section
variable (E : Env) (L : List Res)
theorem walked_call (gv : Value) (g : Gr) (hg : GrE E gv g) (hl : Light g) (hgc : gcheck g = 0) (p : Option Addr) (n c : Nat) (xs : List Int) (hx : SlE E 1 p n (i64s xs)) (hn : n ≤ 9223372036854775807) (hb : ∀ n, n ∈ xs → -9223372036854775808 ≤ n ∧ n ≤ 9223372036854775807) :
    CallS Tryz.prog 22 #[gv, .slice p n c] E L (fun r E' L' => (∃ a c' l, r = .tuple #[.slice a l.length c', .bool true] ∧ SlE E' 2 a l.length (spC l) ∧ l.length ≤ c' ∧ l.length ≤ 30 ∧ chkS g l = 0) ∧ L' = L) := by
  have en := hx.nI
  subst en
  have hg0 := hg
  obtain ⟨tp, tc, np, nc, pp, pc, rfl, ht, hn', ⟨rows, hrows, hps, hre⟩, k1, k2, k3⟩ := hg
  have hlen : g.prods.length = rows.length := by rw [← hrows]; simp
  have q3 := hl.p
  have hnil0 : chkS g [] = 0 := (chk_iff hgc []).2 ⟨by simp, rfl⟩
  refine CallS.intro (l := [_, _]) _ Tryz.func22 rfl Tryz.ntmps22 rfl ?_
  refine G_seq (G_region ?_)
  (refine G_boxA rfl rfl rfl rfl (.none rfl) ?_; intro b2)
  refine Ga ?_
  refine Ga ?_
  refine G_end (X_then (G_seq (G_region ?_)))
  refine Ga ?_
  refine G_end (X_then (G_seq (G_seq (G_region ?_))))
  refine Ga ?_
  refine G_end (X_then (G_block ?_))
  refine G_loop (α := Nat × Env × Option Addr × Nat × List Spt) (fun x => [(1, .slice p xs.length c), (2, .pointer (some ⟨b2, 0, none⟩)), (6, .slice x.2.2.1 x.2.2.2.2.length x.2.2.2.1), (7, .int .i64 x.1)]) (fun x => x.2.1) (fun _ => GB b2 g tp tc np nc pp pc :: L)
    (fun x => E.Le x.2.1 ∧ x.1 ≤ xs.length ∧ x.1 ≤ 30 ∧ SlE x.2.1 2 x.2.2.1 x.2.2.2.2.length (spC x.2.2.2.2) ∧ x.2.2.2.2.length ≤ x.2.2.2.1 ∧ x.2.2.2.2.length ≤ x.1 ∧ chkS g x.2.2.2.2 = 0) (fun x => xs.length - x.1) (0, E, none, 0, [])
    ⟨.refl _, Nat.zero_le _, by simp, SlE.nil, Nat.le_refl _, Nat.le_refl _, hnil0⟩ ⟨rfl, rfl, rfl, rfl, trivial⟩ rfl rfl ?_
  rintro ⟨i, E1, a, ca, l⟩ ⟨hE, hi, hi30, hs, hca, hli, hch⟩
  simp only at hE hi hi30 hs hca hli hch ⊢
  replace hg0 := hg0.mono hE
  replace hx := hx.mono hE
  replace hps := hps.mono hE
  by_cases hgo : i < xs.length ∧ i < 30
  · obtain ⟨hgo1, hgo2⟩ := hgo
    have ha := fun L0 => Awaits_call E1 L0 _ g hg0 hl a l.length ca l hs (by omega)
    rw [awaitM_ok hch] at ha
    have hk3 := awS_kind g.prods l
    have hxi := i64s_at (l := xs) (i := i) (by omega)
    have hbi := hb _ (List.getElem_mem hgo1)
    by_cases h1 : (awS g.prods l).1 = 1
    · rw [h1] at ha
      have hmv := move_ok hch h1
      have hbc := (bump_chk hgc hch (.inl h1)).1
      have hbl := bump_len l
      refine G_seq (G_seq (G_region ?_))
      refine Gm ?_
      refine Gm ?_
      refine Gv (V_lenS rfl rfl) ?_
      refine Gv (V_lss rfl rfl rfl) ?_
      refine Gm ?_
      refine G.bool_t 18 rfl (decide_eq_true (by omega)) ?_
      refine Gy (V_move rfl rfl) ?_
      refine Gy (V_lss rfl rfl rfl) ?_
      refine Gv (V_pick_t rfl rfl rfl) ?_
      refine G_end (X_then ?_)
      refine G_cond_t rfl (decide_eq_true (by omega)) ?_
      refine G_skip (X_then (G_seq (G_block (G_seq (G_region ?_)))))
      refine Gv (V_loadA rfl rfl (Cells.own (.head _)) rfl) ?_
      refine Gm ?_
      refine G_callv (k := 24) (.mk rfl rfl rfl rfl) rfl rfl (.none rfl) (ha _) ?_
      refine Gm ?_
      refine Gv (V_extract rfl rfl rfl) ?_
      refine Gv (V_extract rfl rfl rfl) ?_
      refine Gv (V_extract rfl rfl rfl) ?_
      refine Ga ?_
      refine Ga ?_
      refine Ga ?_
      refine G_end (X_then (G_seq (G_seq (G_region ?_))))
      refine Gm ?_
      refine Gv (V_neq rfl rfl rfl) ?_
      refine G_end (X_then ?_)
      refine G_cond_f rfl (by simp [*]; done) ?_
      refine G_skip (X_then (G_seq (G_region ?_)))
      refine Ga ?_
      refine G_end (X_then (G_seq (G_seq (G_region ?_))))
      refine Gm ?_
      refine G_end (X_then (G_block (G_seq (G_region ?_))))
      refine Gv (V_eql rfl rfl rfl) ?_
      refine Ga ?_
      refine G_end (X_then ?_)
      refine G_cond_t rfl (by kernel_rfl) ?_
      refine G_region ?_
      refine Gv (V_loadA rfl rfl (Cells.own (.head _)) rfl) ?_
      refine Gm ?_
      refine G_call (k := 14) (.mk rfl rfl rfl rfl) rfl rfl (.none rfl) (SMove_call _ _ _ g hg0 hl a _ ca l hs (by omega) hca) ?_
      rintro x2 E2 L2 hE2 ⟨⟨a2, n2, c2, rfl, hs2, hc2, hn2⟩, rfl⟩
      rw [hmv] at hs2 ⊢
      obtain rfl : n2 = (bump l).length := hs2.nSp
      refine Gm ?_
      refine Gv (V_extract rfl rfl rfl) ?_
      refine Gv (V_extract rfl rfl rfl) ?_
      refine Ga ?_
      refine Ga ?_
      refine G_end (X_block (X_then (G_seq (G_seq (G_region ?_)))))
      refine Gm ?_
      refine Gv (V_neq rfl rfl rfl) ?_
      refine G_end (X_then ?_)
      refine G_cond_f rfl (decide_eq_false (by omega)) ?_
      refine G_skip (X_then (G_region ?_))
      refine Gm ?_
      refine Ga ?_
      refine G_end (X_block (X_then (G_region ?_)))
      refine Gm ?_
      refine Gv (V_add_i64 rfl rfl rfl (by omega) (by omega)) ?_
      refine Ga ?_
      refine G_end (X_then ?_)
      exact G_again (i + 1, E2, a2, c2, bump l) ⟨hE.trans hE2, hgo1, hgo2, hs2, hc2, by simp only; omega, hbc⟩ (by simp only; omega) ⟨rfl, rfl, rfl, rfl, trivial⟩ rfl rfl
    by_cases h3 : (awS g.prods l).1 = 3
    · rw [h3] at ha
      have hmv := pop_ok hch h3
      have hbc := drop_chk hgc hch
      have hbl : l.dropLast.length = l.length - 1 := List.length_dropLast
      refine G_seq (G_seq (G_region ?_))
      refine Gm ?_
      refine Gm ?_
      refine Gv (V_lenS rfl rfl) ?_
      refine Gv (V_lss rfl rfl rfl) ?_
      refine Gm ?_
      refine G.bool_t 18 rfl (decide_eq_true (by omega)) ?_
      refine Gy (V_move rfl rfl) ?_
      refine Gy (V_lss rfl rfl rfl) ?_
      refine Gv (V_pick_t rfl rfl rfl) ?_
      refine G_end (X_then ?_)
      refine G_cond_t rfl (decide_eq_true (by omega)) ?_
      refine G_skip (X_then (G_seq (G_block (G_seq (G_region ?_)))))
      refine Gv (V_loadA rfl rfl (Cells.own (.head _)) rfl) ?_
      refine Gm ?_
      refine G_callv (k := 24) (.mk rfl rfl rfl rfl) rfl rfl (.none rfl) (ha _) ?_
      refine Gm ?_
      refine Gv (V_extract rfl rfl rfl) ?_
      refine Gv (V_extract rfl rfl rfl) ?_
      refine Gv (V_extract rfl rfl rfl) ?_
      refine Ga ?_
      refine Ga ?_
      refine Ga ?_
      refine G_end (X_then (G_seq (G_seq (G_region ?_))))
      refine Gm ?_
      refine Gv (V_neq rfl rfl rfl) ?_
      refine G_end (X_then ?_)
      refine G_cond_f rfl (by simp [*]; done) ?_
      refine G_skip (X_then (G_seq (G_region ?_)))
      refine Ga ?_
      refine G_end (X_then (G_seq (G_seq (G_region ?_))))
      refine Gm ?_
      refine G_end (X_then (G_block (G_seq (G_region ?_))))
      refine Gv (V_eql rfl rfl rfl) ?_
      refine Ga ?_
      refine G_end (X_then ?_)
      refine G_cond_f rfl (by kernel_rfl) ?_
      refine G_seq (G_region ?_)
      refine Gv (V_eql rfl rfl rfl) ?_
      refine Ga ?_
      refine G_end (X_then ?_)
      refine G_cond_t rfl (by kernel_rfl) ?_
      refine G_region ?_
      refine Gv (V_loadA rfl rfl (Cells.own (.head _)) rfl) ?_
      refine Gm ?_
      refine G_call (k := 15) (.mk rfl rfl rfl rfl) rfl rfl (.none rfl) (SPop_call _ _ _ g hg0 hl a _ ca l hs (by omega) hca) ?_
      rintro x2 E2 L2 hE2 ⟨⟨a2, n2, c2, rfl, hs2, hc2, hn2⟩, rfl⟩
      rw [hmv] at hs2 ⊢
      obtain rfl : n2 = l.dropLast.length := hs2.nSp
      refine Gm ?_
      refine Gv (V_extract rfl rfl rfl) ?_
      refine Gv (V_extract rfl rfl rfl) ?_
      refine Ga ?_
      refine Ga ?_
      refine G_end (X_block (X_then (G_seq (G_seq (G_region ?_)))))
      refine Gm ?_
      refine Gv (V_neq rfl rfl rfl) ?_
      refine G_end (X_then ?_)
      refine G_cond_f rfl (decide_eq_false (by omega)) ?_
      refine G_skip (X_then (G_region ?_))
      refine Gm ?_
      refine Ga ?_
      refine G_end (X_block (X_then (G_region ?_)))
      refine Gm ?_
      refine Gv (V_add_i64 rfl rfl rfl (by omega) (by omega)) ?_
      refine Ga ?_
      refine G_end (X_then ?_)
      exact G_again (i + 1, E2, a2, c2, l.dropLast) ⟨hE.trans hE2, hgo1, hgo2, hs2, hc2, by simp only; omega, hbc⟩ (by simp only; omega) ⟨rfl, rfl, rfl, rfl, trivial⟩ rfl rfl
    have hk : (awS g.prods l).1 = 0 ∨ (awS g.prods l).1 = 2 := by omega
    obtain ⟨q0, hq0, hq1⟩ := wantP_some hgc hch hk
    have hpos : 0 < (idxP g.prods (wantP g l) g.prods.length).length := List.length_pos_of_mem (idxP_mem.2 ⟨hq0, hq1⟩)
    have hall : ∀ y, y ∈ idxP g.prods (wantP g l) g.prods.length → y < g.prods.length ∧ leftP g.prods (y : Nat) = wantP g l := fun y hy => idxP_mem.1 hy
    have hix := idxP_len g.prods (wantP g l) g.prods.length
    have hixs := idxP_succ g.prods (wantP g l)
    have hil := idxP_len g.prods (wantP g l)
    have hpush : ∀ y, y ∈ idxP g.prods (wantP g l) g.prods.length → pushM g l (y : Nat) = (bump l ++ [((y : Int), 0)], 0) ∧ chkS g (bump l ++ [((y : Int), 0)]) = 0 := fun y hy => push_ok hgc hch hk (by omega) (hall y hy).1 (hall y hy).2
    have hlf : ∀ j, (h : j < rows.length) → leftP g.prods (j : Nat) = rows[j].2.2.1 := fun j h => leftP_eq (by rw [← hrows, List.getElem?_map, List.getElem?_eq_getElem h]; rfl)
    have hbl := bump_len l
    refine G_seq (G_seq (G_region ?_))
    refine Gm ?_
    refine Gm ?_
    refine Gv (V_lenS rfl rfl) ?_
    refine Gv (V_lss rfl rfl rfl) ?_
    refine Gm ?_
    refine G.bool_t 18 rfl (decide_eq_true (by omega)) ?_
    refine Gy (V_move rfl rfl) ?_
    refine Gy (V_lss rfl rfl rfl) ?_
    refine Gv (V_pick_t rfl rfl rfl) ?_
    refine G_end (X_then ?_)
    refine G_cond_t rfl (decide_eq_true (by omega)) ?_
    refine G_skip (X_then (G_seq (G_block (G_seq (G_region ?_)))))
    refine Gv (V_loadA rfl rfl (Cells.own (.head _)) rfl) ?_
    refine Gm ?_
    refine G_callv (k := 24) (.mk rfl rfl rfl rfl) rfl rfl (.none rfl) (ha _) ?_
    refine Gm ?_
    refine Gv (V_extract rfl rfl rfl) ?_
    refine Gv (V_extract rfl rfl rfl) ?_
    refine Gv (V_extract rfl rfl rfl) ?_
    refine Ga ?_
    refine Ga ?_
    refine Ga ?_
    refine G_end (X_then (G_seq (G_seq (G_region ?_))))
    refine Gm ?_
    refine Gv (V_neq rfl rfl rfl) ?_
    refine G_end (X_then ?_)
    refine G_cond_f rfl (by simp [*]; done) ?_
    refine G_skip (X_then (G_seq (G_region ?_)))
    refine Ga ?_
    refine G_end (X_then (G_seq (G_seq (G_region ?_))))
    refine Gm ?_
    refine G_end (X_then (G_block (G_seq (G_region ?_))))
    refine Gv (V_eql rfl rfl rfl) ?_
    refine Ga ?_
    refine G_end (X_then ?_)
    refine G_cond_f rfl (decide_eq_false (by omega)) ?_
    refine G_seq (G_region ?_)
    refine Gv (V_eql rfl rfl rfl) ?_
    refine Ga ?_
    refine G_end (X_then ?_)
    refine G_cond_f rfl (decide_eq_false (by omega)) ?_
    refine G_seq (G_seq (G_region ?_))
    refine Gm ?_
    refine Gv (V_eql rfl rfl rfl) ?_
    refine G_end (X_then ?_)
    refine G_ways (Y := ?Y) (β := Int) (J := fun w => w = wantP g l) (fs' := fun w => [(1, .slice p xs.length c), (2, .pointer (some ⟨b2, 0, none⟩)), (6, .slice a l.length ca), (7, .int .i64 i), (9, .int .i64 w), (12, .slice none 0 0), (13, .int .i64 0)]) (E' := fun _ => E1) (L' := fun _ => GB b2 g tp tc np nc pp pc :: L) ?_ ?_
    rotate_left
    · intro hk2
      by_cases h0 : (awS g.prods l).1 = 0
      · have hw : g.start = wantP g l := by rw [wantP, if_pos h0]
        refine G_cond_t rfl (decide_eq_true (by omega)) ?_
        refine G_region ?_
        refine Gv (V_fieldAddr rfl rfl (by decide)) ?_
        refine Gv (V_load rfl rfl (Cell.own (.head _) rfl)) ?_
        refine Ga ?_
        refine G_end (X_then (G_seq (G_region ?_)))
        refine Ga ?_
        refine G_end (X_then (G_seq (G_seq (G_region ?_))))
        refine Ga ?_
        refine G_end (X_then (G_block ?_))
        refine G.sub [(1, .slice p xs.length c), (2, .pointer (some ⟨b2, 0, none⟩)), (6, .slice a l.length ca), (7, .int .i64 i), (9, .int .i64 g.start), (12, .slice none 0 0), (13, .int .i64 0)] ⟨rfl, rfl, rfl, rfl, rfl, rfl, rfl, trivial⟩ ?_
        exact hk2 g.start hw
      · have hw : (awS g.prods l).2 = wantP g l := by rw [wantP, if_neg h0]
        refine G_cond_f rfl (decide_eq_false (by omega)) ?_
        refine G_skip (X_then (G_seq (G_region ?_)))
        refine Ga ?_
        refine G_end (X_then (G_seq (G_seq (G_region ?_))))
        refine Ga ?_
        refine G_end (X_then (G_block ?_))
        refine G.sub [(1, .slice p xs.length c), (2, .pointer (some ⟨b2, 0, none⟩)), (6, .slice a l.length ca), (7, .int .i64 i), (9, .int .i64 (awS g.prods l).2), (12, .slice none 0 0), (13, .int .i64 0)] ⟨rfl, rfl, rfl, rfl, rfl, rfl, rfl, trivial⟩ ?_
        exact hk2 _ hw
    · rintro w rfl
      generalize wantP g l = w at *
      refine G.nilSl 3 1 ?_
      refine G_loop (α := Nat × Env × Option Addr × Nat) (fun y => [(1, .slice p xs.length c), (2, .pointer (some ⟨b2, 0, none⟩)), (6, .slice a l.length ca), (7, .int .i64 i), (9, .int .i64 w), (12, .slice y.2.2.1 (idxP g.prods w y.1).length y.2.2.2), (13, .int .i64 y.1)]) (fun y => y.2.1)
        (fun y => .sl 3 1 y.2.2.1 (idxP g.prods w y.1).length y.2.2.2 (i64s ((idxP g.prods w y.1).map fun q : Nat => (q : Int))) :: GB b2 g tp tc np nc pp pc :: L) (fun y => E1.Le y.2.1 ∧ y.1 ≤ rows.length) (fun y => rows.length - y.1) (0, E1, none, 0)
        ⟨.refl _, Nat.zero_le _⟩ ⟨rfl, rfl, rfl, rfl, rfl, rfl, rfl, trivial⟩ rfl rfl ?_
      rintro ⟨j, E2, pa, pca⟩ ⟨hE2, hj⟩
      simp only at hE2 hj ⊢
      replace hg0 := hg0.mono hE2
      replace hx := hx.mono hE2
      replace hps := hps.mono hE2
      replace hs := hs.mono hE2
      have hjl := hil j
      by_cases hlt : j < rows.length
      · have x1 := prows_left (List.getElem?_eq_getElem hlt)
        have x2 := hlf j hlt
        have x3 := hixs j
        by_cases he : rows[j].2.2.1 = w
        · rw [if_pos (x2.trans he)] at x3
          refine G_seq (G_seq (G_region ?_))
          refine Gm ?_
          refine Gv (V_fieldAddr rfl rfl (by decide)) ?_
          refine Gv (V_load rfl rfl (Cell.own (.tail _ (.head _)) rfl)) ?_
          refine Gv (V_lenS rfl rfl) ?_
          refine Gv (V_lss rfl rfl rfl) ?_
          refine G_end (X_then ?_)
          refine G_cond_t rfl (decide_eq_true (by omega)) ?_
          refine G_skip (X_then (G_seq (G_block (G_seq (G_region ?_)))))
          refine Gv (V_fieldAddr rfl rfl (by decide)) ?_
          refine Gv (V_load rfl rfl (Cell.own (.tail _ (.head _)) rfl)) ?_
          refine Gm ?_
          refine Gv (V_idxAddr rfl rfl rfl (SlE.rd (by assumption)) (by omega) (by omega)) ?_
          refine Gv (V_fieldAddrE rfl rfl (by assumption) (by omega) (by decide)) ?_
          refine Gv (V_loadS rfl rfl (SlE.rd (by assumption)) (by assumption) (by simp)) ?_
          refine Gm ?_
          refine Gv (V_eql rfl rfl rfl) ?_
          refine G_end (X_then ?_)
          refine G_cond_t rfl (decide_eq_true (by omega)) ?_
          refine G_region ?_
          refine Gm ?_
          refine Gm ?_
          (refine G_lit1 rfl rfl rfl rfl rfl (.none rfl) ?_; intro b55)
          (refine G_append rfl rfl rfl (Rd.lit (.head _) rfl) (by simp [Value.oneCell']) (by omega) (by omega) rfl rfl (.none rfl) (fun _ _ => (.tail _ (.head _ _ _))) ?_; intro a56 c56; refine G.rm (.head _ _) ?_)
          refine Ga ?_
          refine G_end (X_block (X_then (G_region ?_)))
          refine Gm ?_
          refine Gv (V_add_i64 rfl rfl rfl (by omega) (by omega)) ?_
          refine Ga ?_
          refine G_end (X_then ?_)
          have zl : (idxP g.prods w (j + 1)).length = (idxP g.prods w j).length + 1 := by rw [x3]; simp
          have zs : i64s ((idxP g.prods w j).map fun q : Nat => (q : Int)) ++ [.int .i64 (j : Nat)] = i64s ((idxP g.prods w (j + 1)).map fun q : Nat => (q : Int)) := by rw [x3]; simp [i64s]
          rw [zs, ← zl]
          exact G_again (j + 1, E2, a56, c56) ⟨hE2, hlt⟩ (by simp only; omega) ⟨rfl, rfl, rfl, rfl, rfl, rfl, rfl, trivial⟩ rfl rfl
        · rw [if_neg (fun h => he (x2.symm.trans h))] at x3
          refine G_seq (G_seq (G_region ?_))
          refine Gm ?_
          refine Gv (V_fieldAddr rfl rfl (by decide)) ?_
          refine Gv (V_load rfl rfl (Cell.own (.tail _ (.head _)) rfl)) ?_
          refine Gv (V_lenS rfl rfl) ?_
          refine Gv (V_lss rfl rfl rfl) ?_
          refine G_end (X_then ?_)
          refine G_cond_t rfl (decide_eq_true (by omega)) ?_
          refine G_skip (X_then (G_seq (G_block (G_seq (G_region ?_)))))
          refine Gv (V_fieldAddr rfl rfl (by decide)) ?_
          refine Gv (V_load rfl rfl (Cell.own (.tail _ (.head _)) rfl)) ?_
          refine Gm ?_
          refine Gv (V_idxAddr rfl rfl rfl (SlE.rd (by assumption)) (by omega) (by omega)) ?_
          refine Gv (V_fieldAddrE rfl rfl (by assumption) (by omega) (by decide)) ?_
          refine Gv (V_loadS rfl rfl (SlE.rd (by assumption)) (by assumption) (by simp)) ?_
          refine Gm ?_
          refine Gv (V_eql rfl rfl rfl) ?_
          refine G_end (X_then ?_)
          refine G_cond_f rfl (decide_eq_false (by omega)) ?_
          refine G_skip (X_block (X_then (G_region ?_)))
          refine Gm ?_
          refine Gv (V_add_i64 rfl rfl rfl (by omega) (by omega)) ?_
          refine Ga ?_
          refine G_end (X_then ?_)
          exact G_again (j + 1, E2, pa, pca) ⟨hE2, hlt⟩ (by simp only; omega) ⟨rfl, rfl, rfl, rfl, rfl, by simp only [x3]; rfl, rfl, trivial⟩ rfl (by simp only [x3])
      · obtain rfl : j = rows.length := by omega
        rw [← hlen] at *
        refine G.freezeSl (.head _ _) ?_
        intro E3 hE3 hq3 hqc
        replace hg0 := hg0.mono hE3
        replace hx := hx.mono hE3
        replace hps := hps.mono hE3
        replace hs := hs.mono hE3
        refine G_seq (G_seq (G_region ?_))
        refine Gm ?_
        refine Gv (V_fieldAddr rfl rfl (by decide)) ?_
        refine Gv (V_load rfl rfl (Cell.own (.head _) rfl)) ?_
        refine Gv (V_lenS rfl rfl) ?_
        refine Gv (V_lss rfl rfl rfl) ?_
        refine G_end (X_then ?_)
        refine G_cond_f rfl (decide_eq_false (by omega)) ?_
        refine G_exit (X_then_exit (X_then_exit (X_block_hit (X_then (G_seq (G_seq (G_region ?_)))))))
        refine Gm ?_
        refine Gv (V_lenS rfl rfl) ?_
        refine Gv (V_eql rfl rfl rfl) ?_
        refine G_end (X_then ?_)
        refine G_cond_f rfl (decide_eq_false (by omega)) ?_
        refine G_skip (X_then ?_)
        refine G_drawX 18 [(0, 1), (1, 0), (2, 0), (3, 0), (4, 0), (5, 1), (6, 1), (7, 0), (8, 0), (9, 3), (10, 1), (11, 1), (12, 3), (13, 0), (14, 0), (15, 0), (16, 0), (17, 0)] mixed (by kernel_rfl) ?_
        refine F_load rfl (.head _) (V_loadA rfl rfl (Cells.own (.head _)) rfl) rfl rfl (.none rfl) ?_
        refine F_pure rfl (fun _ _ => V_move rfl rfl) rfl rfl (.none rfl) ?_
        refine F_pure rfl (fun _ _ => V_move rfl rfl) rfl rfl (.none rfl) ?_
        refine F_pure rfl (fun _ _ => V_move rfl rfl) rfl rfl (.none rfl) ?_
        refine F_pure rfl (fun _ _ => V_move rfl rfl) rfl rfl (.none rfl) ?_
        refine F_loadE rfl (V_idxAddr rfl rfl rfl (SlE.rd (by assumption)) (by omega) (by omega)) rfl rfl (.none rfl) ?_
        refine F_loadE rfl (V_loadS rfl rfl (SlE.rd (by assumption)) (by assumption) (by simp)) rfl rfl (.none rfl) ?_
        refine F_pure rfl (fun _ _ => V_move rfl rfl) rfl rfl (.none rfl) ?_
        refine F_pure rfl (fun _ _ => V_lenS rfl rfl) rfl rfl (.none rfl) ?_
        apply F_call (k := 25) rfl (.mk rfl rfl rfl rfl) rfl rfl (.none rfl)
        · (intro L0; refine CallS.mono (Mod_call'' _ _ _ _ (by assumption) (by omega)) ?_; exact fun _ _ _ _ h => h)
        · (rintro L0 r E' L' ⟨z1, ⟨rfl, ⟨Z2, ⟨rfl, rfl⟩⟩⟩⟩; exact ⟨rfl, ⟨_, ⟨rfl, ⟨(by assumption), ⟨rfl, rfl⟩⟩⟩⟩⟩)
        rintro r3 E4 hE5 ⟨z6, ⟨rfl, ⟨Z7, ⟨rfl, _⟩⟩⟩⟩
        replace hq3 := hq3.mono hE5
        replace hg0 := hg0.mono hE5
        replace hx := hx.mono hE5
        replace hps := hps.mono hE5
        replace hs := hs.mono hE5
        refine F_loadE rfl (V_idxAddr rfl rfl rfl (SlE.rd (by assumption)) (by omega) (by omega)) rfl rfl (.none rfl) ?_
        have hz6 : z6 < (idxP g.prods w g.prods.length).length := by omega
        have hy := List.getElem_mem hz6
        have x5 : (i64s ((idxP g.prods w g.prods.length).map fun q : Nat => (q : Int)))[((z6 : Nat) : Int).toNat * 1]? = some (.int .i64 (((idxP g.prods w g.prods.length)[z6] : Nat) : Int)) := by
          rw [Int.toNat_natCast, Nat.mul_one]; simp [i64s, hz6]
        generalize (idxP g.prods w g.prods.length)[z6] = y at hy x5
        have hp := hpush y hy
        refine F_loadE rfl (V_loadS rfl rfl (SlE.rd (by assumption)) (by assumption) (by simp)) rfl rfl (.none rfl) ?_
        apply F_call (k := 11) rfl (.mk rfl rfl rfl rfl) rfl rfl (.none rfl)
        · (intro L0; refine CallS.mono (SPush_call _ _ _ _ (by assumption) (by assumption) _ _ _ _ (by assumption) (by omega) (by assumption) _) ?_; exact fun _ _ _ _ h => h)
        · (rintro L0 r E' L' ⟨⟨z1, ⟨z2, ⟨z3, ⟨rfl, ⟨Z4, ⟨Z5, Z6⟩⟩⟩⟩⟩⟩, rfl⟩; exact ⟨rfl, ⟨⟨_, ⟨_, ⟨_, ⟨rfl, ⟨(by assumption), ⟨(by assumption), (by assumption)⟩⟩⟩⟩⟩⟩, rfl⟩⟩)
        rintro r7 E8 hE9 ⟨⟨z10, ⟨z11, ⟨z12, ⟨rfl, ⟨Z13, ⟨Z14, Z15⟩⟩⟩⟩⟩⟩, _⟩
        replace hq3 := hq3.mono hE9
        replace hg0 := hg0.mono hE9
        replace hx := hx.mono hE9
        replace hps := hps.mono hE9
        replace hs := hs.mono hE9
        refine F_pure rfl (fun _ _ => V_move rfl rfl) rfl rfl (.none rfl) ?_
        refine F_pure rfl (fun _ _ => V_extract rfl rfl rfl) rfl rfl (.none rfl) ?_
        refine F_pure rfl (fun _ _ => V_extract rfl rfl rfl) rfl rfl (.none rfl) ?_
        refine F_pure rfl (fun _ _ => V_assign rfl rfl) rfl rfl (.none rfl) ?_
        refine F_pure rfl (fun _ _ => V_assign rfl rfl) rfl rfl (.none rfl) ?_
        (refine F_end (.nil _) ?_; dsimp only [List.drop])
        refine G_end (X_block (X_then (G_seq (G_seq (G_region ?_)))))
        refine Gm ?_
        refine Gv (V_neq rfl rfl rfl) ?_
        refine G_end (X_then ?_)
        refine G_cond_f rfl (by simp [*]; done) ?_
        refine G_skip (X_then (G_region ?_))
        refine Gm ?_
        refine Ga ?_
        refine G_end (X_block (X_then (G_region ?_)))
        refine Gm ?_
        refine Gv (V_add_i64 rfl rfl rfl (by omega) (by omega)) ?_
        refine Ga ?_
        refine G_end (X_then ?_)
        have hs8 : SlE E8 2 z10 z11 (spC (pushM g l (y : Nat)).1) := by assumption
        rw [hp.1] at hs8
        obtain rfl : z11 = (bump l ++ [((y : Int), 0)]).length := hs8.nSp
        have hbl2 : (bump l ++ [((y : Int), (0 : Int))]).length = l.length + 1 := by simp [hbl]
        exact G_again (i + 1, E8, z10, z12, bump l ++ [((y : Int), 0)]) ⟨(by repeat (first | assumption | refine Env.Le.trans (by assumption) ?_)), hgo1, hgo2, hs8, by omega, by simp only; omega, hp.2⟩ (by simp only; omega) ⟨rfl, rfl, rfl, rfl, trivial⟩ rfl rfl
  · refine G_seq ?_
    refine G_seq (G_region ?_)
    refine Gm ?_
    refine Gm ?_
    refine Gv (V_lenS rfl rfl) ?_
    refine Gv (V_lss rfl rfl rfl) ?_
    refine Gm ?_
    apply G_joinAnd 3 18 21 rfl
    · intro H1
      dsimp only [List.take]
      simp only [Bool.and_eq_true, Bool.or_eq_true, Bool.not_eq_true', Bool.not_eq_false', Bool.and_eq_false_iff, Bool.or_eq_false_iff, Bool.not_not, decide_eq_true_eq, decide_eq_false_iff_not, ne_eq, Decidable.not_not, Bool.decide_eq_true] at H1
      refine Gy (V_move rfl rfl) ?_
      refine Gy (V_lss rfl rfl rfl) ?_
      refine Gv (V_pick_t rfl rfl rfl) ?_
      refine G_end ?_
      exact JQ_end 3 rfl rfl (by kernel_rfl)
    · intro H2
      dsimp only [List.take]
      simp only [Bool.and_eq_true, Bool.or_eq_true, Bool.not_eq_true', Bool.not_eq_false', Bool.and_eq_false_iff, Bool.or_eq_false_iff, Bool.not_not, decide_eq_true_eq, decide_eq_false_iff_not, ne_eq, Decidable.not_not, Bool.decide_eq_true] at H2
      refine Gn ?_
      refine Gn ?_
      refine Gv (V_pick_f rfl rfl rfl) ?_
      refine G_end ?_
      exact JQ_end 3 rfl rfl (by kernel_rfl)
    dsimp only [List.drop]
    refine G_end (X_then ?_)
    refine G_cond rfl (fun H3 => ?_) (fun H3 => ?_)
    · simp only [Bool.and_eq_true, Bool.or_eq_true, Bool.not_eq_true', Bool.not_eq_false', Bool.and_eq_false_iff, Bool.or_eq_false_iff, Bool.not_not, decide_eq_true_eq, decide_eq_false_iff_not, ne_eq, Decidable.not_not, Bool.decide_eq_true] at H3
      (exfalso; omega)
    simp only [Bool.and_eq_true, Bool.or_eq_true, Bool.not_eq_true', Bool.not_eq_false', Bool.and_eq_false_iff, Bool.or_eq_false_iff, Bool.not_not, decide_eq_true_eq, decide_eq_false_iff_not, ne_eq, Decidable.not_not, Bool.decide_eq_true] at H3
    refine G_exit (X_then_exit (X_then_exit (X_block_hit (X_then (G_seq (G_region ?_))))))
    refine Gm ?_
    refine Ga ?_
    refine Ga ?_
    refine G_end (X_then (G_ret ?_))
    refine G_leaveS (.drop _ (.nil _)) (by exact (.cons (.tmp rfl) (.cons (.tmp rfl) (.nil)))) rfl ?_ ?_
    · exact hE
    exact ⟨⟨_, ⟨_, ⟨_, ⟨(by rfl), ⟨(by assumption), ⟨(by assumption), ⟨(by omega), (by (simp [resVal, *]; done))⟩⟩⟩⟩⟩⟩⟩, (by rfl)⟩
end
end Go.Proofs.YtaibabmladgldaaGreatDoor
set_option linter.unusedSimpArgs false
set_option linter.unusedVariables false
set_option maxHeartbeats 2000000
set_option maxRecDepth 20000
namespace Go.Proofs.YtaibabmladgldaaGreatDoor
open Go.RowKit
/-! Whether stacks are equal. -/
theorem spt_ne {a b : Spt} (h : a ≠ b) : ¬ (a.1 = b.1 ∧ a.2 = b.2) := fun ⟨h1, h2⟩ => h (Prod.ext h1 h2)
section
variable (E : Env) (L : List Res)
theorem Same25_call (p q : Option Addr) (n m c d : Nat) (xs ys : List Spt) (hx : SlE E 2 p n (spC xs)) (hy : SlE E 2 q m (spC ys)) (hn : n ≤ 1000000) (hm : m ≤ 1000000) :
    CallV Tryz.prog 10 #[.slice p n c, .slice q m d] E L (.bool (decide (xs = ys))) := by
  have e1 := hx.nSp; have e2 := hy.nSp; subst e1 e2
  refine CallS.toV (CallS.intro (l := [_, _]) _ Tryz.func10 rfl Tryz.ntmps10 rfl ?_)
  by_cases hlen : xs.length ≠ ys.length
  · have hne : xs ≠ ys := fun h => hlen (congrArg List.length h)
    refine G_seq (G_region ?_)
    refine Ga ?_
    refine G_end (X_then (G_seq (G_seq (G_region ?_))))
    refine Gm ?_
    refine Gv (V_lenS rfl rfl) ?_
    refine Gm ?_
    refine Gv (V_lenS rfl rfl) ?_
    refine Gv (V_neq rfl rfl rfl) ?_
    refine G_end (X_then ?_)
    refine G_cond_t rfl (decide_eq_true (by omega)) ?_
    refine G_seq (G_region ?_)
    refine Ga ?_
    refine G_end (X_then (G_ret (X_then_ret ?_)))
    refine G_leaveS (.nil _) (by exact (.cons (.tmp rfl) (.nil))) rfl ?_ ?_
    · exact (.refl _)
    exact ⟨(by (simp [resVal, *]; done)), (by rfl)⟩
  refine G_seq (G_region ?_)
  refine Ga ?_
  refine G_end (X_then (G_seq (G_seq (G_region ?_))))
  refine Gm ?_
  refine Gv (V_lenS rfl rfl) ?_
  refine Gm ?_
  refine Gv (V_lenS rfl rfl) ?_
  refine Gv (V_neq rfl rfl rfl) ?_
  refine G_end (X_then ?_)
  refine G_cond_f rfl (decide_eq_false (by omega)) ?_
  refine G_skip (X_then (G_seq (G_seq (G_region ?_))))
  refine Ga ?_
  refine G_end (X_then (G_block ?_))
  refine G_loop (α := Nat) (fun k => [(0, .slice p xs.length c), (1, .slice q ys.length d), (5, .int .i64 k)]) (fun _ => E) (fun _ => L)
    (fun k => k ≤ xs.length ∧ xs.take k = ys.take k) (fun k => xs.length - k) 0 ⟨Nat.zero_le _, by simp⟩ ⟨rfl, rfl, rfl, trivial⟩ rfl rfl ?_
  rintro k ⟨hk, hall⟩
  by_cases hlt : k < xs.length
  · have hlt' : k < ys.length := by omega
    have h1 := spC_get (List.getElem?_eq_getElem hlt)
    have h2 := spC_get (List.getElem?_eq_getElem hlt')
    by_cases he : xs[k] = ys[k]
    · rw [← he] at h2
      refine G_seq (G_seq (G_region ?_))
      refine Gm ?_
      refine Gm ?_
      refine Gv (V_lenS rfl rfl) ?_
      refine Gv (V_lss rfl rfl rfl) ?_
      refine G_end (X_then ?_)
      refine G_cond_t rfl (decide_eq_true (by omega)) ?_
      refine G_skip (X_then (G_seq (G_block (G_seq ?_))))
      refine G_draw mixed (by kernel_rfl) ?_
      refine Q_val (V_move rfl rfl) rfl rfl (.none rfl) ?_
      refine Q_val (V_move rfl rfl) rfl rfl (.none rfl) ?_
      refine Q_val (V_idxAddr rfl rfl rfl (SlE.rd (by assumption)) (by omega) (by omega)) rfl rfl (.none rfl) ?_
      refine Q_val (V_loadAS rfl rfl (SlE.rd (by assumption)) (by assumption) (by simp) (by rfl)) rfl rfl (.none rfl) ?_
      refine Q_val (V_move rfl rfl) rfl rfl (.none rfl) ?_
      refine Q_val (V_move rfl rfl) rfl rfl (.none rfl) ?_
      refine Q_val (V_idxAddr rfl rfl rfl (SlE.rd (by assumption)) (by omega) (by omega)) rfl rfl (.none rfl) ?_
      refine Q_val (V_loadAS rfl rfl (SlE.rd (by assumption)) (by assumption) (by simp) (by rfl)) rfl rfl (.none rfl) ?_
      refine Q_val (V_aneq_52 rfl rfl rfl) rfl rfl (.none rfl) ?_
      refine Q_end ?_
      refine X_then ?_
      refine G_cond_f rfl (decide_eq_false (by omega)) ?_
      refine G_skip (X_block (X_then (G_region ?_)))
      refine Gm ?_
      refine Gv (V_add_i64 rfl rfl rfl (by omega) (by omega)) ?_
      refine Ga ?_
      refine G_end (X_then ?_)
      exact G_again (k + 1) ⟨hlt, take_next hall hlt hlt' he⟩ (by omega) ⟨rfl, rfl, rfl, trivial⟩ rfl rfl
    · have hne : xs ≠ ys := fun h => he (by subst h; rfl)
      have hne2 := spt_ne he
      refine G_seq (G_seq (G_region ?_))
      refine Gm ?_
      refine Gm ?_
      refine Gv (V_lenS rfl rfl) ?_
      refine Gv (V_lss rfl rfl rfl) ?_
      refine G_end (X_then ?_)
      refine G_cond_t rfl (decide_eq_true (by omega)) ?_
      refine G_skip (X_then (G_seq (G_block (G_seq ?_))))
      refine G_draw mixed (by kernel_rfl) ?_
      refine Q_val (V_move rfl rfl) rfl rfl (.none rfl) ?_
      refine Q_val (V_move rfl rfl) rfl rfl (.none rfl) ?_
      refine Q_val (V_idxAddr rfl rfl rfl (SlE.rd (by assumption)) (by omega) (by omega)) rfl rfl (.none rfl) ?_
      refine Q_val (V_loadAS rfl rfl (SlE.rd (by assumption)) (by assumption) (by simp) (by rfl)) rfl rfl (.none rfl) ?_
      refine Q_val (V_move rfl rfl) rfl rfl (.none rfl) ?_
      refine Q_val (V_move rfl rfl) rfl rfl (.none rfl) ?_
      refine Q_val (V_idxAddr rfl rfl rfl (SlE.rd (by assumption)) (by omega) (by omega)) rfl rfl (.none rfl) ?_
      refine Q_val (V_loadAS rfl rfl (SlE.rd (by assumption)) (by assumption) (by simp) (by rfl)) rfl rfl (.none rfl) ?_
      refine Q_val (V_aneq_52 rfl rfl rfl) rfl rfl (.none rfl) ?_
      refine Q_end ?_
      refine X_then ?_
      refine G_cond_t rfl (decide_eq_true (by omega)) ?_
      refine G_seq (G_region ?_)
      refine Ga ?_
      refine G_end (X_then (G_ret (X_block_ret (X_then_ret (X_then_ret (X_block_ret (X_then_ret ?_)))))))
      refine G_leaveS (.nil _) (by exact (.cons (.tmp rfl) (.nil))) rfl ?_ ?_
      · exact (.refl _)
      exact ⟨(by (simp [resVal, *]; done)), (by rfl)⟩
  · have heq : xs = ys := by rw [List.take_of_length_le (by omega), List.take_of_length_le (by omega)] at hall; exact hall
    refine G_seq (G_seq (G_region ?_))
    refine Gm ?_
    refine Gm ?_
    refine Gv (V_lenS rfl rfl) ?_
    refine Gv (V_lss rfl rfl rfl) ?_
    refine G_end (X_then ?_)
    refine G_cond_f rfl (decide_eq_false (by omega)) ?_
    refine G_exit (X_then_exit (X_then_exit (X_block_hit (X_then (G_seq (G_region ?_))))))
    refine Ga ?_
    refine G_end (X_then (G_ret ?_))
    refine G_leaveS (.nil _) (by exact (.cons (.tmp rfl) (.nil))) rfl ?_ ?_
    · exact (.refl _)
    exact ⟨(by (simp [resVal, *]; done)), (by rfl)⟩
theorem EqualSp_call (p q : Option Addr) (n m c d : Nat) (xs ys : List Spt) (hx : SlE E 2 p n (spC xs)) (hy : SlE E 2 q m (spC ys)) (hn : n ≤ 1000000) (hm : m ≤ 1000000) :
    CallV Tryz.prog 41 #[.slice p n c, .slice q m d] E L (.bool (decide (xs = ys))) := by
  have e1 := hx.nSp; have e2 := hy.nSp; subst e1 e2
  refine CallS.toV (CallS.intro (l := [_, _]) _ Tryz.func41 rfl Tryz.ntmps41 rfl ?_)
  by_cases hlen : xs.length ≠ ys.length
  · have hne : xs ≠ ys := fun h => hlen (congrArg List.length h)
    refine G_seq (G_region ?_)
    refine Ga ?_
    refine G_end (X_then (G_seq (G_seq (G_region ?_))))
    refine Gm ?_
    refine Gv (V_lenS rfl rfl) ?_
    refine Gm ?_
    refine Gv (V_lenS rfl rfl) ?_
    refine Gv (V_neq rfl rfl rfl) ?_
    refine G_end (X_then ?_)
    refine G_cond_t rfl (decide_eq_true (by omega)) ?_
    refine G_seq (G_region ?_)
    refine Ga ?_
    refine G_end (X_then (G_ret (X_then_ret ?_)))
    refine G_leaveS (.nil _) (by exact (.cons (.tmp rfl) (.nil))) rfl ?_ ?_
    · exact (.refl _)
    exact ⟨(by (simp [resVal, *]; done)), (by rfl)⟩
  refine G_seq (G_region ?_)
  refine Ga ?_
  refine G_end (X_then (G_seq (G_seq (G_region ?_))))
  refine Gm ?_
  refine Gv (V_lenS rfl rfl) ?_
  refine Gm ?_
  refine Gv (V_lenS rfl rfl) ?_
  refine Gv (V_neq rfl rfl rfl) ?_
  refine G_end (X_then ?_)
  refine G_cond_f rfl (decide_eq_false (by omega)) ?_
  refine G_skip (X_then (G_seq (G_seq (G_region ?_))))
  refine Gm ?_
  refine Gv (V_lenS rfl rfl) ?_
  refine Gm ?_
  refine G_end (X_then (G_block ?_))
  refine G_loop (α := Nat) (fun k => [(0, .slice p xs.length c), (1, .slice q ys.length d), (12, .int .i64 xs.length), (13, .int .i64 k)]) (fun _ => E) (fun _ => L)
    (fun k => k ≤ xs.length ∧ xs.take k = ys.take k) (fun k => xs.length - k) 0 ⟨Nat.zero_le _, by simp⟩ ⟨rfl, rfl, rfl, rfl, trivial⟩ rfl rfl ?_
  rintro k ⟨hk, hall⟩
  by_cases hlt : k < xs.length
  · have hlt' : k < ys.length := by omega
    have h1 := spC_get (List.getElem?_eq_getElem hlt)
    have h2 := spC_get (List.getElem?_eq_getElem hlt')
    by_cases he : xs[k] = ys[k]
    · rw [← he] at h2
      refine G_seq (G_region ?_)
      refine Gv (V_lss rfl rfl rfl) ?_
      refine G_end (X_then (G_seq ?_))
      refine G_cond_t rfl (decide_eq_true (by omega)) ?_
      refine G_skip (X_then (G_seq (G_block (G_seq (G_region ?_)))))
      refine Gm ?_
      refine Ga ?_
      refine G_end (X_then (G_seq ?_))
      refine G_draw mixed (by kernel_rfl) ?_
      refine Q_val (V_move rfl rfl) rfl rfl (.none rfl) ?_
      refine Q_val (V_move rfl rfl) rfl rfl (.none rfl) ?_
      refine Q_val (V_idxAddr rfl rfl rfl (SlE.rd (by assumption)) (by omega) (by omega)) rfl rfl (.none rfl) ?_
      refine Q_val (V_loadAS rfl rfl (SlE.rd (by assumption)) (by assumption) (by simp) (by rfl)) rfl rfl (.none rfl) ?_
      refine Q_val (V_move rfl rfl) rfl rfl (.none rfl) ?_
      refine Q_val (V_move rfl rfl) rfl rfl (.none rfl) ?_
      refine Q_val (V_idxAddr rfl rfl rfl (SlE.rd (by assumption)) (by omega) (by omega)) rfl rfl (.none rfl) ?_
      refine Q_val (V_loadAS rfl rfl (SlE.rd (by assumption)) (by assumption) (by simp) (by rfl)) rfl rfl (.none rfl) ?_
      refine Q_val (V_aneq_52 rfl rfl rfl) rfl rfl (.none rfl) ?_
      refine Q_end ?_
      refine X_then ?_
      refine G_cond_f rfl (decide_eq_false (by omega)) ?_
      refine G_skip (X_block (X_then (G_region ?_)))
      refine Gv (V_add_i64 rfl rfl rfl (by omega) (by omega)) ?_
      refine Gm ?_
      refine G_end (X_then ?_)
      exact G_again (k + 1) ⟨hlt, take_next hall hlt hlt' he⟩ (by omega) ⟨rfl, rfl, rfl, rfl, trivial⟩ rfl rfl
    · have hne : xs ≠ ys := fun h => he (by subst h; rfl)
      have hne2 := spt_ne he
      refine G_seq (G_region ?_)
      refine Gv (V_lss rfl rfl rfl) ?_
      refine G_end (X_then (G_seq ?_))
      refine G_cond_t rfl (decide_eq_true (by omega)) ?_
      refine G_skip (X_then (G_seq (G_block (G_seq (G_region ?_)))))
      refine Gm ?_
      refine Ga ?_
      refine G_end (X_then (G_seq ?_))
      refine G_draw mixed (by kernel_rfl) ?_
      refine Q_val (V_move rfl rfl) rfl rfl (.none rfl) ?_
      refine Q_val (V_move rfl rfl) rfl rfl (.none rfl) ?_
      refine Q_val (V_idxAddr rfl rfl rfl (SlE.rd (by assumption)) (by omega) (by omega)) rfl rfl (.none rfl) ?_
      refine Q_val (V_loadAS rfl rfl (SlE.rd (by assumption)) (by assumption) (by simp) (by rfl)) rfl rfl (.none rfl) ?_
      refine Q_val (V_move rfl rfl) rfl rfl (.none rfl) ?_
      refine Q_val (V_move rfl rfl) rfl rfl (.none rfl) ?_
      refine Q_val (V_idxAddr rfl rfl rfl (SlE.rd (by assumption)) (by omega) (by omega)) rfl rfl (.none rfl) ?_
      refine Q_val (V_loadAS rfl rfl (SlE.rd (by assumption)) (by assumption) (by simp) (by rfl)) rfl rfl (.none rfl) ?_
      refine Q_val (V_aneq_52 rfl rfl rfl) rfl rfl (.none rfl) ?_
      refine Q_end ?_
      refine X_then ?_
      refine G_cond_t rfl (decide_eq_true (by omega)) ?_
      refine G_seq (G_region ?_)
      refine Ga ?_
      refine G_end (X_then (G_ret (X_block_ret (X_then_ret (X_then_ret (X_block_ret (X_then_ret ?_)))))))
      refine G_leaveS (.nil _) (by exact (.cons (.tmp rfl) (.nil))) rfl ?_ ?_
      · exact (.refl _)
      exact ⟨(by (simp [resVal, *]; done)), (by rfl)⟩
  · have heq : xs = ys := by rw [List.take_of_length_le (by omega), List.take_of_length_le (by omega)] at hall; exact hall
    refine G_seq (G_region ?_)
    refine Gv (V_lss rfl rfl rfl) ?_
    refine G_end (X_then (G_seq ?_))
    refine G_cond_f rfl (decide_eq_false (by omega)) ?_
    refine G_exit (X_then_exit (X_then_exit (X_block_hit (X_then (G_seq (G_region ?_))))))
    refine Ga ?_
    refine G_end (X_then (G_ret ?_))
    refine G_leaveS (.nil _) (by exact (.cons (.tmp rfl) (.nil))) rfl ?_ ?_
    · exact (.refl _)
    exact ⟨(by (simp [resVal, *]; done)), (by rfl)⟩
theorem SSame_call (p q : Option Addr) (n m c d : Nat) (xs ys : List Spt) (hx : SlE E 2 p n (spC xs)) (hy : SlE E 2 q m (spC ys)) (hn : n ≤ 1000000) (hm : m ≤ 1000000) :
    CallV Tryz.prog 27 #[.slice p n c, .slice q m d] E L (.bool (decide (xs = ys))) := by
  refine CallS.toV (CallS.intro (l := [_, _]) _ Tryz.func27 rfl Tryz.ntmps27 rfl ?_)
  refine G_seq (G_region ?_)
  refine Ga ?_
  refine G_end (X_then (G_seq (G_region ?_)))
  refine Gm ?_
  refine Gm ?_
  refine G_callv (k := 41) (.mk rfl rfl rfl rfl) rfl rfl (.none rfl) (EqualSp_call _ _ _ _ _ _ _ _ _ _ (by assumption) (by assumption) (by assumption) (by assumption)) ?_
  refine Ga ?_
  refine G_end (X_then (G_ret ?_))
  refine G_leaveS (.nil _) (by exact (.cons (.tmp rfl) (.nil))) rfl ?_ ?_
  · exact (.refl _)
  exact ⟨rfl, rfl⟩
end
end Go.Proofs.YtaibabmladgldaaGreatDoor
set_option linter.unusedSimpArgs false
set_option linter.unusedVariables false
set_option maxHeartbeats 2000000
set_option maxRecDepth 20000
namespace Go.Proofs.YtaibabmladgldaaGreatDoor
open Go.RowKit
/-! The law's helpers: shown, of, awaits, checks. -/
abbrev shG : Gr := ⟨2, [[97], [98]], [110, 108], [[83], [84]], 16, [(16, [0, 17]), (16, []), (17, [1, 16])]⟩
theorem shG_light : Light shG := lightB_iff.1 (by decide +kernel)
/-- Two numbers for each Spot. -/
def prs : List Int → List Spt
  | a :: b :: l => (a, b) :: prs l
  | _ => []
theorem prs_len : ∀ l : List Int, (prs l).length = l.length / 2
  | [] => rfl
  | [_] => by simp [prs]
  | _ :: _ :: l => by simp only [prs, List.length_cons, prs_len l]; omega
theorem prs_get : ∀ (l : List Int) (k : Nat) (h : 2 * k + 1 < l.length), (prs l)[k]? = some (l[2 * k], l[2 * k + 1])
  | [], k, h => by simp at h
  | [_], k, h => by simp at h
  | a :: b :: l, 0, h => rfl
  | a :: b :: l, k + 1, h => by
    have := prs_get l k (by simp at h; omega)
    simp only [prs, List.getElem?_cons_succ, this]
    rfl
section
variable (E : Env) (L : List Res)
theorem shown25_call : CallS Tryz.prog 12 #[] E L (fun r E' L' => ∃ b0 b1 b2 b3 b6 b8, r = .agg #[.int .i64 2, .slice (some ⟨b1, 0, none⟩) 2 2, .string (S [110, 108]), .slice (some ⟨b2, 0, none⟩) 2 2, .int .i64 16, .slice (some ⟨b8, 0, none⟩) 3 3] ∧ E = E' ∧
    L' = .blk b8 (.cells #[.int .i64 16, .slice (some ⟨b3, 0, none⟩) 2 2, .int .i64 16, .slice none 0 0, .int .i64 17, .slice (some ⟨b6, 0, none⟩) 2 2] 50 (0, 0)) :: .blk b6 (.cells #[.int .i64 1, .int .i64 16] 3 (0, 0)) :: .blk b3 (.cells #[.int .i64 0, .int .i64 17] 3 (0, 0)) :: .blk b2 (.cells #[.string (S [83]), .string (S [84])] 9 (0, 0)) :: .blk b1 (.cells #[.string (S [97]), .string (S [98])] 9 (0, 0)) :: .blk b0 (.cells #[.int .i64 2, .slice (some ⟨b1, 0, none⟩) 2 2, .string (S [110, 108]), .slice (some ⟨b2, 0, none⟩) 2 2, .int .i64 16, .slice (some ⟨b8, 0, none⟩) 3 3] 33 (0, 0)) :: L) := by
  refine CallS.intro (l := []) _ Tryz.func12 rfl Tryz.ntmps12 rfl ?_
  refine G_seq (G_region ?_)
  (refine G_alloc rfl rfl rfl (.none rfl) ?_; intro b0)
  refine G_end (X_then (G_seq (G_region ?_)))
  (refine G_lit2 rfl rfl rfl rfl rfl rfl rfl (.none rfl) ?_; intro b1)
  (refine G_lit2 rfl rfl rfl rfl rfl rfl rfl (.none rfl) ?_; intro b2)
  (refine G_lit2 rfl rfl rfl rfl rfl rfl rfl (.none rfl) ?_; intro b3)
  refine Gv (V_build rfl rfl (by simp [fillV, setLs, setL, Value.cells]; rfl)) ?_
  refine Gv (V_build rfl rfl (by simp [fillV, setLs, setL, Value.cells]; rfl)) ?_
  (refine G_lit2 rfl rfl rfl rfl rfl rfl rfl (.none rfl) ?_; intro b6)
  refine Gv (V_build rfl rfl (by simp [fillV, setLs, setL, Value.cells]; rfl)) ?_
  (refine G_lit rfl rfl (by decide) (by simp [fillS, zeros, setLs, setL, Value.cells, List.range, List.range.loop]; rfl) rfl rfl (.none rfl) ?_; intro b8)
  refine Gv (V_build rfl rfl (by simp [fillV, setLs, setL, Value.cells]; rfl)) ?_
  refine G_storeA rfl rfl rfl rfl (by simp [Value.oneCell']) rfl (.none rfl) (.tail _ (.tail _ (.tail _ (.tail _ (.tail _ (.head _ _ _)))))) rfl ?_
  refine G_end (X_then (G_ret ?_))
  refine G_leaveS (.keep _ (.keep _ (.keep _ (.keep _ (.keep _ (.keep _ (.nil _))))))) (by exact (.cons (.cellA rfl (Cells.own (.tail _ (.tail _ (.tail _ (.tail _ (.tail _ (.head _))))))) rfl) (.nil))) rfl ?_ ?_
  · exact (.refl _)
  exact ⟨_, ⟨_, ⟨_, ⟨_, ⟨_, ⟨_, ⟨rfl, ⟨rfl, rfl⟩⟩⟩⟩⟩⟩⟩⟩
theorem shown25_call' : CallS Tryz.prog 12 #[] E L (fun r E' L' => GrE E' r shG ∧ L' = L) :=
  fun w hw => (shown25_call E L w hw).mono fun _ _ ⟨r, E', L', he, hE, hs, b0, b1, b2, b3, b6, b8, hr, _, hL⟩ => by
    subst hL hr
    obtain ⟨E2, hE2, hs2, hok2⟩ := hs.freeze
    obtain ⟨E3, hE3, hs3, hok3⟩ := hs2.freeze
    obtain ⟨E4, hE4, hs4, hok4⟩ := hs3.freeze
    obtain ⟨E5, hE5, hs5, hok5⟩ := hs4.freeze
    obtain ⟨E6, hE6, hs6, hok6⟩ := hs5.freeze
    refine ⟨_, E6, L, he, ((((hE.trans hE2).trans hE3).trans hE4).trans hE5).trans hE6, hs6.drop, ?_, rfl⟩
    refine GrE.mk (g := shG) (SlE.lit (l := strs [[97], [98]]) hok6 rfl) ((SlE.lit (l := strs [[83], [84]]) hok5 rfl).mono hE6) ⟨[(some ⟨b3, 0, none⟩, 2, (16, [0, 17])), (none, 0, (16, [])), (some ⟨b6, 0, none⟩, 2, (17, [1, 16]))], rfl, ?_, fun r hr => ?_⟩ (Nat.le_refl _) (Nat.le_refl _) (Nat.le_refl _)
    · exact (SlE.lit (l := prows [(some ⟨b3, 0, none⟩, 2, (16, [0, 17])), (none, 0, (16, [])), (some ⟨b6, 0, none⟩, 2, (17, [1, 16]))]) hok2 rfl).mono (((hE3.trans hE4).trans hE5).trans hE6)
    · simp only [List.mem_cons, List.not_mem_nil, or_false] at hr
      rcases hr with rfl | rfl | rfl
      · exact ⟨(SlE.lit (l := i64s [0, 17]) hok4 rfl).mono (hE5.trans hE6), Nat.le_refl _⟩
      · exact ⟨SlE.nil, Nat.le_refl _⟩
      · exact ⟨(SlE.lit (l := i64s [1, 16]) hok3 rfl).mono ((hE4.trans hE5).trans hE6), Nat.le_refl _⟩
theorem of_call (p : Option Addr) (n c : Nat) (xs : List Int) (hx : SlE E 1 p n (i64s xs)) (hn : n ≤ 1000) :
    CallS Tryz.prog 13 #[.slice p n c] E L (fun r E' L' => ∃ a k c', r = .slice a k c' ∧ SlE E' 2 a k (spC (prs xs)) ∧ k ≤ c' ∧ L' = L) := by
  have en := hx.nI
  subst en
  have hpl := prs_len xs
  refine CallS.intro (l := [_]) _ Tryz.func13 rfl Tryz.ntmps13 rfl ?_
  refine G_seq (G_region ?_)
  refine Ga ?_
  refine G_end (X_then (G_seq (G_region ?_)))
  refine Ga ?_
  refine G_end (X_then (G_seq (G_seq (G_region ?_))))
  refine Ga ?_
  refine G_end (X_then (G_block ?_))
  refine G.nilSl 52 2 ?_
  refine G_loop (α := Nat × Env × Option Addr × Nat) (fun x => [(0, .slice p xs.length c), (3, .slice x.2.2.1 x.1 x.2.2.2), (4, .int .i64 (2 * x.1 : Nat))]) (fun x => x.2.1) (fun x => .sl 52 2 x.2.2.1 x.1 x.2.2.2 (spC ((prs xs).take x.1)) :: L)
    (fun x => E.Le x.2.1 ∧ x.1 ≤ xs.length / 2) (fun x => xs.length - x.1) (0, E, none, 0) ⟨.refl _, Nat.zero_le _⟩ ⟨rfl, rfl, rfl, trivial⟩ rfl rfl ?_
  rintro ⟨k, E1, a, ca⟩ ⟨hE1, hk⟩
  simp only at hE1 hk ⊢
  replace hx := hx.mono hE1
  by_cases hlt : k < xs.length / 2
  · have x1 : (i64s xs)[((2 * k : Nat) : Int).toNat * 1]? = some (.int .i64 (xs[2 * k]'(by omega))) := by
      rw [Int.toNat_natCast, Nat.mul_one]; exact i64s_get (List.getElem?_eq_getElem _)
    have x2 : (i64s xs)[(((2 * k : Nat) : Int) + 1).toNat * 1]? = some (.int .i64 (xs[2 * k + 1]'(by omega))) := by
      rw [show (((2 * k : Nat) : Int) + 1).toNat * 1 = 2 * k + 1 by omega]; exact i64s_get (List.getElem?_eq_getElem _)
    have hg := prs_get xs k (by omega)
    have htk : spC ((prs xs).take (k + 1)) = spC ((prs xs).take k) ++ [.int .i64 xs[2 * k], .int .i64 xs[2 * k + 1]] := by
      rw [List.take_add_one, hg, spC_append]; rfl
    generalize xs[2 * k]'(by omega) = u at *
    generalize xs[2 * k + 1]'(by omega) = v at *
    refine G_seq (G_seq (G_region ?_))
    refine Gm ?_
    refine Gv (V_add_i64 rfl rfl rfl (by omega) (by omega)) ?_
    refine Gm ?_
    refine Gv (V_lenS rfl rfl) ?_
    refine Gv (V_lss rfl rfl rfl) ?_
    refine G_end (X_then ?_)
    refine G_cond_t rfl (decide_eq_true (by omega)) ?_
    refine G_skip (X_then (G_seq (G_block ?_)))
    refine G_drawX 12 [(0, 0), (1, 0), (2, 0), (3, 1), (4, 1), (5, 0), (6, 0), (7, 0), (8, 1), (9, 1), (10, 0), (11, 2)] mixed (by kernel_rfl) ?_
    refine F_pure rfl (fun _ _ => V_move rfl rfl) rfl rfl (.none rfl) ?_
    refine F_pure rfl (fun _ _ => V_move rfl rfl) rfl rfl (.none rfl) ?_
    refine F_pure rfl (fun _ _ => V_move rfl rfl) rfl rfl (.none rfl) ?_
    refine F_loadE rfl (V_idxAddr rfl rfl rfl (SlE.rd (by assumption)) (by omega) (by omega)) rfl rfl (.none rfl) ?_
    refine F_loadE rfl (V_loadS rfl rfl (SlE.rd (by assumption)) x1 (by simp)) rfl rfl (.none rfl) ?_
    refine F_pure rfl (fun _ _ => V_move rfl rfl) rfl rfl (.none rfl) ?_
    refine F_pure rfl (fun _ _ => V_move rfl rfl) rfl rfl (.none rfl) ?_
    refine F_pure rfl (fun _ _ => V_add_i64 rfl rfl rfl (by omega) (by omega)) rfl rfl (.none rfl) ?_
    refine F_loadE rfl (V_idxAddr rfl rfl rfl (SlE.rd (by assumption)) (by omega) (by omega)) rfl rfl (.none rfl) ?_
    refine F_loadE rfl (V_loadS rfl rfl (SlE.rd (by assumption)) (by assumption) (by simp)) rfl rfl (.none rfl) ?_
    refine F_pure rfl (fun _ _ => V_build rfl rfl (by simp [fillV, setLs, setL, Value.cells]; rfl)) rfl rfl (.none rfl) ?_
    (refine F_litZ rfl rfl rfl (by decide) (by simp [fillS, zeros, setLs, setL, Value.cells, List.range, List.range.loop]; rfl) (by rfl) rfl rfl (.none rfl) ?_; intro b23 E23 hE23 hs23)
    replace hx := hx.mono hE23
    (refine F_end (.nil _) ?_; dsimp only [List.drop])
    (refine G_append rfl rfl rfl (SlE.rd (by assumption)) (by simp [Value.oneCell']) (by omega) (by omega) rfl rfl (.none rfl) (fun _ _ => (.head _ _ _)) ?_; intro a24 c24)
    refine Ga ?_
    refine G_end (X_block (X_then (G_region ?_)))
    refine Gm ?_
    refine Gv (V_add_i64 rfl rfl rfl (by omega) (by omega)) ?_
    refine Ga ?_
    refine G_end (X_then ?_)
    rw [← htk]
    exact G_again (k + 1, E23, a24, c24) ⟨hE1.trans hE23, by simp only; omega⟩ (by simp only; omega) ⟨rfl, rfl, by rw [show ((2 * k : Nat) : Int) + 2 = ((2 * (k + 1) : Nat) : Int) by omega]; rfl, trivial⟩ rfl rfl
  · obtain rfl : k = xs.length / 2 := by omega
    rw [List.take_of_length_le (by omega)]
    refine G_seq (G_seq (G_region ?_))
    refine Gm ?_
    refine Gv (V_add_i64 rfl rfl rfl (by omega) (by omega)) ?_
    refine Gm ?_
    refine Gv (V_lenS rfl rfl) ?_
    refine Gv (V_lss rfl rfl rfl) ?_
    refine G_end (X_then ?_)
    refine G_cond_f rfl (decide_eq_false (by omega)) ?_
    refine G_exit (X_then_exit (X_then_exit (X_block_hit (X_then (G_seq (G_region ?_))))))
    refine Gm ?_
    refine Ga ?_
    refine G_end (X_then (G_ret ?_))
    refine G.freezeSl (.head _ _) ?_
    intro E2 hE2 hs2 hc2
    refine G_leaveS (.nil _) (by exact (.cons (.tmp rfl) (.nil))) rfl ?_ ?_
    · exact (hE1.trans hE2)
    exact ⟨_, ⟨_, ⟨_, ⟨rfl, ⟨(by assumption), ⟨(by assumption), rfl⟩⟩⟩⟩⟩⟩
end
end Go.Proofs.YtaibabmladgldaaGreatDoor
namespace Go.Proofs.YtaibabmladgldaaGreatDoor
open Go.RowKit

/-- Two pieces as one. -/
def Res.both (r1 r2 : Res) : Res := ⟨r1.ids ++ r2.ids, fun h => r1.ok h ∧ r2.ok h, fun h h' e ⟨k1, k2⟩ =>
  ⟨r1.loc h h' (fun b hb => e b (List.mem_append.2 (.inl hb))) k1, r2.loc h h' (fun b hb => e b (List.mem_append.2 (.inr hb))) k2⟩⟩
theorem St.both {E : Env} {L : List Res} {r1 r2 : Res} {w : World} : St E (.both r1 r2 :: L) w ↔ St E (r1 :: r2 :: L) w := by
  constructor <;> intro h <;> refine ⟨h.env, fun r hr => ?_, ?_, fun b hb => ?_, h.os, h.out, h.tape⟩
  · rcases List.mem_cons.1 hr with rfl | hr
    · exact (h.own (.both r r2) (.head _)).1
    · rcases List.mem_cons.1 hr with rfl | hr
      · exact (h.own (.both r1 r) (.head _)).2
      · exact h.own r (.tail _ hr)
  · have := h.nodup
    simpa [Res.both] using this
  · refine h.apart b ?_
    simpa [Res.both] using hb
  · rcases List.mem_cons.1 hr with rfl | hr
    · exact ⟨h.own r1 (.head _), h.own r2 (.tail _ (.head _))⟩
    · exact h.own r (.tail _ (.tail _ hr))
  · have := h.nodup
    simpa [Res.both] using this
  · refine h.apart b ?_
    simpa [Res.both] using hb

section rules
variable {P : Program} {ro : Option Nat} {n : Nat} {ds : List Deferred} {fs : List (Nat × Value)} {E : Env} {L : List Res} {ops : Array Oper} {Q : Exit → Act → World → Prop} {rest : List Oper} {o : Oper}
theorem G.both {X : Act → World → Prop} {r1 r2 : Res} (h : G n ds fs E (.both r1 r2 :: L) X) : G n ds fs E (r1 :: r2 :: L) X := fun a w ha hw => h a w ha (St.both.2 hw)
theorem CallS.both {k : FuncId} {args : Array Value} {r1 r2 : Res} {Post : Value → Env → List Res → Prop} (h : CallS P k args E (r1 :: r2 :: L) Post) : CallS P k args E (.both r1 r2 :: L) Post := fun w hw => h w (St.both.1 hw)
theorem CallV.both {k : FuncId} {args : Array Value} {r1 r2 : Res} {v : Value} (h : CallV P k args E (r1 :: r2 :: L) v) : CallV P k args E (.both r1 r2 :: L) v := fun w hw => (h w (St.both.1 hw)).mono fun _ _ ⟨h1, h2⟩ => ⟨h1, St.both.2 h2⟩

/-! ### A string's bytes appended -/
theorem run_append_str {w : World} {t u ty e : TypeId} {z : Value} {bytes : Nat} (ht : P.underlying t = some (.slice e)) (hu : P.underlying u = some .string) (hi : Inf P e z 1 bytes) (hz : z = .int .u8 0)
    {a : Option Addr} {k cap : Nat} {xs : List Value} (hok : slOk e 1 a k cap xs (fun b => w.heap[b]?)) (s : List UInt8) (hby : bytes = 1) (hb : k + s.length ≤ 140737488355328) :
    ∃ a' c' w', (Builtin.append_ #[t, u] ty #[.slice a k cap, .string (S s)]).run P w = .ok (.slice a' (k + s.length) c') w' ∧ slOk e 1 a' (k + s.length) c' (xs ++ u8s s) (fun b => w'.heap[b]?) ∧
      w.heap.size ≤ w'.heap.size ∧ w'.os = w.os ∧ w'.output = w.output ∧ w'.tape = w.tape ∧ (∀ b, some b ≠ a.map (·.block) → b < w.heap.size → w'.heap[b]? = w.heap[b]?) ∧
      (∀ p', a' = some p' → (some p'.block = a.map (·.block)) ∨ w.heap.size = p'.block) ∧ (s = [] → a' = a ∧ c' = cap) := by
  obtain ⟨i, hi1, hi2, hs1, rfl, hi5⟩ := hi.inf
  subst hz
  have hsz : (S s).size = s.length := rfl
  have hsc : Lib.strCells (S s) = u8s s := rfl
  have h63 : k + s.length ≤ maxLen := by simp only [maxLen]; omega
  have hlen : (xs ++ u8s s).length = (k + s.length) * 1 := by rw [List.length_append, hok.1, u8s, List.length_map]; omega
  have hul : (u8s s).length = s.length := List.length_map _
  have fresh : ∀ old, old < k + s.length → slOk e 1 (some ⟨w.heap.size, 0, none⟩) (k + s.length) (grownCap w (k + s.length) old e) (xs ++ u8s s)
      (fun b => (w.drew.alloc (.cells (xs.toArray ++ (u8s s).toArray ++ Builtin.zeroCells (Value.int .u8 0).cells (grownCap w (k + s.length) old e - (k + s.length))) e)).heap[b]?) := fun old _ => by
    have hge := grownCap_ge w (k + s.length) old e
    refine ⟨hlen, .inr ⟨w.heap.size, _, rfl, World.alloc_heap_new w.drew _, hge, grownCap_le_maxLen w (k + s.length) old e h63, ?_, ?_⟩⟩
    · have hz1 : (Value.int IntKind.u8 0).cells.size = 1 := rfl
      have := hok.1
      simp only [Array.size_append, List.size_toArray, size_zeroCells, hz1, hul]
      omega
    · simp only [Array.toList_append, List.append_assoc]
      rw [← List.append_assoc, ← hlen]
      exact List.take_left
  have keep : ∀ (o : Obj) (b : Nat), b < w.heap.size → (w.drew.alloc o).heap[b]? = w.heap[b]? := fun o b hb => Below.heap_alloc w.drew o b hb
  rcases hok.2 with ⟨rfl, rfl, rfl⟩ | ⟨g, cur, rfl, hg, hnc, hcm, hcs, htake⟩
  · have hx : xs = [] := List.eq_nil_of_length_eq_zero (by simpa using hok.1)
    subst hx
    by_cases hm : s.length = 0
    · have hn : s = [] := List.eq_nil_of_length_eq_zero hm
      subst hn
      refine ⟨none, 0, w, ?_, ⟨by simp [u8s], .inl ⟨rfl, rfl, rfl⟩⟩, Nat.le_refl _, rfl, rfl, rfl, fun _ _ _ => rfl, (fun p' h => by cases h), fun _ => ⟨rfl, rfl⟩⟩
      have hf := Lib.run_firstCells_string (P := P) w 1 (S [])
      have h0 : (S []).size = 0 := rfl
      rw [h0] at hf
      simp [Builtin.append_, run_underlying ht, run_underlying hu, sizeOf, typeInfo, hi1, hs1, Builtin.lenOf, h0, hf, List.length_nil]
    · have hr := run_append_nil_string (P := P) w t u ty e i (.int .u8 0) ht hu hi1 hi2 (S s) (by rw [hsz]; omega) (by rw [hsz]; omega) (by rw [hby, hsz]; omega)
      have hf := fresh 0 (by omega)
      simp only [Nat.zero_add, List.nil_append, Array.empty_append] at hf ⊢
      have e1 : ((S s).data.map fun b => Value.int .u8 b.toNat) = (u8s s).toArray := by
        apply Array.ext'
        simp [u8s, S]
      rw [e1, hsz] at hr
      exact ⟨_, _, _, hr, hf, by simp, rfl, rfl, rfl, fun b _ hb => keep _ b hb, (fun p' h => by cases h; exact .inr rfl), fun h => absurd (by rw [h]; rfl) hm⟩
  · by_cases hroom : k + s.length ≤ cap
    · have hr := Lib.run_append_room_string (P := P) w t u ty e i ht hu hi1 hs1 g k cap cur hg (S s) (by rw [hsz]; omega) (by rw [hsz]; omega)
      rw [hsz, hsc] at hr
      refine ⟨_, _, _, hr, ⟨hlen, .inr ⟨g, _, rfl, setRow_heap w g cur _ e _ hg, hroom, hcm, ?_, ?_⟩⟩, by simp, rfl, rfl, rfl, fun b hne _ => setRow_other w g b _ (fun e => hne (by simp [e])), (fun p' h => by cases h; exact .inl rfl), fun _ => ⟨rfl, rfl⟩⟩
      · simp only [List.size_toArray, List.length_append, List.length_take, List.length_drop, Array.length_toList, hul]
        omega
      · have ht' : cur.toList.take k = xs := by simpa using htake
        rw [ht', ← hlen]
        exact List.take_left
    · have holds : ∀ j u, xs[j]? = some u → w.cell? ((⟨g, 0, none⟩ : Addr).add j) = some u := hok.owns.cells (g := g) rfl
      have hr := Lib.run_append_grow_string (P := P) w t u ty e i (.int .u8 0) ht hu hi1 hi2 ⟨g, 0, none⟩ k cap xs (by rw [hs1]; exact hok.1) holds (S s) (by rw [hsz]; omega) (by rw [hsz]; omega) (by rw [hby, hsz]; exact growslice_fits (by omega) (by omega))
      rw [hsz, hsc] at hr
      exact ⟨_, _, _, hr, fresh cap (by omega), by simp, rfl, rfl, rfl, fun b _ hb => keep _ b hb, (fun p' h => by cases h; exact .inr rfl), fun h => absurd (by have := hok.2; rw [h]; simp only [List.length_nil]; omega) hroom⟩

/-- 'append(b, s...)', b bytes of the call's own, s a string. -/
theorem G_appendStr {s x : Operand} {t u e : TypeId} {d : Nat} {sz' szu : Nat} {ag' agu : Bool} [ht : Ty P t (.slice e) sz' ag'] [hu : Ty P u .string szu agu] [hi : Inf P e (.int .u8 0) 1 1] {a : Option Addr} {k cap : Nat} {xs : List Value} {l : List UInt8} {L' : Option Addr → Nat → List Res}
    (ho : o.op = .call { callee := .builtin .append, args := #[s, x], argTypes := #[t, u] }) (hs : ev fs s = some (.slice a k cap)) (hx : ev fs x = some (.string (S l)))
    (hb : k + l.length ≤ 140737488355328) (hd : o.dst = some d) (hn : Nat.blt d n = true) (hg : Goes ops fs o)
    (up : ∀ a' c', Upd L (.sl e 1 a k cap xs) (.sl e 1 a' (k + l.length) c' (xs ++ u8s l)) (L' a' c'))
    (h : ∀ a' c', (l = [] → a' = a ∧ c' = cap) → G n ds ((d, .slice a' (k + l.length) c') :: fs) E (L' a' c') (wpListIn (Wd ro) 0 P ops Q rest)) : G n ds fs E L (wpListIn (Wd ro) 0 P ops Q (o :: rest)) :=
  G_any hg (by rw [ho]; intro c h; cases h) fun a0 w ha hw => by
    have hok : slOk e 1 a k cap xs (fun b => w.heap[b]?) := hw.own _ (up none 0).mem
    obtain ⟨a', c', w', hrun, hok', hsz, hos, hout, htape, hkeep, hnew, hnil⟩ := run_append_str (ty := o.type) ht.und hu.und hi rfl hok l rfl hb
    have e1 : (execOp a0.eval o).run P w = .ok (.value (.slice a' (k + l.length) c')) w' := by
      simp [execOp, ho, resolve, invoke, builtin, ha.eval hs, ha.eval hx, hrun, Result.andThen]
    rw [e1]
    simp only [Oper.uponIn_value, hd]
    refine h a' c' hnil _ _ (ha.put hn _) (hw.update (up a' c') hsz (fun b hb' hlt => hkeep b (fun he => hb' ?_) hlt) hok' (fun b hb' => ?_) ?_ hos hout htape)
    · cases a with
      | none => simp at he
      | some p => simp at he; subst he; simp [Res.sl]
    · cases a' with
      | none => simp [Res.sl] at hb'
      | some p' =>
        simp [Res.sl] at hb'
        subst hb'
        have hlt : p'.block < w'.heap.size := by
          rcases hok'.2 with ⟨h, _⟩ | ⟨g, cur, h, hg', _⟩
          · cases h
          · cases h; exact (Array.getElem?_eq_some_iff.1 hg').1
        rcases hnew _ rfl with h' | h'
        · left
          cases a with
          | none => simp at h'
          | some p => simp at h'; exact ⟨by simp [Res.sl, h'], hlt⟩
        · exact .inr ⟨by omega, hlt⟩
    · cases a' <;> simp [Res.sl]

/-! ### Entries without a body -/
theorem V_extern {k : FuncId} {fn : Func} {e : Array Value → Sem Value} {args : Array Value} {v : Value} (hf : P.funcs[k]? = some fn) (hname : (fn.name == "runtime.NumGoroutine") = false) (hb : fn.body.isNone = true) (hn : Extern.findNext fn = none) (he : Extern.find fn = some e)
    (hrun : ∀ w, (e args).run P w = .ok v w) (ht : Goesto fs o k args) : Val P o fs E L v := by
  obtain ⟨f, xs, ts, vs, cap, ho, hfv, hx, rfl⟩ := ht
  refine ⟨(by rw [ho]; intro c h; cases h), fun n ds a w ha _ => ?_⟩
  have e1 := evs_args ha hx
  simp only [Array.toArray_toList] at e1
  have e2 := ha.eval hfv
  simp only [execOp, ho, resolve, e2, Deferred.ofValue, e1]
  simp [invoke, run_callFunc_extern hf hname hb hn he, hrun, Result.andThen]
/-- The first place of a byte. -/
def idxB (s : List UInt8) (c : UInt8) : Int := Lib.indexByte s c

/-! ### Pointers -/
theorem V_peqN {t u te : TypeId} {sz : Nat} {ag : Bool} [ht : Ty P t (.pointer te) sz ag] {x y : Operand} {p : Option Addr} (ho : o.op = .binOp .eql t x y u) (hx : ev fs x = some (.pointer p)) (hy : ev fs y = some (.pointer none)) : Val P o fs E L (.bool p.isNone) :=
  V_bin ho hx hy fun w => ⟨by simp [eqGuard], by
    have h : ∀ d : Nat, (Op.equalIn (d + 1) t (.pointer p) (.pointer none)).run P w = .ok p.isNone w := fun d => by
      cases p <;> simp [Op.equalIn, ht.run, sameAddr]
    simp only [binOp]
    simp [Op.equal, Op.maxDepth, h 9999]⟩
theorem V_pneqS {t u te : TypeId} {sz sz2 : Nat} {ag : Bool} {z : Value} {bytes : Nat} [ht : Ty P t (.pointer te) sz ag] [hi : Inf P te z sz2 bytes] {x y : Operand} {p : Addr} (ho : o.op = .binOp .neq t x y u) (hx : ev fs x = some (.pointer (some p))) (hy : ev fs y = some (.pointer (some p))) : Val P o fs E L (.bool false) := by
  obtain ⟨i, hi1, _⟩ := hi.inf
  exact V_bin ho hx hy fun w => ⟨by simp [eqGuard], Lib.run_neq_ptr_same w p ht.und hi1⟩
theorem V_toUnsafe {src dst te : TypeId} {sz sz' sz2 : Nat} {ag ag' : Bool} {z : Value} {bytes : Nat} [hs : Ty P src (.pointer te) sz ag] [hd : Ty P dst .unsafePointer sz' ag'] [hi : Inf P te z sz2 bytes] {x : Operand} {b off : Nat} {cs : Array Value} {T : TypeId} {fz : Nat × Nat}
    (ho : o.op = .convert src dst x) (hx : ev fs x = some (.pointer (some ⟨b, off, none⟩))) (hm : Res.blk b (.cells cs T fz) ∈ L) (hoff : off < cs.size) (h0 : sz2 ≠ 0) : Val P o fs E L (.pointer (some ⟨b, off, none⟩)) := by
  obtain ⟨i, hi1, _, hi3, _⟩ := hi.inf
  refine ⟨(by rw [ho]; intro c h; cases h), fun n ds a w ha hw => ?_⟩
  have hb : w.heap[b]? = some (.cells cs T fz) := hw.own _ hm
  have := Lib.run_to_unsafe (P := P) w (src := src) (dst := dst) (e := T) (cells := cs.size) ⟨b, off, none⟩ hs.und hd.und hi1 (by omega) (by simp [World.shape?, hb]) hoff
  simp [execOp, ho, ha.eval hx, Result.andThen, this]
theorem V_fromUnsafe {src dst te : TypeId} {sz sz' sz2 : Nat} {ag ag' : Bool} {z : Value} {bytes : Nat} [hs : Ty P src .unsafePointer sz ag] [hd : Ty P dst (.pointer te) sz' ag'] [hi : Inf P te z sz2 bytes] {x : Operand} {b off : Nat} {cs : Array Value} {T : TypeId} {fz : Nat × Nat}
    (ho : o.op = .convert src dst x) (hx : ev fs x = some (.pointer (some ⟨b, off, none⟩))) (hm : Res.blk b (.cells cs T fz) ∈ L) (hl : liesAt P P.depth T (cs.size / P.cellsOf T) off te 1 = true) : Val P o fs E L (.pointer (some ⟨b, off, none⟩)) := by
  obtain ⟨i, hi1, _⟩ := hi.inf
  refine ⟨(by rw [ho]; intro c h; cases h), fun n ds a w ha hw => ?_⟩
  have hb : w.heap[b]? = some (.cells cs T fz) := hw.own _ hm
  have := Lib.run_from_unsafe (P := P) w (src := src) (dst := dst) (e := T) (cells := cs.size) ⟨b, off, none⟩ hs.und hd.und hi1 (by simp [World.shape?, hb]) hl
  simp [execOp, ho, ha.eval hx, Result.andThen, this]
end rules
end Go.Proofs.YtaibabmladgldaaGreatDoor
namespace Go.Proofs.YtaibabmladgldaaGreatDoor
open Go.RowKit

section rules
variable {P : Program} {ro : Option Nat} {n : Nat} {ds : List Deferred} {fs : List (Nat × Value)} {E : Env} {L : List Res} {ops : Array Oper} {Q : Exit → Act → World → Prop} {rest : List Oper} {o : Oper}
/-- '[]byte(s)', shut at once. -/
theorem G_s2b {src dst e : TypeId} {sz sz' sze : Nat} {ag ag' age : Bool} [hs : Ty P src .string sz ag] [ht : Ty P dst (.slice e) sz' ag'] [he : Ty P e (.int .u8) sze age] {x : Operand} {l : List UInt8} {d : Nat}
    (ho : o.op = .convert src dst x) (hx : ev fs x = some (.string (S l))) (hd : o.dst = some d) (hn : Nat.blt d n = true) (hg : Goes ops fs o)
    (h : ∀ b c E', E.Le E' → SlE E' 1 (some ⟨b, 0, none⟩) l.length (u8s l) → G n ds ((d, .slice (some ⟨b, 0, none⟩) l.length c) :: fs) E' L (wpListIn (Wd ro) 0 P ops Q rest)) : G n ds fs E L (wpListIn (Wd ro) 0 P ops Q (o :: rest)) :=
  G_any hg (by rw [ho]; intro c h; cases h) fun a w ha hw => by
    have hrun := Lib.run_convert_string_bytes (P := P) w src dst e (S l) hs.und ht.und he.und
    have e1 : (execOp a.eval o).run P w = .ok (.value (.slice (some ⟨w.heap.size, 0, none⟩) l.length (grownCap w l.length 0 e))) (Lib.bytesWorld w e (S l)) := by
      simp [execOp, ho, ha.eval hx, Result.andThen, hrun, S_size]
    rw [e1]
    simp only [Oper.uponIn_value, hd]
    have hnew := Lib.bytesWorld_at_new w e (S l)
    have hE : E.heap w.heap.size = none := by
      cases hE : E.heap w.heap.size with
      | none => rfl
      | some o' => have := (Array.getElem?_eq_some_iff.1 (hw.env _ _ hE)).1; omega
    have hlt : ∀ b, b ∈ L.flatMap Res.ids → b < w.heap.size := fun b hb => (hw.apart b hb).2
    have hst : St E (.blk w.heap.size (.cells (Lib.bytesCells w e (S l)) e ((Lib.bytesCells w e (S l)).size, (Lib.bytesCells w e (S l)).size + 1)) :: L) (Lib.bytesWorld w e (S l)) := by
      refine ⟨fun b o' hb => ?_, fun r hr => ?_, ?_, fun b hb => ?_, hw.os, hw.out, hw.tape⟩
      · have h1 := hw.env b o' hb
        have h2 := (Array.getElem?_eq_some_iff.1 h1).1
        rw [Lib.bytesWorld_at_old w e _ b h2]; exact h1
      · rcases List.mem_cons.1 hr with rfl | hr
        · exact hnew
        · exact r.loc _ _ (fun b hb => (Lib.bytesWorld_at_old w e _ b (hlt b (List.mem_flatMap.2 ⟨r, hr, hb⟩))).symm) (hw.own r hr)
      · simp only [List.flatMap_cons, Res.blk, List.singleton_append, List.nodup_cons]
        exact ⟨fun hm => by have := hlt _ hm; omega, hw.nodup⟩
      · simp only [List.flatMap_cons, Res.blk, List.singleton_append, List.mem_cons] at hb
        have hsz := Lib.bytesWorld_size w e (S l)
        rcases hb with rfl | hb
        · exact ⟨hE, by omega⟩
        · exact ⟨(hw.apart b hb).1, by have := hlt b hb; omega⟩
    refine h _ _ _ (Env.blk_le hE) ?_ _ _ (ha.put hn _) ((St.shut hE).1 hst)
    have hul : (u8s l).length = l.length := List.length_map _
    have hcl : Lib.bytesCells w e (S l) = (u8s l).toArray ++ Array.replicate (grownCap w l.length 0 e - l.length) (.int .u8 0) := by
      unfold Lib.bytesCells
      congr 1
      apply Array.ext'
      simp [u8s, S]
    refine SlE.pre (l := u8s l) (r := List.replicate (grownCap w l.length 0 e - l.length) (.int .u8 0)) (T := e) (fz := ((Lib.bytesCells w e (S l)).size, (Lib.bytesCells w e (S l)).size + 1)) ?_ (by rw [hul, Nat.mul_one])
    show (E.blk _ _).heap w.heap.size = some _
    simp only [Env.blk, if_true]
    rw [hcl]
    simp

/-! ### unsafe.SliceData, unsafe.String -/
theorem V_sliceData {x : Operand} {ts : Array TypeId} {a : Option Addr} {m c : Nat} (ho : o.op = .call { callee := .builtin .unsafeSliceData, args := #[x], argTypes := ts }) (hx : ev fs x = some (.slice a m c)) (hc : a = none ∨ c ≠ 0) : Val P o fs E L (.pointer a) :=
  ⟨(by rw [ho]; intro c h; cases h), fun n ds a0 w ha _ => by
    have e : (Builtin.unsafeSliceData_ ts o.type #[.slice a m c]).run P w = .ok (.pointer a) w := by
      cases a with
      | none => rfl
      | some p => exact Lib.run_unsafeSliceData_row _ _ _ _ _ _ (hc.resolve_left (fun h => by cases h))
    simp [execOp, ho, resolve, invoke, builtin, ha.eval hx, Result.andThen, e]⟩
/-- unsafe.String over bytes of the call's own: they are given away. -/
theorem G_unsafeString {x y : Operand} {pt it e : TypeId} {d szp : Nat} {agp : Bool} [hp : Ty P pt (.pointer e) szp agp] {a : Option Addr} {c : Nat} {l : List UInt8} {L' : List Res}
    (ho : o.op = .call { callee := .builtin .unsafeString, args := #[x, y], argTypes := #[pt, it] }) (hx : ev fs x = some (.pointer a)) (hy : ev fs y = some (.int .i64 l.length)) (hl : l.length ≤ 9223372036854775807) (hce : P.cellsOf e = 1)
    (hd : o.dst = some d) (hn : Nat.blt d n = true) (hg : Goes ops fs o) (hdel : Del L (.sl e 1 a l.length c (u8s l)) L')
    (h : G n ds ((d, .string (S l)) :: fs) E L' (wpListIn (Wd ro) 0 P ops Q rest)) : G n ds fs E L (wpListIn (Wd ro) 0 P ops Q (o :: rest)) :=
  G_any hg (by rw [ho]; intro c h; cases h) fun a0 w ha hw => by
    have hw1 := hw.perm hdel.perm
    have hok : slOk e 1 a l.length c (u8s l) (fun b => w.heap[b]?) := hw1.own _ (.head _)
    have fin : ∀ w', (Builtin.unsafeString_ #[pt, it] o.type #[.pointer a, .int .i64 l.length]).run P w = .ok (.string (S l)) w' → St E L' w' → o.uponIn (Wd ro) 0 P a0 (wpListIn (Wd ro) 0 P ops Q rest) Q ((execOp a0.eval o).run P w) := fun w' hrun hw' => by
      have e1 : (execOp a0.eval o).run P w = .ok (.value (.string (S l))) w' := by
        simp [execOp, ho, resolve, invoke, builtin, ha.eval hx, ha.eval hy, hrun, Result.andThen]
      rw [e1]
      simp only [Oper.uponIn_value, hd]
      exact h _ _ (ha.put hn _) hw'
    by_cases h0 : l = []
    · subst h0
      exact fin w (Lib.run_unsafeString_none (P := P) w pt it o.type a) hw1.drop
    · rcases hok.2 with ⟨_, _, h1⟩ | ⟨g, cur, rfl, hgb, hnc, hcm, hcs, htake⟩
      · exact absurd (List.eq_nil_of_length_eq_zero h1) h0
      · have hcell := hok.owns.cells (g := g) rfl
        have hus := Lib.run_unsafeString_row (P := P) w pt it o.type e hp.und hce g cur.size (by simp [World.shape?, hgb]) l h0 (by omega) hl (fun j x hx => hcell j (.int .u8 x.toNat) (by simp [u8s, hx]))
        refine fin _ hus ?_
        refine St.drop (r := .blk g (.cells cur e (0, 0 + l.length))) (hw1.update (r := .sl e 1 (some ⟨g, 0, none⟩) l.length c (u8s l)) (.head _ _ _) ?_ (fun b hb _ => ?_) ?_ (fun b hb => ?_) (by simp [Res.blk]) ?_ ?_ ?_)
        · unfold World.freeze; split <;> simp
        · have : b ≠ g := fun e => hb (by subst e; simp [Res.sl])
          unfold World.freeze
          split
          · rfl
          · simp [Array.getElem?_modify, Ne.symm this]
        · show (w.freeze ⟨g, 0, none⟩ l.length).heap[g]? = _
          unfold World.freeze
          rw [if_neg (by simpa using h0)]
          simp only [Array.getElem?_modify, if_true]
          have hgb' : w.heap[g]? = some (.cells cur e (0, 0)) := hgb
          rw [hgb']
          rfl
        · simp only [Res.blk, List.mem_singleton] at hb
          subst hb
          refine .inl ⟨by simp [Res.sl], ?_⟩
          have hlt := (Array.getElem?_eq_some_iff.1 hgb).1
          unfold World.freeze
          split <;> simpa using hlt
        · unfold World.freeze; split <;> rfl
        · unfold World.freeze; split <;> rfl
        · unfold World.freeze; split <;> rfl
end rules
end Go.Proofs.YtaibabmladgldaaGreatDoor
set_option linter.unusedSimpArgs false
set_option linter.unusedVariables false
set_option maxHeartbeats 2000000
set_option maxRecDepth 20000
namespace Go.Proofs.YtaibabmladgldaaGreatDoor
open Go.RowKit

/-- What a strings.Builder holds: whether it was used, its buffer's place and room, its bytes. -/
structure Bld where
  used : Bool
  a : Option Addr
  c : Nat
  xs : List UInt8
  some' : a = none ∨ c ≠ 0
def Bld.new : Bld := ⟨false, none, 0, [], .inl rfl⟩
def Bld.obj (b : Nat) (u : Bool) (a : Option Addr) (n c : Nat) : Obj := .cells #[.pointer (if u then some ⟨b, 0, none⟩ else none), .slice a n c] 91 (0, 0)
/-- A strings.Builder of the call's own. -/
def Res.bld (b : Nat) (s : Bld) : Res := .both (.blk b (Bld.obj b s.used s.a s.xs.length s.c)) (.sl 5 1 s.a s.xs.length s.c (u8s s.xs))

section
variable {n : Nat} {ds : List Deferred} {fs : List (Nat × Value)} (E : Env) (L : List Res)
theorem G.bldNew {E : Env} {L : List Res} {X : Act → World → Prop} {b : Nat} (h : G n ds fs E (.bld b Bld.new :: L) X) : G n ds fs E (.blk b (.cells #[.pointer none, .slice none 0 0] 91 (0, 0)) :: L) X := by
  refine G.nilSl 5 1 ?_
  refine G.front (.tail _ (.head _ _)) ?_
  exact G.both h

theorem NoEscape_val {fs : List (Nat × Value)} {E : Env} {L : List Res} {o : Oper} {p : Option Addr} (ht : Goesto fs o 92 #[.pointer p]) : Val Tryz.prog o fs E L (.pointer p) :=
  V_extern Tryz.func92 (by kernel_rfl) (by kernel_rfl) (by kernel_rfl) (e := Extern.AbiNoEscape.same) (by kernel_rfl) (fun w => Lib.run_noEscape w (.pointer p)) ht

theorem copyCheck_call (b : Nat) (u : Bool) (a : Option Addr) (k c : Nat) :
    CallS Tryz.prog 72 #[.pointer (some ⟨b, 0, none⟩)] E (.blk b (Bld.obj b u a k c) :: L) (fun r E' L' => r = .tuple #[] ∧ E' = E ∧ L' = .blk b (Bld.obj b true a k c) :: L) := by
  refine CallS.intro (l := [_]) _ Tryz.func72 rfl Tryz.ntmps72 rfl ?_
  cases u with
  | true =>
    simp only [Bld.obj, if_true]
    refine G_seq (G_region ?_)
    refine Gm ?_
    refine Gv (V_nilCheck rfl rfl) ?_
    refine Gv (V_fieldAddr rfl rfl (by decide)) ?_
    refine Gv (V_load rfl rfl (Cell.own (.head _) rfl)) ?_
    refine Gv (V_peqN rfl rfl rfl) ?_
    refine G_end (X_then ?_)
    refine G_cond_f rfl (by simp [*]; done) ?_
    refine G_seq (G_region ?_)
    refine Gm ?_
    refine Gv (V_nilCheck rfl rfl) ?_
    refine Gv (V_fieldAddr rfl rfl (by decide)) ?_
    refine Gv (V_load rfl rfl (Cell.own (.head _) rfl)) ?_
    refine Gm ?_
    refine Gv (V_pneqS rfl rfl rfl) ?_
    refine G_end (X_then ?_)
    refine G_cond_f rfl rfl ?_
    refine G_skip ?_
    refine G_leaveS_n (.keep _ (.nil _)) (by exact (.nil)) rfl ?_ ?_
    · exact (.refl _)
    exact ⟨(by kernel_rfl), ⟨rfl, rfl⟩⟩
  | false =>
    simp only [Bld.obj, if_true, Bool.false_eq_true, if_false]
    refine G_seq (G_region ?_)
    refine Gm ?_
    refine Gv (V_nilCheck rfl rfl) ?_
    refine Gv (V_fieldAddr rfl rfl (by decide)) ?_
    refine Gv (V_load rfl rfl (Cell.own (.head _) rfl)) ?_
    refine Gv (V_peqN rfl rfl rfl) ?_
    refine G_end (X_then ?_)
    refine G_cond_t rfl (by kernel_rfl) ?_
    refine G_region ?_
    refine Gm ?_
    refine Gm ?_
    refine Gv (V_toUnsafe rfl rfl (.head _) (Nat.le_of_ble_eq_true rfl) (by decide)) ?_
    refine Gv (NoEscape_val (.mk rfl rfl rfl rfl)) ?_
    refine Gv (V_fromUnsafe rfl rfl (.head _) (by kernel_rfl)) ?_
    refine Gv (V_nilCheck rfl rfl) ?_
    refine Gv (V_fieldAddr rfl rfl (by decide)) ?_
    refine G_storeAt rfl rfl rfl rfl rfl rfl (.none rfl) (.head _ _ _) (Nat.le_of_ble_eq_true rfl) (by simp only [putAll, Nat.zero_add, Nat.reduceAdd, List.setIfInBounds_toArray, List.set_cons_succ, List.set_cons_zero]; rfl) ?_
    refine G_end ?_
    refine G_leaveS_n (.keep _ (.nil _)) (by exact (.nil)) rfl ?_ ?_
    · exact (.refl _)
    exact ⟨(by kernel_rfl), ⟨rfl, rfl⟩⟩
theorem IndexByteString_val {fs : List (Nat × Value)} {E : Env} {L : List Res} {o : Oper} {s : List UInt8} {c : Nat} (ht : Goesto fs o 94 #[.string (S s), .int .u8 c]) : Val Tryz.prog o fs E L (.int .i64 (idxB s c.toUInt8)) :=
  V_extern Tryz.func94 (by kernel_rfl) (by kernel_rfl) (by kernel_rfl) (e := Extern.BytealgIndexByte.indexByte) (by kernel_rfl) (fun w => Lib.run_indexByteString (P := Tryz.prog) (S s) c w) ht
end
end Go.Proofs.YtaibabmladgldaaGreatDoor
set_option linter.unusedSimpArgs false
set_option linter.unusedVariables false
set_option maxHeartbeats 2000000
set_option maxRecDepth 20000
namespace Go.Proofs.YtaibabmladgldaaGreatDoor
open Go.RowKit
theorem u8s_app (a b : List UInt8) : u8s (a ++ b) = u8s a ++ u8s b := List.map_append
section
variable (E : Env) (L : List Res)
theorem WriteString_parts (b : Nat) (u : Bool) (a : Option Addr) (c : Nat) (xs x : List UInt8) (h : xs.length + x.length ≤ 140737488355328) :
    CallS Tryz.prog 54 #[.pointer (some ⟨b, 0, none⟩), .string (S x)] E (.blk b (Bld.obj b u a xs.length c) :: .sl 5 1 a xs.length c (u8s xs) :: L)
      (fun r E' L' => ∃ a' c', r = .tuple #[.int .i64 x.length, .nilIface] ∧ E' = E ∧ (x = [] → a' = a ∧ c' = c) ∧ L' = .blk b (Bld.obj b true a' (xs.length + x.length) c') :: .sl 5 1 a' (xs.length + x.length) c' (u8s xs ++ u8s x) :: L) := by
  refine CallS.intro (l := [_, _]) _ Tryz.func54 rfl Tryz.ntmps54 rfl ?_
  refine G_seq (G_region ?_)
  refine Ga ?_
  refine Ga ?_
  refine G_end (X_then (G_seq (G_region ?_)))
  refine Gm ?_
  refine G_call (k := 72) (.mk rfl rfl rfl rfl) rfl rfl (.none rfl) (copyCheck_call _ _ _ _ _ _ _) ?_
  rintro r1 E2 L3 hE4 ⟨rfl, ⟨rfl, rfl⟩⟩
  refine G_end (X_then (G_seq (G_region ?_)))
  refine Gm ?_
  refine Gm ?_
  refine Gv (V_nilCheck rfl rfl) ?_
  refine Gv (V_fieldAddr rfl rfl (by decide)) ?_
  refine Gv (V_load rfl rfl (Cell.own (.head _) rfl)) ?_
  refine Gm ?_
  (refine G_appendStr rfl rfl rfl (by omega) rfl rfl (.none rfl) (fun _ _ => (.tail _ (.head _ _ _))) ?_; intro a14 c14 ha14)
  refine Gv (V_nilCheck rfl rfl) ?_
  refine Gv (V_fieldAddr rfl rfl (by decide)) ?_
  refine G_storeAt rfl rfl rfl rfl rfl rfl (.none rfl) (.head _ _ _) (Nat.le_of_ble_eq_true rfl) (by simp only [putAll, Nat.zero_add, Nat.reduceAdd, List.setIfInBounds_toArray, List.set_cons_succ, List.set_cons_zero]; rfl) ?_
  refine G_end (X_then (G_seq (G_region ?_)))
  refine Gm ?_
  refine Gv (V_len rfl rfl) ?_
  refine Ga ?_
  refine Ga ?_
  refine G_end (X_then (G_ret ?_))
  refine G_leaveS (.keep _ (.keep _ (.nil _))) (by exact (.cons (.tmp rfl) (.cons (.tmp rfl) (.nil)))) rfl ?_ ?_
  · exact (.refl _)
  exact ⟨_, ⟨_, ⟨rfl, ⟨rfl, ⟨(by assumption), rfl⟩⟩⟩⟩⟩
theorem WriteString_call (b : Nat) (s : Bld) (x : List UInt8) (h : s.xs.length + x.length ≤ 140737488355328) :
    CallS Tryz.prog 54 #[.pointer (some ⟨b, 0, none⟩), .string (S x)] E (.bld b s :: L) (fun r E' L' => ∃ t, r = .tuple #[.int .i64 x.length, .nilIface] ∧ E' = E ∧ t.xs = s.xs ++ x ∧ t.xs.length = s.xs.length + x.length ∧ L' = .bld b t :: L) := fun w hw =>
  (WriteString_parts E L b s.used s.a s.c s.xs x h w (St.both.1 hw)).mono fun e w' ⟨r, E', L', he, hE, hs, a', c', hr, hE', hn, hL⟩ => by
    subst hL
    have hok : slOk _ 1 a' (s.xs.length + x.length) c' (u8s s.xs ++ u8s x) _ := hs.own _ (.tail _ (.head _))
    refine ⟨r, E', _, he, hE, St.both.2 hs, ⟨true, a', c', s.xs ++ x, ?_⟩, hr, hE', rfl, List.length_append, ?_⟩
    · by_cases h0 : x = []
      · obtain ⟨h1, h2⟩ := hn h0
        rw [h1, h2]
        exact s.some'
      · rcases hok.2 with ⟨h1, _⟩ | ⟨_, _, _, _, h1, _⟩
        · exact .inl h1
        · have := List.length_pos_iff.2 h0
          exact .inr (by omega)
    · simp only [Res.bld, List.length_append, u8s_app, Bld.obj, if_true]
theorem BString_parts (b : Nat) (u : Bool) (a : Option Addr) (c : Nat) (xs : List UInt8) (h : xs.length ≤ 9223372036854775807) (hc : a = none ∨ c ≠ 0) :
    CallS Tryz.prog 55 #[.pointer (some ⟨b, 0, none⟩)] E (.blk b (Bld.obj b u a xs.length c) :: .sl 5 1 a xs.length c (u8s xs) :: L)
      (fun r E' L' => r = .string (S xs) ∧ E' = E ∧ L' = L) := by
  refine CallS.intro (l := [_]) _ Tryz.func55 rfl Tryz.ntmps55 rfl ?_
  simp only [Bld.obj]
  refine G_seq (G_region ?_)
  refine Ga ?_
  refine G_end (X_then (G_seq ?_))
  refine G_drawT 10 mixed (by kernel_rfl) ?_; dsimp only [List.take, List.drop]
  refine Q_val (V_move rfl rfl) rfl rfl (.none rfl) ?_
  refine Q_val (V_nilCheck rfl rfl) rfl rfl (.none rfl) ?_
  refine Q_val (V_fieldAddr rfl rfl (by decide)) rfl rfl (.none rfl) ?_
  refine Q_val (V_load rfl rfl (Cell.own (.head _) rfl)) rfl rfl (.none rfl) ?_
  refine Q_val (V_sliceData rfl rfl (by assumption)) rfl rfl (.none rfl) ?_
  refine Q_val (V_move rfl rfl) rfl rfl (.none rfl) ?_
  refine Q_val (V_nilCheck rfl rfl) rfl rfl (.none rfl) ?_
  refine Q_val (V_fieldAddr rfl rfl (by decide)) rfl rfl (.none rfl) ?_
  refine Q_val (V_load rfl rfl (Cell.own (.head _) rfl)) rfl rfl (.none rfl) ?_
  refine Q_val (V_lenS rfl rfl) rfl rfl (.none rfl) ?_
  refine Q_endT ?_
  refine G_unsafeString rfl rfl rfl h (by kernel_rfl) rfl rfl (.none rfl) (.tail _ (.head _ _)) ?_
  refine Ga ?_
  refine G_end (X_then (G_ret ?_))
  refine G_leaveS (.drop _ (.nil _)) (by exact (.cons (.tmp rfl) (.nil))) rfl ?_ ?_
  · exact (.refl _)
  exact ⟨rfl, ⟨rfl, rfl⟩⟩
theorem BString_call (b : Nat) (s : Bld) (h : s.xs.length ≤ 9223372036854775807) :
    CallS Tryz.prog 55 #[.pointer (some ⟨b, 0, none⟩)] E (.bld b s :: L) (fun r E' L' => r = .string (S s.xs) ∧ E' = E ∧ L' = L) := fun w hw => by
  exact BString_parts E L b s.used s.a s.c s.xs h s.some' w (St.both.1 hw)
end
end Go.Proofs.YtaibabmladgldaaGreatDoor
namespace Go.Proofs.YtaibabmladgldaaGreatDoor
open Go.RowKit

section rules
variable {P : Program} {ro : Option Nat} {n : Nat} {ds : List Deferred} {fs : List (Nat × Value)} {E : Env} {L : List Res} {ops : Array Oper} {Q : Exit → Act → World → Prop} {rest : List Oper} {o : Oper}
theorem Rd.more {sz m : Nat} {a : Option Addr} {vals : List Value} (r : Res) (h : Rd E L sz a m vals) : Rd E (r :: L) sz a m vals := ⟨h.1, fun w hw => h.2 w hw.drop⟩
theorem Rd.env {E' : Env} {sz m : Nat} {a : Option Addr} {vals : List Value} (h : Rd E L sz a m vals) (hE : E.Le E') : Rd E' L sz a m vals := ⟨h.1, fun w hw => h.2 w (hw.weaken hE)⟩
theorem V_cap {t e : TypeId} {sz : Nat} {ag : Bool} [ht : Ty P t (.slice e) sz ag] {x : Operand} {a : Option Addr} {m c : Nat} (ho : o.op = .call { callee := .builtin .cap, args := #[x], argTypes := #[t] }) (hx : ev fs x = some (.slice a m c)) : Val P o fs E L (.int .i64 c) :=
  ⟨(by rw [ho]; intro c h; cases h), fun n ds a' w ha _ => by simp [execOp, ho, ha.eval hx, resolve, invoke, builtin, Builtin.cap_, ht.run, goInt]⟩
end rules
end Go.Proofs.YtaibabmladgldaaGreatDoor
namespace Go.Proofs.YtaibabmladgldaaGreatDoor
open Go.RowKit
section rules
variable {P : Program} {ro : Option Nat} {n : Nat} {ds : List Deferred} {fs : List (Nat × Value)} {E : Env} {L : List Res} {ops : Array Oper} {Q : Exit → Act → World → Prop} {rest : List Oper} {o : Oper}
variable {T : Act → Fam → Prop} {J : Nat → World → Prop} {π : List (Nat × Nat)} {i : Nat}
end rules
end Go.Proofs.YtaibabmladgldaaGreatDoor
namespace Go.Proofs.YtaibabmladgldaaGreatDoor
open Go.RowKit
section rules
variable {P : Program} {n : Nat} {ds : List Deferred} {fs : List (Nat × Value)} {E : Env} {L : List Res} {o : Oper}
theorem V_copy0 {x y : Operand} {t u e : TypeId} {sz' : Nat} {ag' : Bool} {z : Value} {bytes : Nat} [ht : Ty P t (.slice e) sz' ag'] [hi : Inf P e z 1 bytes] {p a : Option Addr} {dl dc m c : Nat}
    (ho : o.op = .call { callee := .builtin .copy, args := #[x, y], argTypes := #[t, u] }) (hx : ev fs x = some (.slice p dl dc)) (hy : ev fs y = some (.slice a m c)) (h0 : min m dl = 0) : Val P o fs E L (.int .i64 0) :=
  ⟨(by rw [ho]; intro c h; cases h), fun n ds a' w ha _ => by
    obtain ⟨i, hi1, _, hs1, _⟩ := hi.inf
    have hs : (P.info? e).map (·.size) = some 1 := by rw [hi1]; simp [hs1]
    have hrun := run_copy_none (P := P) w t u o.type e p a dl dc m c ht.und hs h0
    simp only [execOp, ho, resolve, invoke, builtin, Sem.run_bind, Sem.run_pure, Result.andThen_ok, List.map_toArray, List.map_cons, List.map_nil, ha.eval hx, ha.eval hy, hrun]; rfl⟩
variable {ops : Array Oper} {T : Act → Fam → Prop} {J : Nat → World → Prop} {π : List (Nat × Nat)} {i : Nat}
theorem F_makeNoZero {k : FuncId} {fn : Func} {t e : TypeId} {ps : Array TypeId} {m d : Nat} (hf : P.funcs[k]? = some fn) (hname : (fn.name == "runtime.NumGoroutine") = false) (hb : fn.body.isNone = true) (hfn : Extern.findNext fn = none)
    (he : Extern.find fn = some (Extern.BytealgMakeNoZero.makeNoZero ps #[t])) (hte : P.underlying t = some (.slice e)) (h0 : ops[i]? = some o) (ht : Goesto fs o k #[.int .i64 m]) (hm : m ≤ 140737488355328) (hd : o.dst = some d) (hn : Nat.blt d n = true) (hg : Goes ops fs o)
    (h : ∀ b c, m ≤ c → GF n ds ((d, .slice (some ⟨b, 0, none⟩) m c) :: fs) E (.sl e 1 (some ⟨b, 0, none⟩) 0 c [] :: L) (wpF P ops T J π)) : GF n ds fs E L (wpF P ops T J ((i, 3) :: π)) := fun a ha =>
  ⟨o, h0, by
    rw [if_pos (hg.wanted ha)]
    intro M w hw
    unfold Steps
    obtain ⟨f, xs, ts, vs, cap, ho, hfv, hx, hargs⟩ := ht
    have e1 := evs_args ha hx
    simp only [Array.toArray_toList] at e1
    have e2 := ha.eval hfv
    obtain ⟨cs, hrun, hc1, hc2⟩ := Lib.run_makeNoZero (P := P) w ps t e hte m (by omega)
    have e3 : (execOp a.eval o).run P w = .ok (.value (.slice (some ⟨w.heap.size, 0, none⟩) m cs.size)) (w.drew.drew.alloc (.cells cs e)) := by
      simp only [execOp, ho, resolve, e2, Deferred.ofValue, e1]
      simp [invoke, ← hargs, run_callFunc_extern hf hname hb hfn he, hrun, Result.andThen]
    rw [e3]
    have hst := ((hw.drew (w.drawn + 1)).drew (w.drawn + 2)).alloc (.cells cs e)
    have hst2 : St E (.blk w.heap.size (.cells cs e) :: (M ++ L)) (w.drew.drew.alloc (.cells cs e)) := hst
    have s2 : St E (.sl e 1 (some ⟨w.heap.size, 0, none⟩) 0 cs.size [] :: (M ++ L)) (w.drew.drew.alloc (.cells cs e)) := by
      refine hst2.conv (r' := .sl e 1 (some ⟨w.heap.size, 0, none⟩) 0 cs.size []) (by simp [Res.sl, Res.blk]) ?_
      exact ⟨rfl, .inr ⟨w.heap.size, cs, rfl, hst2.own _ (.head _), Nat.zero_le _, hc2 (by simp only [maxLen]; omega), by simp, by simp⟩⟩
    refine ⟨Fam.st E (.sl e 1 (some ⟨w.heap.size, 0, none⟩) 0 cs.size [] :: L), fun w' ⟨M', h'⟩ => ⟨M' ++ [_], by show St E ((M' ++ [_]) ++ L) w'; rw [List.append_assoc]; exact h'⟩, s2.perm List.perm_middle.symm, ?_⟩
    rw [hd]
    exact h _ _ hc1 _ (ha.put hn _)⟩
end rules
end Go.Proofs.YtaibabmladgldaaGreatDoor
set_option linter.unusedSimpArgs false
set_option linter.unusedVariables false
set_option maxHeartbeats 2000000
set_option maxRecDepth 20000
namespace Go.Proofs.YtaibabmladgldaaGreatDoor
open Go.RowKit
/-! strings.Builder's Grow, for texts that do without the looks. -/
section
variable (E : Env) (L : List Res)
theorem grow_parts (b : Nat) (n : Nat) (hn : n ≤ 1000000) (u : Bool) :
    CallS Tryz.prog 73 #[.pointer (some ⟨b, 0, none⟩), .int .i64 n] E (.blk b (Bld.obj b u none 0 0) :: L)
      (fun r E' L' => ∃ a c, n ≤ c ∧ r = .tuple #[] ∧ E = E' ∧ L' = .blk b (Bld.obj b u (some ⟨a, 0, none⟩) 0 c) :: .sl 5 1 (some ⟨a, 0, none⟩) 0 c [] :: L) := by
  refine CallS.intro (l := [_, _]) _ Tryz.func73 rfl Tryz.ntmps73 rfl ?_
  simp only [Bld.obj]
  refine G_seq ?_
  refine G_drawX 16 [(0, 0), (1, 0), (2, 0), (3, 1), (4, 0), (5, 0), (6, 0), (7, 0), (9, 0), (10, 0), (11, 0), (12, 1), (8, 3), (13, 0), (14, 0), (15, 0)] mixed (by kernel_rfl) ?_
  refine F_pure rfl (fun _ _ => V_move rfl rfl) rfl rfl (.none rfl) ?_
  refine F_pure rfl (fun _ _ => V_nilCheck rfl rfl) rfl rfl (.none rfl) ?_
  refine F_pure rfl (fun _ _ => V_fieldAddr rfl rfl (by decide)) rfl rfl (.none rfl) ?_
  refine F_load rfl (.head _) (V_load rfl rfl (Cell.own (.head _) rfl)) rfl rfl (.none rfl) ?_
  refine F_pure rfl (fun _ _ => V_cap rfl rfl) rfl rfl (.none rfl) ?_
  refine F_pure rfl (fun _ _ => V_mul_i64 rfl rfl rfl (by omega) (by omega)) rfl rfl (.none rfl) ?_
  refine F_pure rfl (fun _ _ => V_move rfl rfl) rfl rfl (.none rfl) ?_
  refine F_pure rfl (fun _ _ => V_add_i64 rfl rfl rfl (by omega) (by omega)) rfl rfl (.none rfl) ?_
  refine F_pure rfl (fun _ _ => V_move rfl rfl) rfl rfl (.none rfl) ?_
  refine F_pure rfl (fun _ _ => V_nilCheck rfl rfl) rfl rfl (.none rfl) ?_
  refine F_pure rfl (fun _ _ => V_fieldAddr rfl rfl (by decide)) rfl rfl (.none rfl) ?_
  refine F_load rfl (.head _) (V_load rfl rfl (Cell.own (.head _) rfl)) rfl rfl (.none rfl) ?_
  have e12 : (2 * ((0 : Nat) : Int) + (n : Int)) = ((n : Nat) : Int) := by omega
  rw [e12]
  refine F_makeNoZero (t := 75) (e := 5) (ps := #[3]) Tryz.func93 (by kernel_rfl) (by kernel_rfl) (by kernel_rfl) (by kernel_rfl) Tryz.underlying75 rfl (.mk rfl rfl rfl rfl) (by omega) rfl rfl (.none rfl) ?_
  intro a13 c13 hc13
  refine F_pure rfl (fun _ _ => V_lenS rfl rfl) rfl rfl (.none rfl) ?_
  refine F_pure rfl (fun _ _ => V_slHead rfl rfl rfl (by omega) (by omega)) rfl rfl (.none rfl) ?_
  refine F_pure rfl (fun _ _ => V_assign rfl rfl) rfl rfl (.none rfl) ?_
  (refine F_end (.nil _) ?_; dsimp only [List.drop])
  refine G_end (X_then (G_seq (G_region ?_)))
  refine Gm ?_
  refine Gm ?_
  refine Gv (V_nilCheck rfl rfl) ?_
  refine Gv (V_fieldAddr rfl rfl (by decide)) ?_
  refine Gv (V_load rfl rfl (Cell.own (.tail _ (.head _)) rfl)) ?_
  refine Gv (V_copy0 rfl rfl rfl rfl) ?_
  refine G.front (.tail _ (.head _ _)) ?_
  refine G_end (X_then (G_region ?_))
  refine Gm ?_
  refine Gm ?_
  refine Gv (V_nilCheck rfl rfl) ?_
  refine Gv (V_fieldAddr rfl rfl (by decide)) ?_
  refine G_storeAt rfl rfl rfl rfl rfl rfl (.none rfl) (.head _ _ _) (Nat.le_of_ble_eq_true rfl) (by simp only [putAll, Nat.zero_add, Nat.reduceAdd, List.setIfInBounds_toArray, List.set_cons_succ, List.set_cons_zero]; rfl) ?_
  refine G_end ?_
  refine G_leaveS_n (.keep _ (.keep _ (.nil _))) (by exact (.nil)) rfl ?_ ?_
  · exact (.refl _)
  exact ⟨_, ⟨_, ⟨(by assumption), ⟨(by kernel_rfl), ⟨rfl, rfl⟩⟩⟩⟩⟩
theorem Grow_parts (b : Nat) (n : Nat) (hn : n ≤ 1000000) (h1 : 1 ≤ n) :
    CallS Tryz.prog 53 #[.pointer (some ⟨b, 0, none⟩), .int .i64 n] E (.blk b (Bld.obj b false none 0 0) :: L)
      (fun r E' L' => ∃ a c, n ≤ c ∧ r = .tuple #[] ∧ E = E' ∧ L' = .blk b (Bld.obj b true (some ⟨a, 0, none⟩) 0 c) :: .sl 5 1 (some ⟨a, 0, none⟩) 0 c [] :: L) := by
  refine CallS.intro (l := [_, _]) _ Tryz.func53 rfl Tryz.ntmps53 rfl ?_
  refine G_seq (G_region ?_)
  refine Gm ?_
  refine G_call (k := 72) (.mk rfl rfl rfl rfl) rfl rfl (.none rfl) (copyCheck_call _ _ b false none 0 0) ?_
  rintro r1 E1 L1 hE1 ⟨rfl, rfl, rfl⟩
  simp only [Bld.obj]
  refine G_end (X_then (G_seq (G_seq (G_region ?_))))
  refine Gm ?_
  refine Gv (V_lss rfl rfl rfl) ?_
  refine G_end (X_then ?_)
  refine G_cond_f rfl (decide_eq_false (by omega)) ?_
  refine G_skip (X_then (G_seq ?_))
  refine G_draw mixed (by kernel_rfl) ?_
  refine Q_val (V_move rfl rfl) rfl rfl (.none rfl) ?_
  refine Q_val (V_nilCheck rfl rfl) rfl rfl (.none rfl) ?_
  refine Q_val (V_fieldAddr rfl rfl (by decide)) rfl rfl (.none rfl) ?_
  refine Q_val (V_load rfl rfl (Cell.own (.head _) rfl)) rfl rfl (.none rfl) ?_
  refine Q_val (V_cap rfl rfl) rfl rfl (.none rfl) ?_
  refine Q_val (V_move rfl rfl) rfl rfl (.none rfl) ?_
  refine Q_val (V_nilCheck rfl rfl) rfl rfl (.none rfl) ?_
  refine Q_val (V_fieldAddr rfl rfl (by decide)) rfl rfl (.none rfl) ?_
  refine Q_val (V_load rfl rfl (Cell.own (.head _) rfl)) rfl rfl (.none rfl) ?_
  refine Q_val (V_lenS rfl rfl) rfl rfl (.none rfl) ?_
  refine Q_val (V_sub_i64 rfl rfl rfl (by omega) (by omega)) rfl rfl (.none rfl) ?_
  refine Q_val (V_move rfl rfl) rfl rfl (.none rfl) ?_
  refine Q_val (V_lss rfl rfl rfl) rfl rfl (.none rfl) ?_
  refine Q_end ?_
  refine X_then ?_
  refine G_cond_t rfl (decide_eq_true (by omega)) ?_
  refine G_region ?_
  refine Gm ?_
  refine Gm ?_
  refine G_call (k := 73) (.mk rfl rfl rfl rfl) rfl rfl (.none rfl) (grow_parts _ _ b n hn true) ?_
  rintro r2 E2 L2 hE2 ⟨a, c, hc, rfl, rfl, rfl⟩
  refine G_end ?_
  refine G_leaveS_n (.keep _ (.keep _ (.nil _))) (by exact (.nil)) rfl ?_ ?_
  · exact (.refl _)
  exact ⟨_, ⟨_, ⟨(by assumption), ⟨(by kernel_rfl), ⟨rfl, rfl⟩⟩⟩⟩⟩
theorem Grow_call (b : Nat) (n : Nat) (hn : n ≤ 1000000) (h1 : 1 ≤ n) :
    CallS Tryz.prog 53 #[.pointer (some ⟨b, 0, none⟩), .int .i64 n] E (.bld b Bld.new :: L)
      (fun r E' L' => ∃ t, r = .tuple #[] ∧ E = E' ∧ t.xs = [] ∧ t.xs.length = 0 ∧ L' = .bld b t :: L) := fun w hw => by
  have hw2 := St.both.1 hw
  have hw3 : St E (.blk b (Bld.obj b false none 0 0) :: .sl 5 1 none 0 0 [] :: L) w := hw2
  have hw4 := (hw3.perm (List.Perm.swap _ _ _)).drop
  refine (Grow_parts E L b n hn h1 w hw4).mono ?_
  rintro e w' ⟨r, E', L', he, hE, hs, a', c', hc, hr, hE', hL⟩
  subst hL
  exact ⟨r, E', .bld b ⟨true, some ⟨a', 0, none⟩, c', [], .inr (by omega)⟩ :: L, he, hE, St.both.2 hs, _, hr, hE', rfl, rfl, rfl⟩
end
end Go.Proofs.YtaibabmladgldaaGreatDoor
set_option linter.unusedSimpArgs false
set_option linter.unusedVariables false
set_option maxHeartbeats 2000000
set_option maxRecDepth 20000
namespace Go.Proofs.YtaibabmladgldaaGreatDoor
open Go.RowKit
/-! strings.Join with one blank, any texts. -/
def jnS : List (List UInt8) → List UInt8
  | [] => []
  | x :: l => x ++ l.flatMap fun y => 32 :: y
theorem jnS_snoc (xs : List (List UInt8)) (v : List UInt8) (h : xs ≠ []) : jnS (xs ++ [v]) = (jnS xs ++ [32]) ++ v := by
  rcases xs with _ | ⟨x, xs⟩
  · exact absurd rfl h
  · simp [jnS]
/-- The bytes of the first texts. -/
def sumL (xs : List (List UInt8)) (i : Nat) : Nat := ((xs.take i).map List.length).sum
theorem sumL_succ {xs : List (List UInt8)} {i : Nat} (h : i < xs.length) : sumL xs (i + 1) = sumL xs i + xs[i].length := by
  rw [sumL, List.take_succ_eq_append_getElem h, List.map_append, List.sum_append]
  simp [sumL]
theorem sumL_le {xs : List (List UInt8)} (h1 : ∀ i (h : i < xs.length), xs[i].length ≤ 1000) : ∀ i, i ≤ xs.length → sumL xs i ≤ 1000 * i
  | 0, _ => by simp [sumL]
  | i + 1, h => by rw [sumL_succ h]; have := sumL_le h1 i (by omega); have := h1 i h; omega
section
variable (E : Env) (L : List Res)
theorem Join1_call (p : Option Addr) (c : Nat) (x : List UInt8) (hx : SlE E 1 p 1 (strs [x])) : CallV Tryz.prog 40 #[.slice p 1 c, .string (S [32])] E L (.string (S x)) := by
  have h0 := strs_get (l := [x]) (k := 0) (s := x) rfl
  refine CallS.toV (CallS.intro (l := [_, _]) _ Tryz.func40 rfl Tryz.ntmps40 rfl ?_)
  refine G_seq (G_region ?_)
  refine Ga ?_
  refine G_end (X_then (G_seq (G_seq (G_region ?_))))
  refine Gm ?_
  refine Gv (V_lenS rfl rfl) ?_
  refine G_end (X_then (G_block (G_seq (G_region ?_))))
  refine Gv (V_eql rfl rfl rfl) ?_
  refine Ga ?_
  refine G_end (X_then ?_)
  refine G_cond_f rfl (by kernel_rfl) ?_
  refine G_seq (G_region ?_)
  refine Gv (V_eql rfl rfl rfl) ?_
  refine Ga ?_
  refine G_end (X_then ?_)
  refine G_cond_t rfl (by kernel_rfl) ?_
  refine G_seq (G_region ?_)
  refine Gm ?_
  refine Gv (V_idxAddr rfl rfl rfl (SlE.rd (by assumption)) (by omega) (by omega)) ?_
  refine Gv (V_loadS rfl rfl (SlE.rd (by assumption)) (by assumption) (by simp)) ?_
  refine Ga ?_
  refine G_end (X_then (G_ret (X_block_ret (X_then_ret ?_))))
  refine G_leaveS (.nil _) (by exact (.cons (.tmp rfl) (.nil))) rfl ?_ ?_
  · exact (.refl _)
  exact ⟨rfl, rfl⟩
theorem JoinN_call (p : Option Addr) (n c : Nat) (xs : List (List UInt8)) (hx : SlE E 1 p n (strs xs)) (hc : n ≤ c) (h2 : 2 ≤ n) (h64 : n ≤ 64) (h1 : ∀ i (h : i < xs.length), xs[i].length ≤ 1000) : CallV Tryz.prog 40 #[.slice p n c, .string (S [32])] E L (.string (S (jnS xs))) := by
  have e := hx.nS
  subst e
  have hq : ¬ (IntKind.i64.wrap ((9223372036854775807 : Int).tdiv (xs.length - 1)) ≤ ((([32] : List UInt8).length : Nat) : Int)) := by
    have h5 : (9223372036854775807 : Int).tdiv ((xs.length : Int) - 1) = 9223372036854775807 / ((xs.length : Int) - 1) := Int.tdiv_eq_ediv_of_nonneg (by omega)
    have h6 : (100 : Int) ≤ 9223372036854775807 / ((xs.length : Int) - 1) := (Int.le_ediv_iff_mul_le (by omega)).2 (by omega)
    have h7 : 9223372036854775807 / ((xs.length : Int) - 1) ≤ 9223372036854775807 := Int.ediv_le_self _ (by omega)
    rw [h5, wrap_i64 (by omega) h7]
    simp only [List.length_singleton]
    omega
  have e5 : IntKind.i64.wrap (0 + IntKind.i64.wrap (((([32] : List UInt8).length : Nat) : Int) * (xs.length - 1))) = ((xs.length - 1 + sumL xs 0 : Nat) : Int) := by
    have h8 : ((([32] : List UInt8).length : Nat) : Int) * ((xs.length : Int) - 1) = (xs.length : Int) - 1 := by simp
    have h9 : sumL xs 0 = 0 := rfl
    rw [h8, h9, wrap_i64 (a := (xs.length : Int) - 1) (by omega) (by omega), wrap_i64 (by omega) (by omega)]
    omega
  refine CallS.toV (CallS.intro (l := [_, _]) _ Tryz.func40 rfl Tryz.ntmps40 rfl ?_)
  refine G_seq (G_region ?_)
  refine Ga ?_
  refine G_end (X_then (G_seq (G_seq (G_region ?_))))
  refine Gm ?_
  refine Gv (V_lenS rfl rfl) ?_
  refine G_end (X_then (G_block (G_seq (G_region ?_))))
  refine Gv (V_eql rfl rfl rfl) ?_
  refine Ga ?_
  refine G_end (X_then ?_)
  refine G_cond_f rfl (decide_eq_false (by omega)) ?_
  refine G_seq (G_region ?_)
  refine Gv (V_eql rfl rfl rfl) ?_
  refine Ga ?_
  refine G_end (X_then ?_)
  refine G_cond_f rfl (decide_eq_false (by omega)) ?_
  refine G_skip (X_block (X_then (G_seq (G_region ?_))))
  refine Ga ?_
  refine G_end (X_then (G_seq (G_seq (G_region ?_))))
  refine Gm ?_
  refine Gv (V_len rfl rfl) ?_
  refine Gv (V_gtr rfl rfl rfl) ?_
  refine G_end (X_then ?_)
  refine G_cond_t rfl (by kernel_rfl) ?_
  refine G_seq (G_seq (G_region ?_))
  refine Gm ?_
  refine Gv (V_len rfl rfl) ?_
  refine Gm ?_
  refine Gv (V_lenS rfl rfl) ?_
  refine Gv (V_sub_i64 rfl rfl rfl (by omega) (by omega)) ?_
  refine Gv (V_quo rfl rfl rfl (by omega)) ?_
  refine Gv (V_geq rfl rfl rfl) ?_
  refine G_end (X_then ?_)
  refine G_cond_f rfl (decide_eq_false (by omega)) ?_
  refine G_skip (X_then (G_region ?_))
  refine Gm ?_
  refine Gm ?_
  refine Gv (V_len rfl rfl) ?_
  refine Gm ?_
  refine Gv (V_lenS rfl rfl) ?_
  refine Gv (V_sub_i64 rfl rfl rfl (by omega) (by omega)) ?_
  refine Gv (V_mul rfl rfl rfl) ?_
  refine Gv (V_add rfl rfl rfl) ?_
  refine Ga ?_
  refine G_end (X_then (G_seq (G_seq (G_region ?_))))
  refine Gm ?_
  refine Gv (V_lenS rfl rfl) ?_
  refine Gm ?_
  refine G_end (X_then (G_block ?_))
  rw [e5]
  refine G_loop (α := Nat) (fun i => [(0, .slice p xs.length c), (1, .string (S [32])), (5, .int .i64 ((xs.length - 1 + sumL xs i : Nat) : Int)), (39, .slice p xs.length c), (40, .int .i64 xs.length), (41, .int .i64 (i : Nat))]) (fun _ => E) (fun _ => L)
    (fun i => i ≤ xs.length) (fun i => xs.length - i) 0 (Nat.zero_le _) ⟨rfl, rfl, rfl, rfl, rfl, rfl, trivial⟩ rfl rfl ?_
  rintro i hi
  have hsi := sumL_le h1 i hi
  by_cases hlt : i < xs.length
  · have h0 := strs_get (List.getElem?_eq_getElem hlt)
    have h5 := h1 i hlt
    refine G_seq (G_region ?_)
    refine Gv (V_lss rfl rfl rfl) ?_
    refine G_end (X_then (G_seq ?_))
    refine G_cond_t rfl (decide_eq_true (by omega)) ?_
    refine G_skip (X_then (G_seq (G_block (G_seq (G_region ?_)))))
    refine Gv (V_idxAddr rfl rfl rfl (SlE.rd (by assumption)) (by omega) (by omega)) ?_
    refine Gv (V_loadS rfl rfl (SlE.rd (by assumption)) (by assumption) (by simp)) ?_
    refine Ga ?_
    refine G_end (X_then (G_seq (G_seq (G_region ?_))))
    refine Gm ?_
    refine Gv (V_len rfl rfl) ?_
    refine Gm ?_
    refine Gv (V_sub_i64 rfl rfl rfl (by omega) (by omega)) ?_
    refine Gv (V_gtr rfl rfl rfl) ?_
    refine G_end (X_then ?_)
    refine G_cond_f rfl (decide_eq_false (by omega)) ?_
    refine G_skip (X_then (G_region ?_))
    refine Gm ?_
    refine Gm ?_
    refine Gv (V_len rfl rfl) ?_
    refine Gv (V_add_i64 rfl rfl rfl (by omega) (by omega)) ?_
    refine Ga ?_
    refine G_end (X_block (X_then (G_region ?_)))
    refine Gv (V_add_i64 rfl rfl rfl (by omega) (by omega)) ?_
    refine Gm ?_
    refine G_end (X_then ?_)
    rw [show ((xs.length - 1 + sumL xs i : Nat) : Int) + (xs[i].length : Nat) = ((xs.length - 1 + sumL xs (i + 1) : Nat) : Int) by rw [sumL_succ hlt]; omega]
    exact G_again (i + 1) hlt (by omega) ⟨rfl, rfl, rfl, rfl, rfl, rfl, trivial⟩ rfl rfl
  · obtain rfl : i = xs.length := by omega
    have h0 := strs_get (List.getElem?_eq_getElem (l := xs) (i := 0) (by omega))
    have h5 := h1 0 (by omega)
    have htl : SlE E 1 (tailAt p 1 c 1) (xs.length - 1) (strs (xs.drop 1)) := by
      have := hx.tail (l := 1) (c := c) (by omega) hc
      simpa [strs] using this
    refine G_seq (G_region ?_)
    refine Gv (V_lss rfl rfl rfl) ?_
    refine G_end (X_then (G_seq ?_))
    refine G_cond_f rfl (decide_eq_false (by omega)) ?_
    refine G_exit (X_then_exit (X_then_exit (X_block_hit (X_then (G_seq (G_region ?_))))))
    (refine G_alloc rfl rfl rfl (.none rfl) ?_; intro b8)
    refine G_end (X_then (G_seq (G_region ?_)))
    refine Gm ?_
    refine G.bldNew ?_
    refine G_call (k := 53) (.mk rfl rfl rfl rfl) rfl rfl (.none rfl) (Grow_call _ _ _ _ (by omega) (by omega)) ?_
    rintro r1 E2 L3 hE4 ⟨z5, ⟨rfl, ⟨rfl, ⟨Z6, ⟨Z7, rfl⟩⟩⟩⟩⟩
    replace hx := hx.mono hE4
    replace htl := htl.mono hE4
    refine G_end (X_then (G_seq (G_region ?_)))
    refine Gm ?_
    refine Gv (V_idxAddr rfl rfl rfl (SlE.rd (by assumption)) (by omega) (by omega)) ?_
    refine Gv (V_loadS rfl rfl (SlE.rd (by assumption)) (by assumption) (by simp)) ?_
    refine G_call (k := 54) (.mk rfl rfl rfl rfl) rfl rfl (.none rfl) (WriteString_call _ _ _ _ _ (by omega)) ?_
    rintro r8 E9 L10 hE11 ⟨z12, ⟨rfl, ⟨rfl, ⟨Z13, ⟨Z14, rfl⟩⟩⟩⟩⟩
    replace hx := hx.mono hE11
    replace htl := htl.mono hE11
    refine G_end (X_then (G_seq (G_seq (G_region ?_))))
    refine Gm ?_
    refine Gv (V_slTail1 rfl rfl rfl (by omega)) ?_
    refine Gv (V_lenS rfl rfl) ?_
    refine Gm ?_
    refine G_end (X_then (G_block ?_))
    have hs1 : jnS (xs.take (0 + 1)) = xs[0] := by
      rw [List.take_succ_eq_append_getElem (by omega)]; simp [jnS]
    rw [Z6, List.nil_append, ← hs1] at Z13
    rw [Z7] at Z14
    refine G_loop (α := Nat × Bld) (fun x => [(1, .string (S [32])), (8, .pointer (some ⟨b8, 0, none⟩)), (63, .slice (tailAt p 1 c 1) (xs.length - 1) (c - 1)), (64, .int .i64 (xs.length - 1 : Nat)), (65, .int .i64 (x.1 : Nat))]) (fun _ => E9)
      (fun x => .bld b8 x.2 :: L) (fun x => x.1 ≤ xs.length - 1 ∧ x.2.xs = jnS (xs.take (x.1 + 1)) ∧ x.2.xs.length ≤ 1001 * x.1 + 1000) (fun x => xs.length - x.1) (0, z12) ⟨Nat.zero_le _, Z13, by show z12.xs.length ≤ _; omega⟩ ⟨rfl, rfl, rfl, rfl, rfl, trivial⟩ rfl rfl ?_
    rintro ⟨j, t⟩ ⟨hj, ht, htl2⟩
    simp only at hj ht htl2 ⊢
    by_cases hltj : j < xs.length - 1
    · have hg : (strs (xs.drop 1))[j]? = some (.string (S (xs[1 + j]'(by omega)))) := strs_get (by rw [List.getElem?_drop, List.getElem?_eq_getElem (by omega)])
      have h6 := h1 (1 + j) (by omega)
      have hsn : jnS (xs.take (j + 1 + 1)) = (jnS (xs.take (j + 1)) ++ [32]) ++ xs[1 + j]'(by omega) := by
        rw [List.take_succ_eq_append_getElem (by omega), jnS_snoc _ _ (fun h => by have := congrArg List.length h; rw [List.length_take, List.length_nil] at this; omega)]
        congr 2
        omega
      have h32 : ([32] : List UInt8).length = 1 := rfl
      clear hx h0
      refine G_seq (G_region ?_)
      refine Gv (V_lss rfl rfl rfl) ?_
      refine G_end (X_then (G_seq ?_))
      refine G_cond_t rfl (decide_eq_true (by omega)) ?_
      refine G_skip (X_then (G_seq (G_block (G_seq (G_region ?_)))))
      refine Gv (V_idxAddr rfl rfl rfl (SlE.rd (by assumption)) (by omega) (by omega)) ?_
      refine Gv (V_loadS rfl rfl (SlE.rd (by assumption)) (by assumption) (by simp)) ?_
      refine Ga ?_
      refine G_end (X_then (G_seq (G_region ?_)))
      refine Gm ?_
      refine G_call (k := 54) (.mk rfl rfl rfl rfl) rfl rfl (.none rfl) (WriteString_call _ _ _ _ _ (by omega)) ?_
      rintro r1 E2 L3 hE5 ⟨z6, ⟨rfl, ⟨rfl, ⟨Z8, ⟨Z9, rfl⟩⟩⟩⟩⟩
      replace htl := htl.mono hE5
      refine G_end (X_then (G_region ?_))
      refine Gm ?_
      refine G_call (k := 54) (.mk rfl rfl rfl rfl) rfl rfl (.none rfl) (WriteString_call _ _ _ _ _ (by omega)) ?_
      rintro r10 E11 L12 hE13 ⟨z14, ⟨rfl, ⟨rfl, ⟨Z15, ⟨Z16, rfl⟩⟩⟩⟩⟩
      replace htl := htl.mono hE13
      refine G_end (X_block (X_then (G_region ?_)))
      refine Gv (V_add_i64 rfl rfl rfl (by omega) (by omega)) ?_
      refine Gm ?_
      refine G_end (X_then ?_)
      exact G_again (j + 1, z14) ⟨by show j + 1 ≤ _; omega, by show z14.xs = _; rw [Z15, Z8, ht, hsn], by show z14.xs.length ≤ 1001 * (j + 1) + 1000; omega⟩ (by show xs.length - (j + 1) < xs.length - j; omega) ⟨rfl, rfl, rfl, rfl, rfl, trivial⟩ rfl rfl
    · obtain rfl : j = xs.length - 1 := by omega
      rw [show xs.length - 1 + 1 = xs.length by omega, List.take_length] at ht
      rw [← ht]
      refine G_seq (G_region ?_)
      refine Gv (V_lss rfl rfl rfl) ?_
      refine G_end (X_then (G_seq ?_))
      refine G_cond_f rfl (decide_eq_false (by omega)) ?_
      refine G_exit (X_then_exit (X_then_exit (X_block_hit (X_then (G_seq (G_region ?_))))))
      refine G_call (k := 55) (.mk rfl rfl rfl rfl) rfl rfl (.none rfl) (BString_call _ _ _ _ (by omega)) ?_
      rintro r1 E2 L3 hE5 ⟨rfl, ⟨rfl, rfl⟩⟩
      replace hx := hx.mono hE5
      replace htl := htl.mono hE5
      refine Ga ?_
      refine G_end (X_then (G_ret ?_))
      refine G_leaveS (.nil _) (by exact (.cons (.tmp rfl) (.nil))) rfl ?_ ?_
      · exact (.refl _)
      exact ⟨rfl, rfl⟩
end
end Go.Proofs.YtaibabmladgldaaGreatDoor
set_option linter.unusedSimpArgs false
set_option linter.unusedVariables false
set_option maxHeartbeats 2000000
set_option maxRecDepth 20000
namespace Go.Proofs.YtaibabmladgldaaGreatDoor
open Go.RowKit
/-! stack.Text. -/
def dgb (x : Int) : UInt8 := UInt8.ofNat (48 + x.toNat)
/-- The digits of a number below 1,000. -/
def dec (x : Int) : List UInt8 := if x < 10 then [dgb x] else if x < 100 then [dgb (x / 10), dgb (x % 10)] else [dgb (x / 100), dgb (x / 10 % 10), dgb (x % 10)]
theorem dec_len (x : Int) : 1 ≤ (dec x).length ∧ (dec x).length ≤ 3 := by unfold dec; split; simp; split <;> simp
def spT (s : Spt) : List UInt8 := (dec s.1 ++ [58]) ++ dec s.2
theorem spT_len (s : Spt) : (spT s).length ≤ 7 := by
  have h1 := dec_len s.1
  have h2 := dec_len s.2
  simp only [spT, List.length_append, List.length_singleton]
  omega
abbrev badT (s : Spt) : Prop := min s.1 s.2 < 0 ∨ 999 < max s.1 s.2
def txtE : List Spt → Int
  | [] => 0
  | s :: l => if badT s then 2 else txtE l
def txtM (l : List Spt) : List UInt8 × Int := if 64 < l.length then ([], 21) else if txtE l ≠ 0 then ([], 2) else if l = [] then ([45], 0) else (jnS (l.map spT), 0)
theorem txtE_drop {l : List Spt} {k : Nat} {s : Spt} (h : l[k]? = some s) : txtE (l.drop k) = if badT s then 2 else txtE (l.drop (k + 1)) := by
  rw [List.drop_eq_getElem_cons (List.getElem?_eq_some_iff.1 h).1, (List.getElem?_eq_some_iff.1 h).2]
  rfl
section
variable (E : Env) (L : List Res)
/-- strconv.Itoa writes this number so. -/
def ItoaOk (E : Env) (x : Int) : Prop := ∀ L0, CallV Tryz.prog 39 #[.int .i64 x] E L0 (.string (S (dec x)))
theorem ItoaO_call (x : Int) (h : ItoaOk E x) : CallV Tryz.prog 39 #[.int .i64 x] E L (.string (S (dec x))) := h L
theorem SText_call (I : Int → Prop) (hI : ∀ (E0 : Env) (x : Int), E.Le E0 → I x → ItoaOk E0 x) (p : Option Addr) (n c : Nat) (l : List Spt) (hs : SlE E 2 p n (spC l)) (hn : n ≤ 9223372036854775807)
    (hi : ∀ s, s ∈ l → ¬ badT s → I s.1 ∧ I s.2) : CallS Tryz.prog 26 #[.slice p n c] E L (fun r E' L' => r = .tuple #[.string (S (txtM l).1), .int .i64 (txtM l).2] ∧ L' = L) := by
  have en := hs.nSp
  subst en
  unfold txtM
  by_cases h64 : 64 < l.length
  · rw [if_pos h64]
    refine CallS.intro (l := [_]) _ Tryz.func26 rfl Tryz.ntmps26 rfl ?_
    refine G_seq (G_region ?_)
    (refine G_alloc rfl rfl rfl (.none rfl) ?_; intro b2)
    (refine G_alloc rfl rfl rfl (.none rfl) ?_; intro b3)
    refine G_end (X_then (G_seq (G_seq (G_region ?_))))
    refine Gm ?_
    refine Gv (V_lenS rfl rfl) ?_
    refine Gv (V_gtr rfl rfl rfl) ?_
    refine G_end (X_then ?_)
    refine G_cond_t rfl (decide_eq_true (by omega)) ?_
    refine G_seq (G_region ?_)
    refine G_store1 rfl rfl rfl rfl rfl rfl (.none rfl) (.tail _ (.head _ _ _)) ?_
    refine G_store1 rfl rfl rfl rfl rfl rfl (.none rfl) (.head _ _ _) ?_
    refine G_end (X_then (G_ret (X_then_ret ?_)))
    refine G_leaveS (.drop _ (.drop _ (.nil _))) (by exact (.cons (.cell1 rfl (Cell.own1 (.tail _ (.head _)))) (.cons (.cell1 rfl (Cell.own1 (.head _))) (.nil)))) rfl ?_ ?_
    · exact (.refl _)
    exact ⟨(by kernel_rfl), rfl⟩
  rw [if_neg h64]
  refine CallS.intro (l := [_]) _ Tryz.func26 rfl Tryz.ntmps26 rfl ?_
  refine G_seq (G_region ?_)
  (refine G_alloc rfl rfl rfl (.none rfl) ?_; intro b2)
  (refine G_alloc rfl rfl rfl (.none rfl) ?_; intro b3)
  refine G_end (X_then (G_seq (G_seq (G_region ?_))))
  refine Gm ?_
  refine Gv (V_lenS rfl rfl) ?_
  refine Gv (V_gtr rfl rfl rfl) ?_
  refine G_end (X_then ?_)
  refine G_cond_f rfl (decide_eq_false (by omega)) ?_
  refine G_skip (X_then (G_seq (G_region ?_)))
  (refine G_alloc rfl rfl rfl (.none rfl) ?_; intro b4)
  refine G_end (X_then (G_seq (G_seq (G_region ?_))))
  refine Gm ?_
  refine G_call (k := 35) (.mk rfl rfl rfl rfl) rfl rfl (.none rfl) (spots_call _ _ _ _ _) ?_
  rintro r1 E2 L3 hE4 ⟨z5, ⟨rfl, ⟨rfl, rfl⟩⟩⟩
  replace hs := hs.mono hE4
  refine G_end (X_then (G_block ?_))
  refine G.nilSl 9 1 ?_
  refine G.front (.tail _ (.head _ _)) ?_
  refine G_rangeI (σ := Env × Option Addr × Nat × List (List UInt8) × Int) (enc := spEnc) rfl (iter_spots E z5 p _ c l hs (by omega)) (fun v => v.1)
    (fun v => .sl 9 1 v.2.1 v.2.2.2.1.length v.2.2.1 (strs v.2.2.2.1) :: .blk b4 (.cells #[.slice v.2.1 v.2.2.2.1.length v.2.2.1] 30 (0, 0)) :: .blk b3 (.cells #[.int .i64 v.2.2.2.2] 24 (0, 0)) :: .blk b2 (.cells #[.string (S [])] 9 (0, 0)) :: L)
    (fun pre v => v.2.2.2.2 = 0 ∧ v.2.2.2.1 = pre.map (fun x => spT x.1) ∧ txtE l = txtE (l.drop pre.length)) (fun q pre v => q = .ret ∧ v.2.2.2.2 = 2 ∧ txtE l = 2) (E, none, 0, [], 0) ⟨rfl, rfl, rfl⟩ rfl (.refl _) rfl (fun _ => rfl) ?_ ?_ ?_
  · rintro y D tm fn M pre ⟨⟨sp, sd⟩, j⟩ ⟨E1, a, ca, ts, e⟩ hpre ⟨rfl, hts, hst⟩ hE
    obtain ⟨hx, hj, hlt⟩ := zip_pre hpre
    simp only at hx hj hst hts hE
    rw [txtE_drop hx] at hst
    simp only [List.cons_append]
    dsimp only [spEnc]
    by_cases hb1 : min sp sd < 0
    · rw [if_pos (by simp only [badT]; omega)] at hst
      refine G_region ?_
      (refine G_alloc rfl rfl rfl (.none rfl) ?_; intro b6)
      refine G_storeA rfl rfl rfl rfl (by simp [Value.oneCell']) rfl (.none rfl) (.head _ _ _) rfl ?_
      refine G_end (X_then ?_)
      refine G_begin (.tail _ (.head _ _ _)) ?_
      refine G_block (G_seq (G_seq (G_region ?_)))
      refine Gv (V_fieldAddr rfl rfl (by decide)) ?_
      refine Gv (V_load rfl rfl (Cell.own (.head _) rfl)) ?_
      refine Gv (V_fieldAddr rfl rfl (by decide)) ?_
      refine Gv (V_load rfl rfl (Cell.own (.head _) rfl)) ?_
      refine Gv (V_min rfl rfl rfl) ?_
      refine Gv (V_lss rfl rfl rfl) ?_
      refine Gm ?_
      refine G.bool_t 20 rfl (decide_eq_true (by omega)) ?_
      refine Gn ?_
      refine Gn ?_
      refine Gn ?_
      refine Gn ?_
      refine Gn ?_
      refine Gn ?_
      refine Gv (V_pick_t rfl rfl rfl) ?_
      refine G_end (X_then ?_)
      refine G_cond_t rfl rfl ?_
      refine G_seq (G_region ?_)
      refine G_store1 rfl rfl rfl rfl rfl rfl (.none rfl) (.tail _ (.tail _ (.tail _ (.tail _ (.tail _ (.tail _ (.head _ _ _))))))) ?_
      refine G_store1 rfl rfl rfl rfl rfl rfl (.none rfl) (.tail _ (.tail _ (.tail _ (.tail _ (.tail _ (.head _ _ _)))))) ?_
      refine G_end (X_then (G_ret (X_then_ret (X_block_ret ?_))))
      refine G.drop ?_
      exact G_rRet (E1, a, ca, ts, 2) ⟨rfl, rfl, hst⟩ rfl (.refl _) rfl
    by_cases hb2 : 999 < max sp sd
    · rw [if_pos (by simp only [badT]; omega)] at hst
      refine G_region ?_
      (refine G_alloc rfl rfl rfl (.none rfl) ?_; intro b6)
      refine G_storeA rfl rfl rfl rfl (by simp [Value.oneCell']) rfl (.none rfl) (.head _ _ _) rfl ?_
      refine G_end (X_then ?_)
      refine G_begin (.tail _ (.head _ _ _)) ?_
      refine G_block (G_seq (G_seq (G_region ?_)))
      refine Gv (V_fieldAddr rfl rfl (by decide)) ?_
      refine Gv (V_load rfl rfl (Cell.own (.head _) rfl)) ?_
      refine Gv (V_fieldAddr rfl rfl (by decide)) ?_
      refine Gv (V_load rfl rfl (Cell.own (.head _) rfl)) ?_
      refine Gv (V_min rfl rfl rfl) ?_
      refine Gv (V_lss rfl rfl rfl) ?_
      refine Gm ?_
      refine G.bool_f 20 rfl (decide_eq_false (by omega)) ?_
      refine Gy (V_fieldAddr rfl rfl (by decide)) ?_
      refine Gy (V_load rfl rfl (Cell.own (.head _) rfl)) ?_
      refine Gy (V_fieldAddr rfl rfl (by decide)) ?_
      refine Gy (V_load rfl rfl (Cell.own (.head _) rfl)) ?_
      refine Gy (V_max rfl rfl rfl) ?_
      refine Gy (V_gtr rfl rfl rfl) ?_
      refine Gv (V_pick_f rfl rfl rfl) ?_
      refine G_end (X_then ?_)
      refine G_cond_t rfl (decide_eq_true (by omega)) ?_
      refine G_seq (G_region ?_)
      refine G_store1 rfl rfl rfl rfl rfl rfl (.none rfl) (.tail _ (.tail _ (.tail _ (.tail _ (.tail _ (.tail _ (.head _ _ _))))))) ?_
      refine G_store1 rfl rfl rfl rfl rfl rfl (.none rfl) (.tail _ (.tail _ (.tail _ (.tail _ (.tail _ (.head _ _ _)))))) ?_
      refine G_end (X_then (G_ret (X_then_ret (X_block_ret ?_))))
      refine G.drop ?_
      exact G_rRet (E1, a, ca, ts, 2) ⟨rfl, rfl, hst⟩ rfl (.refl _) rfl
    have hb : ¬ badT (sp, sd) := by simp only [badT]; omega
    rw [if_neg hb] at hst
    obtain ⟨i1, i2⟩ := hi (sp, sd) (List.mem_of_getElem? hx) hb
    have h1 := hI E1 sp hE i1
    have h2 := hI E1 sd hE i2
    have l1 := dec_len sp
    have l2 := dec_len sd
    have htl : ts.length = pre.length := by rw [hts, List.length_map]
    -- the region's end would let go what stands behind an append
    obtain ⟨LM, hLM⟩ : ∃ X, L ++ M = X := ⟨_, rfl⟩
    rw [hLM]
    refine G_region ?_
    (refine G_alloc rfl rfl rfl (.none rfl) ?_; intro b6)
    refine G_storeA rfl rfl rfl rfl (by simp [Value.oneCell']) rfl (.none rfl) (.head _ _ _) rfl ?_
    refine G_end (X_then ?_)
    refine G_begin (.tail _ (.head _ _ _)) ?_
    refine G_block (G_seq (G_seq (G_region ?_)))
    refine Gv (V_fieldAddr rfl rfl (by decide)) ?_
    refine Gv (V_load rfl rfl (Cell.own (.head _) rfl)) ?_
    refine Gv (V_fieldAddr rfl rfl (by decide)) ?_
    refine Gv (V_load rfl rfl (Cell.own (.head _) rfl)) ?_
    refine Gv (V_min rfl rfl rfl) ?_
    refine Gv (V_lss rfl rfl rfl) ?_
    refine Gm ?_
    refine G.bool_f 20 rfl (decide_eq_false (by omega)) ?_
    refine Gy (V_fieldAddr rfl rfl (by decide)) ?_
    refine Gy (V_load rfl rfl (Cell.own (.head _) rfl)) ?_
    refine Gy (V_fieldAddr rfl rfl (by decide)) ?_
    refine Gy (V_load rfl rfl (Cell.own (.head _) rfl)) ?_
    refine Gy (V_max rfl rfl rfl) ?_
    refine Gy (V_gtr rfl rfl rfl) ?_
    refine Gv (V_pick_f rfl rfl rfl) ?_
    refine G_end (X_then ?_)
    refine G_cond_f rfl (decide_eq_false (by omega)) ?_
    refine G_skip (X_then ?_)
    refine G_drawX 12 [(0, 1), (1, 0), (2, 1), (5, 0), (6, 1), (3, 3), (4, 0), (7, 3), (8, 0), (9, 2), (10, 4), (11, 4)] mixed (by kernel_rfl) ?_
    refine F_load rfl (.tail _ (.tail _ (.tail _ (.tail _ (.head _))))) (V_load rfl rfl (Cell.own1 (.head _))) rfl rfl (.none rfl) ?_
    refine F_pure rfl (fun _ _ => V_fieldAddr rfl rfl (by decide)) rfl rfl (.none rfl) ?_
    refine F_load rfl (.head _) (V_load rfl rfl (Cell.own (.head _) rfl)) rfl rfl (.none rfl) ?_
    refine F_pure rfl (fun _ _ => V_fieldAddr rfl rfl (by decide)) rfl rfl (.none rfl) ?_
    refine F_load rfl (.head _) (V_load rfl rfl (Cell.own (.head _) rfl)) rfl rfl (.none rfl) ?_
    refine F_callv (k := 39) rfl (.mk rfl rfl rfl rfl) rfl rfl (.none rfl) (fun _ => ItoaO_call _ _ _ (by assumption)) ?_
    refine F_pure rfl (fun _ _ => V_cat rfl rfl rfl (by simp; omega)) rfl rfl (.none rfl) ?_
    refine F_callv (k := 39) rfl (.mk rfl rfl rfl rfl) rfl rfl (.none rfl) (fun _ => ItoaO_call _ _ _ (by assumption)) ?_
    refine F_pure rfl (fun _ _ => V_cat rfl rfl rfl (by simp; omega)) rfl rfl (.none rfl) ?_
    (refine F_litZ rfl rfl rfl (by decide) (by simp [fillS, zeros, setLs, setL, Value.cells, List.range, List.range.loop]; rfl) (by rfl) rfl rfl (.none rfl) ?_; intro b37 E37 hE37 hs37)
    (refine F_appendT rfl rfl rfl rfl (by assumption) (by simp [Value.oneCell', strs, i64s]) (by omega) (by omega) rfl rfl (.none rfl) (fun _ _ => (.tail _ (.tail _ (.tail _ (.head _ _ _))))) ?_; intro a38 c38; refine ⟨_, (.drop (by kernel_rfl) (.drop (by kernel_rfl) (.drop (by kernel_rfl) (.nil)))), ?_⟩)
    refine F_store1 rfl rfl rfl rfl rfl rfl rfl (.none rfl) (.tail _ (.tail _ (.tail _ (.tail _ (.head _ _ _))))) (.nil) ?_
    (refine F_end (.nil _) ?_; dsimp only [List.drop])
    refine G_end (X_block ?_)
    refine G.drop ?_
    rw [← hLM]
    have zl : (ts ++ [spT (sp, sd)]).length = ts.length + 1 := by simp
    have zs : strs ts ++ [Value.string (S (dec sp ++ 58 :: dec sd))] = strs (ts ++ [spT (sp, sd)]) := by simp [strs, spT]
    rw [zs, ← zl]
    exact G_rEnd (E37, a38, c38, ts ++ [spT (sp, sd)], 0) ⟨rfl, by simp only [hts, List.map_append, List.map_cons, List.map_nil], by simp only [List.length_append, List.length_singleton]; exact hst⟩ rfl hE37 rfl
  · rintro D ⟨E1, a, ca, ts, e⟩ ⟨rfl, hts, hst⟩ hE
    rw [List.length_zipIdx, List.drop_length] at hst
    simp only at hts hE ⊢
    have hts2 : ts = l.map spT := by rw [hts]; apply List.ext_getElem <;> simp
    have htl : ts.length = l.length := by rw [hts2, List.length_map]
    rw [if_neg (by rw [hst]; simp [txtE])]
    by_cases hl0 : l = []
    · have hl1 : ts.length = 0 := by rw [htl, hl0]; rfl
      rw [if_pos hl0]
      refine X_block (X_then (G_seq (G_seq (G_region ?_))))
      refine Gv (V_load rfl rfl (Cell.own1 (.tail _ (.tail _ (.head _))))) ?_
      refine Gv (V_lenS rfl rfl) ?_
      refine Gv (V_eql rfl rfl rfl) ?_
      refine G_end (X_then ?_)
      refine G_cond_t rfl (decide_eq_true (by omega)) ?_
      refine G_seq (G_region ?_)
      refine G_store1 rfl rfl rfl rfl rfl rfl (.none rfl) (.tail _ (.tail _ (.tail _ (.tail _ (.head _ _ _))))) ?_
      refine G_store1 rfl rfl rfl rfl rfl rfl (.none rfl) (.tail _ (.tail _ (.tail _ (.head _ _ _)))) ?_
      refine G_end (X_then (G_ret (X_then_ret ?_)))
      refine G_leave_ms [D] ?_
      refine G_leaveS (.drop _ (.drop _ (.drop _ (.drop _ (.nil _))))) (by exact (.cons (.cell1 rfl (Cell.own1 (.tail _ (.tail _ (.tail _ (.head _)))))) (.cons (.cell1 rfl (Cell.own1 (.tail _ (.tail _ (.head _))))) (.nil)))) rfl ?_ ?_
      · exact hE
      exact ⟨(by kernel_rfl), rfl⟩
    · rw [if_neg hl0, ← hts2]
      have hlp : 0 < ts.length := by rw [htl]; exact List.length_pos_iff.2 hl0
      refine G.freezeSl (.tail _ (.head _ _)) ?_
      intro E2 hE2 hts3 hca
      have h7 : ∀ i (h : i < ts.length), ts[i].length ≤ 1000 := fun i h => by
        simp only [hts2, List.getElem_map]; have := spT_len (l[i]'(by omega)); omega
      by_cases hl1 : ts.length = 1
      · obtain ⟨x, rfl⟩ := List.length_eq_one_iff.1 hl1
        have hj1 : jnS [x] = x := by simp [jnS]
        rw [hj1]
        refine X_block (X_then (G_seq (G_seq (G_region ?_))))
        refine Gv (V_load rfl rfl (Cell.own1 (.tail _ (.head _)))) ?_
        refine Gv (V_lenS rfl rfl) ?_
        refine Gv (V_eql rfl rfl rfl) ?_
        refine G_end (X_then ?_)
        refine G_cond_f rfl (decide_eq_false (by omega)) ?_
        refine G_skip (X_then (G_seq (G_region ?_)))
        refine Gv (V_load rfl rfl (Cell.own1 (.tail _ (.head _)))) ?_
        refine G_callv (k := 40) (.mk rfl rfl rfl rfl) rfl rfl (.none rfl) (Join1_call _ _ a ca x hts3) ?_
        refine G_store1 rfl rfl rfl rfl rfl rfl (.none rfl) (.tail _ (.tail _ (.tail _ (.head _ _ _)))) ?_
        refine G_store1 rfl rfl rfl rfl rfl rfl (.none rfl) (.tail _ (.tail _ (.head _ _ _))) ?_
        refine G_end (X_then (G_ret ?_))
        refine G_leave_ms [D] ?_
        refine G_leaveS (.drop _ (.drop _ (.drop _ (.nil _)))) (by exact (.cons (.cell1 rfl (Cell.own1 (.tail _ (.tail _ (.head _))))) (.cons (.cell1 rfl (Cell.own1 (.tail _ (.head _)))) (.nil)))) rfl ?_ ?_
        · exact (hE.trans hE2)
        exact ⟨rfl, rfl⟩
      · refine X_block ?_
        refine X_then (G_seq (G_seq (G_region ?_)))
        refine Gv (V_load rfl rfl (Cell.own1 (.tail _ (.head _)))) ?_
        refine Gv (V_lenS rfl rfl) ?_
        refine Gv (V_eql rfl rfl rfl) ?_
        refine G_end (X_then ?_)
        refine G_cond_f rfl (decide_eq_false (by omega)) ?_
        refine G_skip (X_then (G_seq (G_region ?_)))
        refine Gv (V_load rfl rfl (Cell.own1 (.tail _ (.head _)))) ?_
        refine G_callv (k := 40) (.mk rfl rfl rfl rfl) rfl rfl (.none rfl) (JoinN_call _ _ a _ ca ts hts3 hca (by omega) (by omega) h7) ?_
        refine G_store1 rfl rfl rfl rfl rfl rfl (.none rfl) (.tail _ (.tail _ (.tail _ (.head _ _ _)))) ?_
        refine G_store1 rfl rfl rfl rfl rfl rfl (.none rfl) (.tail _ (.tail _ (.head _ _ _))) ?_
        refine G_end (X_then (G_ret ?_))
        refine G_leave_ms [D] ?_
        refine G_leaveS (.drop _ (.drop _ (.drop _ (.nil _)))) (by exact (.cons (.cell1 rfl (Cell.own1 (.tail _ (.tail _ (.head _))))) (.cons (.cell1 rfl (Cell.own1 (.tail _ (.head _)))) (.nil)))) rfl ?_ ?_
        · exact (hE.trans hE2)
        exact ⟨rfl, rfl⟩
  · rintro D q pre ⟨E1, a, ca, ts, e⟩ hpre ⟨rfl, rfl, hst⟩ hE
    simp only at hE ⊢
    refine G_ret (X_block_ret (X_then_ret ?_))
    refine G_leave_ms [D] ?_
    rw [if_pos (by omega)]
    refine G_leaveS (.drop _ (.drop _ (.drop _ (.drop _ (.nil _))))) (by exact (.cons (.cell1 rfl (Cell.own1 (.tail _ (.tail _ (.tail _ (.head _)))))) (.cons (.cell1 rfl (Cell.own1 (.tail _ (.tail _ (.head _))))) (.nil)))) rfl ?_ ?_
    · exact hE
    exact ⟨(by kernel_rfl), rfl⟩
end
end Go.Proofs.YtaibabmladgldaaGreatDoor
set_option linter.unusedSimpArgs false
set_option linter.unusedVariables false
set_option maxHeartbeats 2000000
set_option maxRecDepth 20000
namespace Go.Proofs.YtaibabmladgldaaGreatDoor
open Go.RowKit
/-! strconv.Itoa of numbers below 10. -/
theorem dec1 (x : Int) (h : 0 ≤ x ∧ x < 10) : dec x = [dgb x] := if_pos h.2
section
variable (E : Env) (L : List Res)
theorem small1_call (x : Int) (h : 0 ≤ x ∧ x < 10) : CallV Tryz.prog 88 #[.int .i64 x] E L (.string (S [dgb x])) := by
  refine CallS.toV (CallS.intro (l := [_]) _ Tryz.func88 rfl Tryz.ntmps88 rfl ?_)
  have : x = 0 ∨ x = 1 ∨ x = 2 ∨ x = 3 ∨ x = 4 ∨ x = 5 ∨ x = 6 ∨ x = 7 ∨ x = 8 ∨ x = 9 := by omega
  rcases this with rfl | rfl | rfl | rfl | rfl | rfl | rfl | rfl | rfl | rfl
  · refine G_seq ?_
    refine G_region ?_
    refine Ga ?_
    refine G_end (X_then (G_seq (G_seq (G_region ?_))))
    refine Gm ?_
    refine Gv (V_lss rfl rfl rfl) ?_
    refine G_end (X_then ?_)
    refine G_cond_t rfl (by kernel_rfl) ?_
    refine G_seq (G_region ?_)
    refine Gm ?_
    refine Gm ?_
    refine Gv (V_add_i64 rfl rfl rfl (by omega) (by omega)) ?_
    refine Gv (V_cut rfl rfl rfl rfl (by omega) (by omega) (by simp only [List.length_cons, List.length_nil]; omega)) ?_
    refine Ga ?_
    refine G_end (X_then (G_ret (X_then_ret ?_)))
    refine G_leaveS (.nil _) (by exact (.cons (.tmp rfl) (.nil))) rfl ?_ ?_
    · exact (.refl _)
    exact ⟨(by kernel_rfl), rfl⟩
  · refine G_seq ?_
    refine G_region ?_
    refine Ga ?_
    refine G_end (X_then (G_seq (G_seq (G_region ?_))))
    refine Gm ?_
    refine Gv (V_lss rfl rfl rfl) ?_
    refine G_end (X_then ?_)
    refine G_cond_t rfl (by kernel_rfl) ?_
    refine G_seq (G_region ?_)
    refine Gm ?_
    refine Gm ?_
    refine Gv (V_add_i64 rfl rfl rfl (by omega) (by omega)) ?_
    refine Gv (V_cut rfl rfl rfl rfl (by omega) (by omega) (by simp only [List.length_cons, List.length_nil]; omega)) ?_
    refine Ga ?_
    refine G_end (X_then (G_ret (X_then_ret ?_)))
    refine G_leaveS (.nil _) (by exact (.cons (.tmp rfl) (.nil))) rfl ?_ ?_
    · exact (.refl _)
    exact ⟨(by kernel_rfl), rfl⟩
  · refine G_seq ?_
    refine G_region ?_
    refine Ga ?_
    refine G_end (X_then (G_seq (G_seq (G_region ?_))))
    refine Gm ?_
    refine Gv (V_lss rfl rfl rfl) ?_
    refine G_end (X_then ?_)
    refine G_cond_t rfl (by kernel_rfl) ?_
    refine G_seq (G_region ?_)
    refine Gm ?_
    refine Gm ?_
    refine Gv (V_add_i64 rfl rfl rfl (by omega) (by omega)) ?_
    refine Gv (V_cut rfl rfl rfl rfl (by omega) (by omega) (by simp only [List.length_cons, List.length_nil]; omega)) ?_
    refine Ga ?_
    refine G_end (X_then (G_ret (X_then_ret ?_)))
    refine G_leaveS (.nil _) (by exact (.cons (.tmp rfl) (.nil))) rfl ?_ ?_
    · exact (.refl _)
    exact ⟨(by kernel_rfl), rfl⟩
  · refine G_seq ?_
    refine G_region ?_
    refine Ga ?_
    refine G_end (X_then (G_seq (G_seq (G_region ?_))))
    refine Gm ?_
    refine Gv (V_lss rfl rfl rfl) ?_
    refine G_end (X_then ?_)
    refine G_cond_t rfl (by kernel_rfl) ?_
    refine G_seq (G_region ?_)
    refine Gm ?_
    refine Gm ?_
    refine Gv (V_add_i64 rfl rfl rfl (by omega) (by omega)) ?_
    refine Gv (V_cut rfl rfl rfl rfl (by omega) (by omega) (by simp only [List.length_cons, List.length_nil]; omega)) ?_
    refine Ga ?_
    refine G_end (X_then (G_ret (X_then_ret ?_)))
    refine G_leaveS (.nil _) (by exact (.cons (.tmp rfl) (.nil))) rfl ?_ ?_
    · exact (.refl _)
    exact ⟨(by kernel_rfl), rfl⟩
  · refine G_seq ?_
    refine G_region ?_
    refine Ga ?_
    refine G_end (X_then (G_seq (G_seq (G_region ?_))))
    refine Gm ?_
    refine Gv (V_lss rfl rfl rfl) ?_
    refine G_end (X_then ?_)
    refine G_cond_t rfl (by kernel_rfl) ?_
    refine G_seq (G_region ?_)
    refine Gm ?_
    refine Gm ?_
    refine Gv (V_add_i64 rfl rfl rfl (by omega) (by omega)) ?_
    refine Gv (V_cut rfl rfl rfl rfl (by omega) (by omega) (by simp only [List.length_cons, List.length_nil]; omega)) ?_
    refine Ga ?_
    refine G_end (X_then (G_ret (X_then_ret ?_)))
    refine G_leaveS (.nil _) (by exact (.cons (.tmp rfl) (.nil))) rfl ?_ ?_
    · exact (.refl _)
    exact ⟨(by kernel_rfl), rfl⟩
  · refine G_seq ?_
    refine G_region ?_
    refine Ga ?_
    refine G_end (X_then (G_seq (G_seq (G_region ?_))))
    refine Gm ?_
    refine Gv (V_lss rfl rfl rfl) ?_
    refine G_end (X_then ?_)
    refine G_cond_t rfl (by kernel_rfl) ?_
    refine G_seq (G_region ?_)
    refine Gm ?_
    refine Gm ?_
    refine Gv (V_add_i64 rfl rfl rfl (by omega) (by omega)) ?_
    refine Gv (V_cut rfl rfl rfl rfl (by omega) (by omega) (by simp only [List.length_cons, List.length_nil]; omega)) ?_
    refine Ga ?_
    refine G_end (X_then (G_ret (X_then_ret ?_)))
    refine G_leaveS (.nil _) (by exact (.cons (.tmp rfl) (.nil))) rfl ?_ ?_
    · exact (.refl _)
    exact ⟨(by kernel_rfl), rfl⟩
  · refine G_seq ?_
    refine G_region ?_
    refine Ga ?_
    refine G_end (X_then (G_seq (G_seq (G_region ?_))))
    refine Gm ?_
    refine Gv (V_lss rfl rfl rfl) ?_
    refine G_end (X_then ?_)
    refine G_cond_t rfl (by kernel_rfl) ?_
    refine G_seq (G_region ?_)
    refine Gm ?_
    refine Gm ?_
    refine Gv (V_add_i64 rfl rfl rfl (by omega) (by omega)) ?_
    refine Gv (V_cut rfl rfl rfl rfl (by omega) (by omega) (by simp only [List.length_cons, List.length_nil]; omega)) ?_
    refine Ga ?_
    refine G_end (X_then (G_ret (X_then_ret ?_)))
    refine G_leaveS (.nil _) (by exact (.cons (.tmp rfl) (.nil))) rfl ?_ ?_
    · exact (.refl _)
    exact ⟨(by kernel_rfl), rfl⟩
  · refine G_seq ?_
    refine G_region ?_
    refine Ga ?_
    refine G_end (X_then (G_seq (G_seq (G_region ?_))))
    refine Gm ?_
    refine Gv (V_lss rfl rfl rfl) ?_
    refine G_end (X_then ?_)
    refine G_cond_t rfl (by kernel_rfl) ?_
    refine G_seq (G_region ?_)
    refine Gm ?_
    refine Gm ?_
    refine Gv (V_add_i64 rfl rfl rfl (by omega) (by omega)) ?_
    refine Gv (V_cut rfl rfl rfl rfl (by omega) (by omega) (by simp only [List.length_cons, List.length_nil]; omega)) ?_
    refine Ga ?_
    refine G_end (X_then (G_ret (X_then_ret ?_)))
    refine G_leaveS (.nil _) (by exact (.cons (.tmp rfl) (.nil))) rfl ?_ ?_
    · exact (.refl _)
    exact ⟨(by kernel_rfl), rfl⟩
  · refine G_seq ?_
    refine G_region ?_
    refine Ga ?_
    refine G_end (X_then (G_seq (G_seq (G_region ?_))))
    refine Gm ?_
    refine Gv (V_lss rfl rfl rfl) ?_
    refine G_end (X_then ?_)
    refine G_cond_t rfl (by kernel_rfl) ?_
    refine G_seq (G_region ?_)
    refine Gm ?_
    refine Gm ?_
    refine Gv (V_add_i64 rfl rfl rfl (by omega) (by omega)) ?_
    refine Gv (V_cut rfl rfl rfl rfl (by omega) (by omega) (by simp only [List.length_cons, List.length_nil]; omega)) ?_
    refine Ga ?_
    refine G_end (X_then (G_ret (X_then_ret ?_)))
    refine G_leaveS (.nil _) (by exact (.cons (.tmp rfl) (.nil))) rfl ?_ ?_
    · exact (.refl _)
    exact ⟨(by kernel_rfl), rfl⟩
  · refine G_seq ?_
    refine G_region ?_
    refine Ga ?_
    refine G_end (X_then (G_seq (G_seq (G_region ?_))))
    refine Gm ?_
    refine Gv (V_lss rfl rfl rfl) ?_
    refine G_end (X_then ?_)
    refine G_cond_t rfl (by kernel_rfl) ?_
    refine G_seq (G_region ?_)
    refine Gm ?_
    refine Gm ?_
    refine Gv (V_add_i64 rfl rfl rfl (by omega) (by omega)) ?_
    refine Gv (V_cut rfl rfl rfl rfl (by omega) (by omega) (by simp only [List.length_cons, List.length_nil]; omega)) ?_
    refine Ga ?_
    refine G_end (X_then (G_ret (X_then_ret ?_)))
    refine G_leaveS (.nil _) (by exact (.cons (.tmp rfl) (.nil))) rfl ?_ ?_
    · exact (.refl _)
    exact ⟨(by kernel_rfl), rfl⟩
theorem FormatInt1_call (x : Int) (h : 0 ≤ x ∧ x < 10) : CallV Tryz.prog 71 #[.int .i64 x, .int .i64 10] E L (.string (S [dgb x])) := by
  refine CallS.toV (CallS.intro (l := [_, _]) _ Tryz.func71 rfl Tryz.ntmps71 rfl ?_)
  refine G_seq (G_region ?_)
  refine Ga ?_
  refine G_end (X_then (G_seq (G_seq (G_region ?_))))
  refine Gm ?_
  refine Gv (V_eql rfl rfl rfl) ?_
  refine G_end (X_then ?_)
  refine G_cond_t rfl (by kernel_rfl) ?_
  refine G_seq (G_seq (G_region ?_))
  refine Gm ?_
  refine Gv (V_leq rfl rfl rfl) ?_
  refine Gm ?_
  refine G.bool_t 14 rfl (decide_eq_true (by omega)) ?_
  refine Gy (V_move rfl rfl) ?_
  refine Gy (V_lss rfl rfl rfl) ?_
  refine Gv (V_pick_t rfl rfl rfl) ?_
  refine G_end (X_then ?_)
  refine G_cond_t rfl (decide_eq_true (by omega)) ?_
  refine G_seq (G_region ?_)
  refine Gm ?_
  refine G_callv (k := 88) (.mk rfl rfl rfl rfl) rfl rfl (.none rfl) (small1_call _ _ _ (by assumption)) ?_
  refine Ga ?_
  refine G_end (X_then (G_ret (X_then_ret (X_then_ret ?_))))
  refine G_leaveS (.nil _) (by exact (.cons (.tmp rfl) (.nil))) rfl ?_ ?_
  · exact (.refl _)
  exact ⟨rfl, rfl⟩
theorem IItoa1_call (x : Int) (h : 0 ≤ x ∧ x < 10) : CallV Tryz.prog 52 #[.int .i64 x] E L (.string (S [dgb x])) := by
  refine CallS.toV (CallS.intro (l := [_]) _ Tryz.func52 rfl Tryz.ntmps52 rfl ?_)
  refine G_seq (G_region ?_)
  refine Ga ?_
  refine G_end (X_then (G_seq (G_region ?_)))
  refine Gm ?_
  refine G_callv (k := 71) (.mk rfl rfl rfl rfl) rfl rfl (.none rfl) (FormatInt1_call _ _ _ (by assumption)) ?_
  refine Ga ?_
  refine G_end (X_then (G_ret ?_))
  refine G_leaveS (.nil _) (by exact (.cons (.tmp rfl) (.nil))) rfl ?_ ?_
  · exact (.refl _)
  exact ⟨rfl, rfl⟩
theorem Itoa1_call (x : Int) (h : 0 ≤ x ∧ x < 10) : CallV Tryz.prog 39 #[.int .i64 x] E L (.string (S (dec x))) := by
  rw [dec1 x h]
  refine CallS.toV (CallS.intro (l := [_]) _ Tryz.func39 rfl Tryz.ntmps39 rfl ?_)
  refine G_seq (G_region ?_)
  refine Ga ?_
  refine G_end (X_then (G_seq (G_region ?_)))
  refine Gm ?_
  refine G_callv (k := 52) (.mk rfl rfl rfl rfl) rfl rfl (.none rfl) (IItoa1_call _ _ _ (by assumption)) ?_
  refine Ga ?_
  refine G_end (X_then (G_ret ?_))
  refine G_leaveS (.nil _) (by exact (.cons (.tmp rfl) (.nil))) rfl ?_ ?_
  · exact (.refl _)
  exact ⟨rfl, rfl⟩
end
end Go.Proofs.YtaibabmladgldaaGreatDoor
