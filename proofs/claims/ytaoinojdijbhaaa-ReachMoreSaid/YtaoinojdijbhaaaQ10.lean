/-
  Rules and contracts, packed: D34.
-/
import Derived.Test.YtaoinojdijbhaaaQ9
set_option maxHeartbeats 1000000
set_option linter.unusedSimpArgs false
set_option linter.unusedVariables false
set_option maxHeartbeats 2000000
set_option maxRecDepth 20000
namespace Go.Proofs.Ytaoinojdijbhaaa
open Go.RowKit
theorem bget_at' {l : List Bool} {i : Nat} (h : i < l.length) : (bools l)[i]? = some (.bool (bget l (16 + (i : Int)))) := by
  have e : (16 + (i : Int) - 16).toNat = i := by omega
  simp [bools, bget, e, h]
theorem enc_at' {f : Tab} {o : Int} {i : Nat} (h : i < f.length) : (i64s (f.map (encR o)))[i]? = some (.int .i64 (encR o (tget f (16 + (i : Int))))) := by
  have := enc_at (f := f) (o := o) (s := 16 + (i : Int)) (by omega) (by omega)
  rwa [show (16 + (i : Int) - 16).toNat = i by omega] at this
/-- More productions. -/
theorem more_bool {g : Gr} {ps : List Pr} (hv : Valid g) (hv' : Valid (withP g ps)) (h : ∀ p, p ∈ g.prods → p ∈ ps) {s : Int} (hs : 16 ≤ s) :
    (bget (yieldsM g) s && !bget (yieldsM (withP g ps)) s) = false ∧ (bget (nullM g) s && !bget (nullM (withP g ps)) s) = false ∧ (bget (reachM g) s && !bget (reachM (withP g ps)) s) = false := by
  have key : ∀ {ps1 ps2 : List Pr} {n : Nat} {b : Bool}, Wf ps1 n → Wf ps2 n → (∀ p, p ∈ ps1 → p ∈ ps2) → (bget (gen ps1 n b) s && !bget (gen ps2 n b) s) = false := by
    intro ps1 ps2 n b w1 w2 hsub
    rw [gen, gen, bget_some, bget_some]
    have l1 := best_least w1 (small_tb b 0 (by decide))
    have l2 := best_least w2 (small_tb b 0 (by decide))
    cases h1 : tget (best ps1 n (tb b) 0) s with
    | none => rfl
    | some c =>
      obtain ⟨c', h2, _⟩ := l1.mono l2 hsub hs h1
      rw [h2]; rfl
  exact ⟨key hv.wf hv'.wf h, key hv.wf hv'.wf h, key (wf_rrules hv.wf hv.start.1 hv.start.2) (wf_rrules hv'.wf hv.start.1 hv.start.2) (rrules_sub h)⟩
theorem more_len {g : Gr} {ps : List Pr} (hv : Valid g) (hv' : Valid (withP g ps)) (h : ∀ p, p ∈ g.prods → p ∈ ps) {s : Int} (hs : 16 ≤ s) :
    0 ≤ encR (-1) (tget (fl g) s) → 0 ≤ encR (-1) (tget (fl (withP g ps)) s) ∧ encR (-1) (tget (fl (withP g ps)) s) ≤ encR (-1) (tget (fl g) s) := by
  intro h0
  cases h1 : tget (fl g) s with
  | none => rw [h1] at h0; exact absurd h0 (by decide)
  | some c =>
    obtain ⟨c', h2, h3⟩ := (fl_least hv).mono (show IsLeast ps g.names.length (some 1) 0 (fl (withP g ps)) from fl_least hv') h hs h1
    rw [h2]; show 0 ≤ (c' : Int) ∧ (c' : Int) ≤ c; omega
theorem more_tree {g : Gr} {ps : List Pr} (hv : Valid g) (hv' : Valid (withP g ps)) (h : ∀ p, p ∈ g.prods → p ∈ ps) {s : Int} (hs : 16 ≤ s) :
    0 < encR 0 (tget (ft g) s) → 0 < encR 0 (tget (ft (withP g ps)) s) ∧ encR 0 (tget (ft (withP g ps)) s) ≤ encR 0 (tget (ft g) s) := by
  intro h0
  cases h1 : tget (ft g) s with
  | none => rw [h1] at h0; exact absurd h0 (by decide)
  | some c =>
    obtain ⟨c', h2, h3⟩ := (ft_least hv).mono (show IsLeast ps g.names.length none 1 (ft (withP g ps)) from ft_least hv') h hs h1
    obtain ⟨p, _, _, a, _, rfl⟩ := (show IsLeast ps g.names.length none 1 (ft (withP g ps)) from ft_least hv').from hs h2
    rw [h2]; show 0 < ((1 + a : Nat) : Int) ∧ ((1 + a : Nat) : Int) ≤ c; omega
theorem rowD {rows : List Row} {i : Nat} (h : i < rows.length) : ((rows.map (·.2.2)).getD i (0, [])) = rows[i].2.2 := by
  simp [List.getD, h]
theorem same_tells {g : Gr} {ps : List Pr} (hv : Valid g) (hv' : Valid (withP g ps)) (h : ∀ p, p ∈ ps ↔ p ∈ g.prods) : yieldsM g = yieldsM (withP g ps) ∧ nullM g = nullM (withP g ps) ∧ reachM g = reachM (withP g ps) ∧ lengthsM g = lengthsM (withP g ps) ∧ treesM g = treesM (withP g ps) := by
  have hb : ∀ {t own}, Small t own → best g.prods g.names.length t own = best ps g.names.length t own := fun hs => best_same hv.wf hv'.wf hs fun p => (h p).symm
  refine ⟨?_, ?_, ?_, ?_, ?_⟩
  · show (best g.prods g.names.length (tb true) 0).map Option.isSome = (best ps g.names.length (tb true) 0).map Option.isSome
    rw [hb (small_tb true 0 (by decide))]
  · show (best g.prods g.names.length (tb false) 0).map Option.isSome = (best ps g.names.length (tb false) 0).map Option.isSome
    rw [hb (small_tb false 0 (by decide))]
  · show (best (rrules g.prods g.start) g.names.length (tb false) 0).map Option.isSome = (best (rrules ps g.start) g.names.length (tb false) 0).map Option.isSome
    rw [best_same (ps' := rrules ps g.start) (wf_rrules hv.wf hv.start.1 hv.start.2) (wf_rrules hv'.wf hv.start.1 hv.start.2) (small_tb false 0 (by decide)) fun q => ⟨rrules_sub (fun p hp => (h p).2 hp) q, rrules_sub (fun p hp => (h p).1 hp) q⟩]
  · show (best g.prods g.names.length (some 1) 0).map (encR (-1)) = (best ps g.names.length (some 1) 0).map (encR (-1))
    rw [hb (small_one 1 0 (by decide) (by decide))]
  · show (best g.prods g.names.length none 1).map (encR 0) = (best ps g.names.length none 1).map (encR 0)
    rw [hb (small_none 1 (by decide))]
structure WOk (E : Env) (gv : Value) (g : Gr) (ps : List Pr) : Prop where
  gr : GrE E gv (withP g ps)
  light : Light (withP g ps)
  check : gcheck (withP g ps) = 0
theorem light_withP {g : Gr} {ps : List Pr} (hl : Light g) (h1 : ps.length ≤ 24) (h2 : ∀ p, p ∈ ps → p.2.length ≤ 6) : Light (withP g ps) := ⟨hl.t, hl.n, Nat.le_trans h1 (by decide), hl.sep, hl.ts, hl.ns, fun p hp => Nat.le_trans (h2 p hp) (by decide)⟩
section
variable (E : Env) (L : List Res)
theorem tellsW_call (gv : Value) (g : Gr) (ps : List Pr) (hg : WOk E gv g ps) : CallS Try.prog 54 #[gv] E L (fun r E' L' => ∃ p1 c1 p2 c2 p3 c3 p4 c4 p5 c5,
    r = .tuple #[.slice p1 g.names.length c1, .slice p2 g.names.length c2, .slice p3 g.names.length c3, .slice p4 g.names.length c4, .slice p5 g.names.length c5, .bool true] ∧
    SlE E' 1 p1 g.names.length (bools (yieldsM (withP g ps))) ∧ SlE E' 1 p2 g.names.length (bools (nullM (withP g ps))) ∧ SlE E' 1 p3 g.names.length (bools (reachM (withP g ps))) ∧ SlE E' 1 p4 g.names.length (i64s (lengthsM (withP g ps))) ∧ SlE E' 1 p5 g.names.length (i64s (treesM (withP g ps))) ∧ L' = L) :=
  tells_call E L gv (withP g ps) hg.gr hg.light hg.check
theorem More10_call (p q : Option Addr) (c d : Nat) (xs ys : List Int) (m : Int) (hx : SlE E 1 p xs.length (i64s xs)) (hn : xs.length ≤ 9223372036854775807) (hb : ∀ n, n ∈ xs → -9223372036854775808 ≤ n ∧ n ≤ 9223372036854775807)
    (hy : SlE E 1 q ys.length (i64s ys)) (hn2 : ys.length ≤ 9223372036854775807) (hb2 : ∀ n, n ∈ ys → -9223372036854775808 ≤ n ∧ n ≤ 9223372036854775807) (hm : -9223372036854775808 ≤ m ∧ m ≤ 9223372036854775807) :
    CallV Try.prog 9 #[.slice p xs.length c, .int .i64 m, .slice q ys.length d] E L (.bool true) := by
  refine CallS.toV (CallS.intro (l := [_, _, _]) _ Try.func9 rfl Try.ntmps9 rfl ?_)
  refine G_seq ?_
  refine G_region ?_
  refine G_val (V_assign rfl rfl) rfl rfl (.none rfl) ?_
  refine G_end ?_
  refine X_then ?_
  refine G_seq ?_
  refine G_region ?_
  refine G_callv (k := 6) (.mk rfl rfl rfl rfl) rfl rfl (.none rfl) (Known_call _ _) ?_
  refine G_val (V_assign rfl rfl) rfl rfl (.none rfl) ?_
  refine G_end ?_
  refine X_then ?_
  refine G_seq ?_
  refine G_region ?_
  refine G_val (V_move rfl rfl) rfl rfl (.none rfl) ?_
  refine G_call (k := 14) (.mk rfl rfl rfl rfl) rfl rfl (.none rfl) (Any_call _ _ _ _ _ (by first | assumption | exact SlE.toI (by assumption) rfl | exact SlE.toS (by assumption) rfl | exact SlE.toT (by assumption) rfl | exact SlE.toB (by assumption) rfl | exact SlE.nilT | exact (rfl : (_ : Option _) = some _) | exact .head _ | exact .tail _ (.head _) | exact .tail _ (.tail _ (.head _)) | exact .tail _ (.tail _ (.tail _ (.head _))) | exact .tail _ (.tail _ (.tail _ (.tail _ (.head _)))) | exact .tail _ (.tail _ (.tail _ (.tail _ (.tail _ (.head _))))) | exact .tail _ (.tail _ (.tail _ (.tail _ (.tail _ (.tail _ (.head _)))))) | exact .tail _ (.tail _ (.tail _ (.tail _ (.tail _ (.tail _ (.tail _ (.head _))))))) | exact .tail _ (.tail _ (.tail _ (.tail _ (.tail _ (.tail _ (.tail _ (.tail _ (.head _)))))))) | omega | (simp; omega) | (simp; done) | exact (by kernel_rfl : (_ : Bool) = _)) (by first | assumption | exact SlE.toI (by assumption) rfl | exact SlE.toS (by assumption) rfl | exact SlE.toT (by assumption) rfl | exact SlE.toB (by assumption) rfl | exact SlE.nilT | exact (rfl : (_ : Option _) = some _) | exact .head _ | exact .tail _ (.head _) | exact .tail _ (.tail _ (.head _)) | exact .tail _ (.tail _ (.tail _ (.head _))) | exact .tail _ (.tail _ (.tail _ (.tail _ (.head _)))) | exact .tail _ (.tail _ (.tail _ (.tail _ (.tail _ (.head _))))) | exact .tail _ (.tail _ (.tail _ (.tail _ (.tail _ (.tail _ (.head _)))))) | exact .tail _ (.tail _ (.tail _ (.tail _ (.tail _ (.tail _ (.tail _ (.head _))))))) | exact .tail _ (.tail _ (.tail _ (.tail _ (.tail _ (.tail _ (.tail _ (.tail _ (.head _)))))))) | omega | (simp; omega) | (simp; done) | exact (by kernel_rfl : (_ : Bool) = _)) (by first | assumption | exact SlE.toI (by assumption) rfl | exact SlE.toS (by assumption) rfl | exact SlE.toT (by assumption) rfl | exact SlE.toB (by assumption) rfl | exact SlE.nilT | exact (rfl : (_ : Option _) = some _) | exact .head _ | exact .tail _ (.head _) | exact .tail _ (.tail _ (.head _)) | exact .tail _ (.tail _ (.tail _ (.head _))) | exact .tail _ (.tail _ (.tail _ (.tail _ (.head _)))) | exact .tail _ (.tail _ (.tail _ (.tail _ (.tail _ (.head _))))) | exact .tail _ (.tail _ (.tail _ (.tail _ (.tail _ (.tail _ (.head _)))))) | exact .tail _ (.tail _ (.tail _ (.tail _ (.tail _ (.tail _ (.tail _ (.head _))))))) | exact .tail _ (.tail _ (.tail _ (.tail _ (.tail _ (.tail _ (.tail _ (.tail _ (.head _)))))))) | omega | (simp; omega) | (simp; done) | exact (by kernel_rfl : (_ : Bool) = _))) ?_
  rintro r1 E2 L3 hE4 ⟨z5, ⟨Z6, ⟨Z7, ⟨Z8, rfl⟩⟩⟩⟩
  replace hx := hx.mono hE4
  replace hy := hy.mono hE4
  (refine G_alloc rfl rfl rfl (.none rfl) ?_; intro b8)
  have hgr : GrE E2 r1 z5 := by assumption
  have hl : Light z5 := by assumption
  have hc : gcheck z5 = 0 := by assumption
  have hg0 := hgr
  obtain ⟨tp, tc, np, nc, pp, pc, rfl, ht, hnm, ⟨rows, hrows, hps, hre⟩, k1, k2, k3⟩ := hgr
  have hlen : z5.prods.length = rows.length := by rw [← hrows]; simp
  have q1 := hl.t; have q2 := hl.n; have q3 := hl.p
  have hv := valid_of hc
  have hnn := hv.names
  have hpn : 0 < z5.prods.length := by
    obtain ⟨_, _, _, _, _, _, _, h7⟩ := gcheck_ok hc
    have h8 := List.all_eq_true.1 h7 0 (List.mem_range.2 hnn.1)
    obtain ⟨p, hp, _⟩ := List.any_eq_true.1 h8
    exact List.length_pos_of_mem hp
  refine G_storeA rfl rfl rfl rfl (by simp [Value.oneCell']) rfl (.none rfl) (.head _ _ _) rfl ?_
  refine G_end ?_
  refine X_then ?_
  refine G_seq ?_
  refine G_region ?_
  refine G_val (V_loadA rfl rfl (Cells.own (.head _)) rfl) rfl rfl (.none rfl) ?_
  refine G_call (k := 54) (.mk rfl rfl rfl rfl) rfl rfl (.none rfl) (tells_call _ _ _ _ (by first | assumption | exact SlE.toI (by assumption) rfl | exact SlE.toS (by assumption) rfl | exact SlE.toT (by assumption) rfl | exact SlE.toB (by assumption) rfl | exact SlE.nilT | exact (rfl : (_ : Option _) = some _) | exact .head _ | exact .tail _ (.head _) | exact .tail _ (.tail _ (.head _)) | exact .tail _ (.tail _ (.tail _ (.head _))) | exact .tail _ (.tail _ (.tail _ (.tail _ (.head _)))) | exact .tail _ (.tail _ (.tail _ (.tail _ (.tail _ (.head _))))) | exact .tail _ (.tail _ (.tail _ (.tail _ (.tail _ (.tail _ (.head _)))))) | exact .tail _ (.tail _ (.tail _ (.tail _ (.tail _ (.tail _ (.tail _ (.head _))))))) | exact .tail _ (.tail _ (.tail _ (.tail _ (.tail _ (.tail _ (.tail _ (.tail _ (.head _)))))))) | omega | (simp; omega) | (simp; done) | exact (by kernel_rfl : (_ : Bool) = _)) (by first | assumption | exact SlE.toI (by assumption) rfl | exact SlE.toS (by assumption) rfl | exact SlE.toT (by assumption) rfl | exact SlE.toB (by assumption) rfl | exact SlE.nilT | exact (rfl : (_ : Option _) = some _) | exact .head _ | exact .tail _ (.head _) | exact .tail _ (.tail _ (.head _)) | exact .tail _ (.tail _ (.tail _ (.head _))) | exact .tail _ (.tail _ (.tail _ (.tail _ (.head _)))) | exact .tail _ (.tail _ (.tail _ (.tail _ (.tail _ (.head _))))) | exact .tail _ (.tail _ (.tail _ (.tail _ (.tail _ (.tail _ (.head _)))))) | exact .tail _ (.tail _ (.tail _ (.tail _ (.tail _ (.tail _ (.tail _ (.head _))))))) | exact .tail _ (.tail _ (.tail _ (.tail _ (.tail _ (.tail _ (.tail _ (.tail _ (.head _)))))))) | omega | (simp; omega) | (simp; done) | exact (by kernel_rfl : (_ : Bool) = _)) (by first | assumption | exact SlE.toI (by assumption) rfl | exact SlE.toS (by assumption) rfl | exact SlE.toT (by assumption) rfl | exact SlE.toB (by assumption) rfl | exact SlE.nilT | exact (rfl : (_ : Option _) = some _) | exact .head _ | exact .tail _ (.head _) | exact .tail _ (.tail _ (.head _)) | exact .tail _ (.tail _ (.tail _ (.head _))) | exact .tail _ (.tail _ (.tail _ (.tail _ (.head _)))) | exact .tail _ (.tail _ (.tail _ (.tail _ (.tail _ (.head _))))) | exact .tail _ (.tail _ (.tail _ (.tail _ (.tail _ (.tail _ (.head _)))))) | exact .tail _ (.tail _ (.tail _ (.tail _ (.tail _ (.tail _ (.tail _ (.head _))))))) | exact .tail _ (.tail _ (.tail _ (.tail _ (.tail _ (.tail _ (.tail _ (.tail _ (.head _)))))))) | omega | (simp; omega) | (simp; done) | exact (by kernel_rfl : (_ : Bool) = _))) ?_
  rintro r1 E3 L4 hE5 ⟨z6, ⟨z7, ⟨z8, ⟨z9, ⟨z10, ⟨z11, ⟨z12, ⟨z13, ⟨z14, ⟨z15, ⟨rfl, ⟨Z16, ⟨Z17, ⟨Z18, ⟨Z19, ⟨Z20, rfl⟩⟩⟩⟩⟩⟩⟩⟩⟩⟩⟩⟩⟩⟩⟩⟩
  replace hx := hx.mono hE5
  replace hy := hy.mono hE5
  replace Z6 := Z6.mono hE5
  replace hg0 := hg0.mono hE5
  replace ht := ht.mono hE5
  replace hnm := hnm.mono hE5
  replace hps := hps.mono hE5
  refine G_val (V_move rfl rfl) rfl rfl (.none rfl) ?_
  refine G_val (V_extract rfl rfl rfl) rfl rfl (.none rfl) ?_
  refine G_val (V_extract rfl rfl rfl) rfl rfl (.none rfl) ?_
  refine G_val (V_extract rfl rfl rfl) rfl rfl (.none rfl) ?_
  refine G_val (V_extract rfl rfl rfl) rfl rfl (.none rfl) ?_
  refine G_val (V_extract rfl rfl rfl) rfl rfl (.none rfl) ?_
  refine G_val (V_extract rfl rfl rfl) rfl rfl (.none rfl) ?_
  refine G_val (V_assign rfl rfl) rfl rfl (.none rfl) ?_
  refine G_val (V_assign rfl rfl) rfl rfl (.none rfl) ?_
  refine G_val (V_assign rfl rfl) rfl rfl (.none rfl) ?_
  refine G_val (V_assign rfl rfl) rfl rfl (.none rfl) ?_
  refine G_val (V_assign rfl rfl) rfl rfl (.none rfl) ?_
  refine G_val (V_assign rfl rfl) rfl rfl (.none rfl) ?_
  refine G_end ?_
  refine X_then ?_
  refine G_seq ?_
  refine G_seq ?_
  refine G_region ?_
  refine G_val (V_move rfl rfl) rfl rfl (.none rfl) ?_
  refine G_val (V_not rfl rfl) rfl rfl (.none rfl) ?_
  refine G_val (V_move rfl rfl) rfl rfl (.none rfl) ?_
  refine G.bool_f 44 rfl (by kernel_rfl) ?_
  refine G_val (V_fieldAddr rfl rfl (by decide)) rfl rfl (.yes rfl rfl rfl rfl) ?_
  refine G_val (V_load rfl rfl (Cell.own (.head _) rfl)) rfl rfl (.yes rfl rfl rfl rfl) ?_
  refine G_val (V_lenS rfl rfl) rfl rfl (.yes rfl rfl rfl rfl) ?_
  refine G_val (V_eql rfl rfl rfl) rfl rfl (.yes rfl rfl rfl rfl) ?_
  refine G_val (V_pick_f rfl rfl rfl) rfl rfl (.none rfl) ?_
  refine G_val (V_move rfl rfl) rfl rfl (.none rfl) ?_
  refine G.bool_f 50 rfl (decide_eq_false (by omega)) ?_
  refine G_val (V_fieldAddr rfl rfl (by decide)) rfl rfl (.yes rfl rfl rfl rfl) ?_
  refine G_val (V_load rfl rfl (Cell.own (.head _) rfl)) rfl rfl (.yes rfl rfl rfl rfl) ?_
  refine G_val (V_lenS rfl rfl) rfl rfl (.yes rfl rfl rfl rfl) ?_
  refine G_val (V_eql rfl rfl rfl) rfl rfl (.yes rfl rfl rfl rfl) ?_
  refine G_val (V_pick_f rfl rfl rfl) rfl rfl (.none rfl) ?_
  refine G_end ?_
  refine X_then ?_
  refine G_cond_f rfl (decide_eq_false (by omega)) ?_
  refine G_skip ?_
  refine X_then ?_
  refine G_seq ?_
  refine G_region ?_
  refine G_val (V_loadA rfl rfl (Cells.own (.head _)) rfl) rfl rfl (.none rfl) ?_
  refine G_call (k := 18) (.mk rfl rfl rfl rfl) rfl rfl (.none rfl) (OwnGrammar_call' _ _ _ _ (by first | assumption | exact SlE.toI (by assumption) rfl | exact SlE.toS (by assumption) rfl | exact SlE.toT (by assumption) rfl | exact SlE.toB (by assumption) rfl | exact SlE.nilT | exact (rfl : (_ : Option _) = some _) | exact .head _ | exact .tail _ (.head _) | exact .tail _ (.tail _ (.head _)) | exact .tail _ (.tail _ (.tail _ (.head _))) | exact .tail _ (.tail _ (.tail _ (.tail _ (.head _)))) | exact .tail _ (.tail _ (.tail _ (.tail _ (.tail _ (.head _))))) | exact .tail _ (.tail _ (.tail _ (.tail _ (.tail _ (.tail _ (.head _)))))) | exact .tail _ (.tail _ (.tail _ (.tail _ (.tail _ (.tail _ (.tail _ (.head _))))))) | exact .tail _ (.tail _ (.tail _ (.tail _ (.tail _ (.tail _ (.tail _ (.tail _ (.head _)))))))) | omega | (simp; omega) | (simp; done) | exact (by kernel_rfl : (_ : Bool) = _)) (by first | assumption | exact SlE.toI (by assumption) rfl | exact SlE.toS (by assumption) rfl | exact SlE.toT (by assumption) rfl | exact SlE.toB (by assumption) rfl | exact SlE.nilT | exact (rfl : (_ : Option _) = some _) | exact .head _ | exact .tail _ (.head _) | exact .tail _ (.tail _ (.head _)) | exact .tail _ (.tail _ (.tail _ (.head _))) | exact .tail _ (.tail _ (.tail _ (.tail _ (.head _)))) | exact .tail _ (.tail _ (.tail _ (.tail _ (.tail _ (.head _))))) | exact .tail _ (.tail _ (.tail _ (.tail _ (.tail _ (.tail _ (.head _)))))) | exact .tail _ (.tail _ (.tail _ (.tail _ (.tail _ (.tail _ (.tail _ (.head _))))))) | exact .tail _ (.tail _ (.tail _ (.tail _ (.tail _ (.tail _ (.tail _ (.tail _ (.head _)))))))) | omega | (simp; omega) | (simp; done) | exact (by kernel_rfl : (_ : Bool) = _))) ?_
  rintro r21 E22 L23 hE24 ⟨z25, ⟨z26, ⟨z27, ⟨z28, ⟨z29, ⟨z30, ⟨z31, ⟨rfl, ⟨Z32, ⟨Z33, ⟨Z34, ⟨Z35, ⟨Z36, ⟨Z37, rfl⟩⟩⟩⟩⟩⟩⟩⟩⟩⟩⟩⟩⟩⟩
  replace Z16 := Z16.mono hE24
  replace Z17 := Z17.mono hE24
  replace Z18 := Z18.mono hE24
  replace Z19 := Z19.mono hE24
  replace Z20 := Z20.mono hE24
  replace hx := hx.mono hE24
  replace hy := hy.mono hE24
  replace Z6 := Z6.mono hE24
  replace hg0 := hg0.mono hE24
  replace ht := ht.mono hE24
  replace hnm := hnm.mono hE24
  replace hps := hps.mono hE24
  (refine G_alloc rfl rfl rfl (.none rfl) ?_; intro b15)
  refine G_storeA rfl rfl rfl rfl (by simp [Value.oneCell']) rfl (.none rfl) (.head _ _ _) rfl ?_
  refine G_end ?_
  refine X_then ?_
  refine G_seq ?_
  refine G_seq ?_
  refine G_region ?_
  refine G_val (V_assign rfl rfl) rfl rfl (.none rfl) ?_
  refine G_end ?_
  refine X_then ?_
  refine G_block ?_
  have hEE : E2.Le E22 := by first | assumption | exact Env.Le.trans (by assumption) (by assumption)
  replace hre := hre.mono hEE
  clear hg0 hx
  have hyy : SlE E22 1 q ys.length (i64s ys) := by assumption
  have s1 : SlE E22 1 z6 z5.names.length (bools (yieldsM z5)) := by assumption
  have s2 : SlE E22 1 z8 z5.names.length (bools (nullM z5)) := by assumption
  have s3 : SlE E22 1 z10 z5.names.length (bools (reachM z5)) := by assumption
  have s4 : SlE E22 1 z12 z5.names.length (i64s (lengthsM z5)) := by assumption
  have s5 : SlE E22 1 z14 z5.names.length (i64s (treesM z5)) := by assumption
  have hz31 : z31.map (·.2.2) = z5.prods := by assumption
  have hr31 : RowsE E22 z31 := by assumption
  have hl31 : z31.length = rows.length := by rw [← hlen, ← hz31, List.length_map]
  refine G.front (.tail _ (.head _ _)) ?_
  refine G.slBlk hpn ?_
  rintro g0 tl rfl hcap
  refine G_loop (α := Nat × List Row) (fun x => [(1, .int .i64 m), (2, .slice q ys.length d), (7, .bool true), (8, .pointer (some ⟨b8, 0, none⟩)), (9, .slice z6 z5.names.length z7), (10, .slice z8 z5.names.length z9), (11, .slice z10 z5.names.length z11), (12, .slice z12 z5.names.length z13), (13, .slice z14 z5.names.length z15), (15, .pointer (some ⟨b15, 0, none⟩)), (16, .int .i64 x.1)]) (fun _ => E22)
    (fun x => .blk g0 (.cells (prows x.2 ++ tl).toArray 62 (0, 0)) :: .blk b15 (.cells #[.int .i64 z5.k, .slice z25 z5.toks.length z26, .string (S z5.sep), .slice z27 z5.names.length z28, .int .i64 z5.start, .slice (some ⟨g0, 0, none⟩) z5.prods.length z30] 26 (0, 0)) :: GB b8 z5 tp tc np nc pp pc :: L3)
    (fun x => x.1 ≤ rows.length ∧ Turned z5.prods (x.2.map (·.2.2)) x.1 ∧ RowsE E22 x.2 ∧ x.2.length = rows.length) (fun x => rows.length - x.1) (0, z31)
    ⟨Nat.zero_le _, ⟨by rw [hz31], fun i hi => by cases hi⟩, hr31, hl31⟩ ⟨rfl, rfl, rfl, rfl, rfl, rfl, rfl, rfl, rfl, rfl, rfl, trivial⟩ rfl rfl ?_
  rintro ⟨i, ts⟩ ⟨hi, htu, hrt, htl⟩
  simp only at hi htu hrt htl ⊢
  have hptl := prows_len ts
  by_cases hlt : i < rows.length
  · have hg1 := List.getElem?_eq_getElem hlt
    have hyl := prows_left hg1
    have hyg := prows_get hg1
    have hpi : z5.prods.getD i (0, []) = rows[i].2.2 := by rw [← hrows]; exact rowD hlt
    refine G_seq ?_
    refine G_seq ?_
    refine G_region ?_
    refine G_val (V_move rfl rfl) rfl rfl (.none rfl) ?_
    refine G_val (V_fieldAddr rfl rfl (by decide)) rfl rfl (.none rfl) ?_
    refine G_val (V_load rfl rfl (Cell.own (.tail _ (.tail _ (.head _))) rfl)) rfl rfl (.none rfl) ?_
    refine G_val (V_lenS rfl rfl) rfl rfl (.none rfl) ?_
    refine G_val (V_lss rfl rfl rfl) rfl rfl (.none rfl) ?_
    refine G_end ?_
    refine X_then ?_
    refine G_cond_t rfl (decide_eq_true (by omega)) ?_
    refine G_skip ?_
    refine X_then ?_
    refine G_seq ?_
    refine G_block ?_
    refine G_seq ?_
    refine G_region ?_
    refine G_val (V_move rfl rfl) rfl rfl (.none rfl) ?_
    refine G_val (V_move rfl rfl) rfl rfl (.none rfl) ?_
    refine G_val (V_assign rfl rfl) rfl rfl (.none rfl) ?_
    refine G_val (V_assign rfl rfl) rfl rfl (.none rfl) ?_
    refine G_end ?_
    refine X_then ?_
    refine G_seq ?_
    refine G_block ?_
    refine G_loop (α := Nat) (fun f => [(1, .int .i64 m), (2, .slice q ys.length d), (7, .bool true), (8, .pointer (some ⟨b8, 0, none⟩)), (9, .slice z6 z5.names.length z7), (10, .slice z8 z5.names.length z9), (11, .slice z10 z5.names.length z11), (12, .slice z12 z5.names.length z13), (13, .slice z14 z5.names.length z15), (15, .pointer (some ⟨b15, 0, none⟩)), (16, .int .i64 i), (17, .int .i64 f), (18, .int .i64 i)]) (fun _ => E22)
      (fun _ => .blk g0 (.cells (prows ts ++ tl).toArray 62 (0, 0)) :: .blk b15 (.cells #[.int .i64 z5.k, .slice z25 z5.toks.length z26, .string (S z5.sep), .slice z27 z5.names.length z28, .int .i64 z5.start, .slice (some ⟨g0, 0, none⟩) z5.prods.length z30] 26 (0, 0)) :: GB b8 z5 tp tc np nc pp pc :: L3)
      (fun f => f ≤ i ∧ ∀ j, f ≤ j → j ≤ i → (z5.prods.getD j (0, [])).1 = (z5.prods.getD i (0, [])).1) (fun f => f) i
      ⟨Nat.le_refl _, fun j h1 h2 => by rw [show j = i by omega]⟩ ⟨rfl, rfl, rfl, rfl, rfl, rfl, rfl, rfl, rfl, rfl, rfl, rfl, rfl, trivial⟩ rfl rfl ?_
    rintro f ⟨hf, hfs⟩
    by_cases hgo : 0 < f ∧ (z5.prods.getD (f - 1) (0, [])).1 = (z5.prods.getD i (0, [])).1
    · obtain ⟨f', rfl⟩ : ∃ k, f = k + 1 := ⟨f - 1, by omega⟩
      have hltf : f' < rows.length := by omega
      have hylf := prows_left (List.getElem?_eq_getElem hltf)
      have hpf : z5.prods.getD f' (0, []) = rows[f'].2.2 := by rw [← hrows]; exact rowD hltf
      have hsame : rows[f'].2.2.1 = rows[i].2.2.1 := by have := hgo.2; rwa [Nat.add_sub_cancel, hpf, hpi] at this
      refine G_seq ?_
      refine G_seq ?_
      refine G_draw mixed (by kernel_rfl) ?_
      refine Q_val (V_move rfl rfl) rfl rfl (.none rfl) ?_
      refine Q_val (V_gtr rfl rfl rfl) rfl rfl (.none rfl) ?_
      refine Q_val (V_move rfl rfl) rfl rfl (.none rfl) ?_
      refine Q_bool_t 69 rfl (decide_eq_true (by omega)) ?_
      refine Q_val (V_fieldAddr rfl rfl (by decide)) rfl rfl (.yes rfl rfl rfl rfl) ?_
      refine Q_val (V_load rfl rfl (Cell.own (.tail _ (.tail _ (.head _))) rfl)) rfl rfl (.yes rfl rfl rfl rfl) ?_
      refine Q_val (V_move rfl rfl) rfl rfl (.yes rfl rfl rfl rfl) ?_
      refine Q_val (V_sub_i64 rfl rfl rfl (by omega) (by omega)) rfl rfl (.yes rfl rfl rfl rfl) ?_
      refine Q_val (V_idxAddr rfl rfl rfl (SlE.rd (by assumption)) (by omega) (by omega)) rfl rfl (.yes rfl rfl rfl rfl) ?_
      refine Q_val (V_fieldAddrE rfl rfl (by assumption) (by omega) (by decide)) rfl rfl (.yes rfl rfl rfl rfl) ?_
      refine Q_val (V_loadS rfl rfl (SlE.rd (by assumption)) (by assumption) (by simp)) rfl rfl (.yes rfl rfl rfl rfl) ?_
      refine Q_val (V_fieldAddr rfl rfl (by decide)) rfl rfl (.yes rfl rfl rfl rfl) ?_
      refine Q_val (V_load rfl rfl (Cell.own (.tail _ (.tail _ (.head _))) rfl)) rfl rfl (.yes rfl rfl rfl rfl) ?_
      refine Q_val (V_move rfl rfl) rfl rfl (.yes rfl rfl rfl rfl) ?_
      refine Q_val (V_idxAddr rfl rfl rfl (SlE.rd (by assumption)) (by omega) (by omega)) rfl rfl (.yes rfl rfl rfl rfl) ?_
      refine Q_val (V_fieldAddrE rfl rfl (by assumption) (by omega) (by decide)) rfl rfl (.yes rfl rfl rfl rfl) ?_
      refine Q_val (V_loadS rfl rfl (SlE.rd (by assumption)) hyl (by simp)) rfl rfl (.yes rfl rfl rfl rfl) ?_
      refine Q_val (V_eql rfl rfl rfl) rfl rfl (.yes rfl rfl rfl rfl) ?_
      refine Q_val (V_pick_t rfl rfl rfl) rfl rfl (.none rfl) ?_
      refine Q_end ?_
      refine X_then ?_
      refine G_cond_t rfl (decide_eq_true (by omega)) ?_
      refine G_skip ?_
      refine X_then ?_
      refine G_block ?_
      refine G_region ?_
      refine G_val (V_move rfl rfl) rfl rfl (.none rfl) ?_
      refine G_val (V_sub_i64 rfl rfl rfl (by omega) (by omega)) rfl rfl (.none rfl) ?_
      refine G_val (V_assign rfl rfl) rfl rfl (.none rfl) ?_
      refine G_end ?_
      refine X_block ?_
      refine X_then ?_
      exact G_again f' ⟨by omega, fun j h1 h2 => by
        by_cases he : j = f'
        · rw [he, hpf, hpi, hsame]
        · exact hfs j (by omega) h2⟩ (by omega) ⟨rfl, rfl, rfl, rfl, rfl, rfl, rfl, rfl, rfl, rfl, rfl, (congrArg (fun n => some (Value.int .i64 n)) (show ((f' + 1 : Nat) : Int) - 1 = f' by omega)), rfl, trivial⟩ rfl rfl
    · have hlo : f = 0 ∨ (z5.prods.getD (f - 1) (0, [])).1 ≠ (z5.prods.getD i (0, [])).1 := by
        by_cases h0 : f = 0
        · exact .inl h0
        · exact .inr fun h => hgo ⟨by omega, h⟩
      have hem : f = 0 ∨ f ≠ 0 := Decidable.em _
      refine G_two (Y := ?Y) (fs' := [(1, .int .i64 m), (2, .slice q ys.length d), (7, .bool true), (8, .pointer (some ⟨b8, 0, none⟩)), (9, .slice z6 z5.names.length z7), (10, .slice z8 z5.names.length z9), (11, .slice z10 z5.names.length z11), (12, .slice z12 z5.names.length z13), (13, .slice z14 z5.names.length z15), (15, .pointer (some ⟨b15, 0, none⟩)), (16, .int .i64 i), (17, .int .i64 f), (18, .int .i64 i)]) hem (fun hp hk => ?_) (fun hq hk => ?_) ?_
      rotate_left
      · refine G_seq ?_
        refine G_seq ?_
        refine G_draw mixed (by kernel_rfl) ?_
        refine Q_val (V_move rfl rfl) rfl rfl (.none rfl) ?_
        refine Q_val (V_gtr rfl rfl rfl) rfl rfl (.none rfl) ?_
        refine Q_val (V_move rfl rfl) rfl rfl (.none rfl) ?_
        refine Q_bool_f 69 rfl (decide_eq_false (by omega)) ?_
        refine Q_stay (.no rfl rfl rfl rfl) rfl rfl ?_
        refine Q_stay (.no rfl rfl rfl rfl) rfl rfl ?_
        refine Q_stay (.no rfl rfl rfl rfl) rfl rfl ?_
        refine Q_stay (.no rfl rfl rfl rfl) rfl rfl ?_
        refine Q_stay (.no rfl rfl rfl rfl) rfl rfl ?_
        refine Q_stay (.no rfl rfl rfl rfl) rfl rfl ?_
        refine Q_stay (.no rfl rfl rfl rfl) rfl rfl ?_
        refine Q_stay (.no rfl rfl rfl rfl) rfl rfl ?_
        refine Q_stay (.no rfl rfl rfl rfl) rfl rfl ?_
        refine Q_stay (.no rfl rfl rfl rfl) rfl rfl ?_
        refine Q_stay (.no rfl rfl rfl rfl) rfl rfl ?_
        refine Q_stay (.no rfl rfl rfl rfl) rfl rfl ?_
        refine Q_stay (.no rfl rfl rfl rfl) rfl rfl ?_
        refine Q_stay (.no rfl rfl rfl rfl) rfl rfl ?_
        refine Q_val (V_pick_f rfl rfl rfl) rfl rfl (.none rfl) ?_
        refine Q_end ?_
        refine X_then ?_
        refine G_cond_f rfl rfl ?_
        refine G_exit ?_
        refine X_then_exit ?_
        refine X_then_exit ?_
        refine X_block_hit ?_
        refine X_then ?_
        refine G_seq ?_
        refine G_block ?_
        refine G.sub [(1, .int .i64 m), (2, .slice q ys.length d), (7, .bool true), (8, .pointer (some ⟨b8, 0, none⟩)), (9, .slice z6 z5.names.length z7), (10, .slice z8 z5.names.length z9), (11, .slice z10 z5.names.length z11), (12, .slice z12 z5.names.length z13), (13, .slice z14 z5.names.length z15), (15, .pointer (some ⟨b15, 0, none⟩)), (16, .int .i64 i), (17, .int .i64 f), (18, .int .i64 i)] ?_ ?_
        · exact ⟨rfl, rfl, rfl, rfl, rfl, rfl, rfl, rfl, rfl, rfl, rfl, rfl, rfl, trivial⟩
        · exact hk
      · have hltf : f - 1 < rows.length := by omega
        have hylf := prows_left (List.getElem?_eq_getElem hltf)
        have hpf : z5.prods.getD (f - 1) (0, []) = rows[f - 1].2.2 := by rw [← hrows]; exact rowD hltf
        have hdiff : rows[f - 1].2.2.1 ≠ rows[i].2.2.1 := fun h => hgo ⟨by omega, by rw [hpf, hpi, h]⟩
        refine G_seq ?_
        refine G_seq ?_
        refine G_draw mixed (by kernel_rfl) ?_
        refine Q_val (V_move rfl rfl) rfl rfl (.none rfl) ?_
        refine Q_val (V_gtr rfl rfl rfl) rfl rfl (.none rfl) ?_
        refine Q_val (V_move rfl rfl) rfl rfl (.none rfl) ?_
        refine Q_bool_t 69 rfl (decide_eq_true (by omega)) ?_
        refine Q_val (V_fieldAddr rfl rfl (by decide)) rfl rfl (.yes rfl rfl rfl rfl) ?_
        refine Q_val (V_load rfl rfl (Cell.own (.tail _ (.tail _ (.head _))) rfl)) rfl rfl (.yes rfl rfl rfl rfl) ?_
        refine Q_val (V_move rfl rfl) rfl rfl (.yes rfl rfl rfl rfl) ?_
        refine Q_val (V_sub_i64 rfl rfl rfl (by omega) (by omega)) rfl rfl (.yes rfl rfl rfl rfl) ?_
        refine Q_val (V_idxAddr rfl rfl rfl (SlE.rd (by assumption)) (by omega) (by omega)) rfl rfl (.yes rfl rfl rfl rfl) ?_
        refine Q_val (V_fieldAddrE rfl rfl (by assumption) (by omega) (by decide)) rfl rfl (.yes rfl rfl rfl rfl) ?_
        refine Q_val (V_loadS rfl rfl (SlE.rd (by assumption)) (by assumption) (by simp)) rfl rfl (.yes rfl rfl rfl rfl) ?_
        refine Q_val (V_fieldAddr rfl rfl (by decide)) rfl rfl (.yes rfl rfl rfl rfl) ?_
        refine Q_val (V_load rfl rfl (Cell.own (.tail _ (.tail _ (.head _))) rfl)) rfl rfl (.yes rfl rfl rfl rfl) ?_
        refine Q_val (V_move rfl rfl) rfl rfl (.yes rfl rfl rfl rfl) ?_
        refine Q_val (V_idxAddr rfl rfl rfl (SlE.rd (by assumption)) (by omega) (by omega)) rfl rfl (.yes rfl rfl rfl rfl) ?_
        refine Q_val (V_fieldAddrE rfl rfl (by assumption) (by omega) (by decide)) rfl rfl (.yes rfl rfl rfl rfl) ?_
        refine Q_val (V_loadS rfl rfl (SlE.rd (by assumption)) hyl (by simp)) rfl rfl (.yes rfl rfl rfl rfl) ?_
        refine Q_val (V_eql rfl rfl rfl) rfl rfl (.yes rfl rfl rfl rfl) ?_
        refine Q_val (V_pick_t rfl rfl rfl) rfl rfl (.none rfl) ?_
        refine Q_end ?_
        refine X_then ?_
        refine G_cond_f rfl (decide_eq_false (by omega)) ?_
        refine G_exit ?_
        refine X_then_exit ?_
        refine X_then_exit ?_
        refine X_block_hit ?_
        refine X_then ?_
        refine G_seq ?_
        refine G_block ?_
        refine G.sub [(1, .int .i64 m), (2, .slice q ys.length d), (7, .bool true), (8, .pointer (some ⟨b8, 0, none⟩)), (9, .slice z6 z5.names.length z7), (10, .slice z8 z5.names.length z9), (11, .slice z10 z5.names.length z11), (12, .slice z12 z5.names.length z13), (13, .slice z14 z5.names.length z15), (15, .pointer (some ⟨b15, 0, none⟩)), (16, .int .i64 i), (17, .int .i64 f), (18, .int .i64 i)] ?_ ?_
        · exact ⟨rfl, rfl, rfl, rfl, rfl, rfl, rfl, rfl, rfl, rfl, rfl, rfl, rfl, trivial⟩
        · exact hk
      · refine G_loop (α := Nat) (fun t => [(1, .int .i64 m), (2, .slice q ys.length d), (7, .bool true), (8, .pointer (some ⟨b8, 0, none⟩)), (9, .slice z6 z5.names.length z7), (10, .slice z8 z5.names.length z9), (11, .slice z10 z5.names.length z11), (12, .slice z12 z5.names.length z13), (13, .slice z14 z5.names.length z15), (15, .pointer (some ⟨b15, 0, none⟩)), (16, .int .i64 i), (17, .int .i64 f), (18, .int .i64 t)]) (fun _ => E22)
          (fun _ => .blk g0 (.cells (prows ts ++ tl).toArray 62 (0, 0)) :: .blk b15 (.cells #[.int .i64 z5.k, .slice z25 z5.toks.length z26, .string (S z5.sep), .slice z27 z5.names.length z28, .int .i64 z5.start, .slice (some ⟨g0, 0, none⟩) z5.prods.length z30] 26 (0, 0)) :: GB b8 z5 tp tc np nc pp pc :: L3)
          (fun t => i ≤ t ∧ t < rows.length ∧ ∀ j, f ≤ j → j ≤ t → (z5.prods.getD j (0, [])).1 = (z5.prods.getD i (0, [])).1) (fun t => rows.length - t) i
          ⟨Nat.le_refl _, hlt, hfs⟩ ⟨rfl, rfl, rfl, rfl, rfl, rfl, rfl, rfl, rfl, rfl, rfl, rfl, rfl, trivial⟩ rfl rfl ?_
        rintro t ⟨hit, htl2, hts⟩
        by_cases hgo2 : t + 1 < rows.length
        · have hylt := prows_left (List.getElem?_eq_getElem hgo2)
          have hpt : z5.prods.getD (t + 1) (0, []) = rows[t + 1].2.2 := by rw [← hrows]; exact rowD hgo2
          by_cases hsame : rows[t + 1].2.2.1 = rows[i].2.2.1
          · refine G_seq ?_
            refine G_seq ?_
            refine G_draw mixed (by kernel_rfl) ?_
            refine Q_val (V_move rfl rfl) rfl rfl (.none rfl) ?_
            refine Q_val (V_add_i64 rfl rfl rfl (by omega) (by omega)) rfl rfl (.none rfl) ?_
            refine Q_val (V_fieldAddr rfl rfl (by decide)) rfl rfl (.none rfl) ?_
            refine Q_val (V_load rfl rfl (Cell.own (.tail _ (.tail _ (.head _))) rfl)) rfl rfl (.none rfl) ?_
            refine Q_val (V_lenS rfl rfl) rfl rfl (.none rfl) ?_
            refine Q_val (V_lss rfl rfl rfl) rfl rfl (.none rfl) ?_
            refine Q_val (V_move rfl rfl) rfl rfl (.none rfl) ?_
            refine Q_bool_t 93 rfl (decide_eq_true (by omega)) ?_
            refine Q_val (V_fieldAddr rfl rfl (by decide)) rfl rfl (.yes rfl rfl rfl rfl) ?_
            refine Q_val (V_load rfl rfl (Cell.own (.tail _ (.tail _ (.head _))) rfl)) rfl rfl (.yes rfl rfl rfl rfl) ?_
            refine Q_val (V_move rfl rfl) rfl rfl (.yes rfl rfl rfl rfl) ?_
            refine Q_val (V_add_i64 rfl rfl rfl (by omega) (by omega)) rfl rfl (.yes rfl rfl rfl rfl) ?_
            refine Q_val (V_idxAddr rfl rfl rfl (SlE.rd (by assumption)) (by omega) (by omega)) rfl rfl (.yes rfl rfl rfl rfl) ?_
            refine Q_val (V_fieldAddrE rfl rfl (by assumption) (by omega) (by decide)) rfl rfl (.yes rfl rfl rfl rfl) ?_
            refine Q_val (V_loadS rfl rfl (SlE.rd (by assumption)) (by assumption) (by simp)) rfl rfl (.yes rfl rfl rfl rfl) ?_
            refine Q_val (V_fieldAddr rfl rfl (by decide)) rfl rfl (.yes rfl rfl rfl rfl) ?_
            refine Q_val (V_load rfl rfl (Cell.own (.tail _ (.tail _ (.head _))) rfl)) rfl rfl (.yes rfl rfl rfl rfl) ?_
            refine Q_val (V_move rfl rfl) rfl rfl (.yes rfl rfl rfl rfl) ?_
            refine Q_val (V_idxAddr rfl rfl rfl (SlE.rd (by assumption)) (by omega) (by omega)) rfl rfl (.yes rfl rfl rfl rfl) ?_
            refine Q_val (V_fieldAddrE rfl rfl (by assumption) (by omega) (by decide)) rfl rfl (.yes rfl rfl rfl rfl) ?_
            refine Q_val (V_loadS rfl rfl (SlE.rd (by assumption)) hyl (by simp)) rfl rfl (.yes rfl rfl rfl rfl) ?_
            refine Q_val (V_eql rfl rfl rfl) rfl rfl (.yes rfl rfl rfl rfl) ?_
            refine Q_val (V_pick_t rfl rfl rfl) rfl rfl (.none rfl) ?_
            refine Q_end ?_
            refine X_then ?_
            refine G_cond_t rfl (decide_eq_true (by omega)) ?_
            refine G_skip ?_
            refine X_then ?_
            refine G_block ?_
            refine G_region ?_
            refine G_val (V_move rfl rfl) rfl rfl (.none rfl) ?_
            refine G_val (V_add_i64 rfl rfl rfl (by omega) (by omega)) rfl rfl (.none rfl) ?_
            refine G_val (V_assign rfl rfl) rfl rfl (.none rfl) ?_
            refine G_end ?_
            refine X_block ?_
            refine X_then ?_
            exact G_again (t + 1) ⟨by omega, hgo2, fun j h1 h2 => by
              by_cases he : j = t + 1
              · rw [he, hpt, hpi, hsame]
              · exact hts j h1 (by omega)⟩ (by omega) ⟨rfl, rfl, rfl, rfl, rfl, rfl, rfl, rfl, rfl, rfl, rfl, rfl, rfl, trivial⟩ rfl rfl
          · have hrun : Run z5.prods i f t := ⟨⟨hf, hit, by omega⟩, hts, hlo, .inr (by rw [hpt, hpi]; exact hsame)⟩
            have hidx : f + t - i < ts.length := by omega
            have hst := htu.step hrun
            refine G_seq ?_
            refine G_seq ?_
            refine G_draw mixed (by kernel_rfl) ?_
            refine Q_val (V_move rfl rfl) rfl rfl (.none rfl) ?_
            refine Q_val (V_add_i64 rfl rfl rfl (by omega) (by omega)) rfl rfl (.none rfl) ?_
            refine Q_val (V_fieldAddr rfl rfl (by decide)) rfl rfl (.none rfl) ?_
            refine Q_val (V_load rfl rfl (Cell.own (.tail _ (.tail _ (.head _))) rfl)) rfl rfl (.none rfl) ?_
            refine Q_val (V_lenS rfl rfl) rfl rfl (.none rfl) ?_
            refine Q_val (V_lss rfl rfl rfl) rfl rfl (.none rfl) ?_
            refine Q_val (V_move rfl rfl) rfl rfl (.none rfl) ?_
            refine Q_bool_t 93 rfl (decide_eq_true (by omega)) ?_
            refine Q_val (V_fieldAddr rfl rfl (by decide)) rfl rfl (.yes rfl rfl rfl rfl) ?_
            refine Q_val (V_load rfl rfl (Cell.own (.tail _ (.tail _ (.head _))) rfl)) rfl rfl (.yes rfl rfl rfl rfl) ?_
            refine Q_val (V_move rfl rfl) rfl rfl (.yes rfl rfl rfl rfl) ?_
            refine Q_val (V_add_i64 rfl rfl rfl (by omega) (by omega)) rfl rfl (.yes rfl rfl rfl rfl) ?_
            refine Q_val (V_idxAddr rfl rfl rfl (SlE.rd (by assumption)) (by omega) (by omega)) rfl rfl (.yes rfl rfl rfl rfl) ?_
            refine Q_val (V_fieldAddrE rfl rfl (by assumption) (by omega) (by decide)) rfl rfl (.yes rfl rfl rfl rfl) ?_
            refine Q_val (V_loadS rfl rfl (SlE.rd (by assumption)) (by assumption) (by simp)) rfl rfl (.yes rfl rfl rfl rfl) ?_
            refine Q_val (V_fieldAddr rfl rfl (by decide)) rfl rfl (.yes rfl rfl rfl rfl) ?_
            refine Q_val (V_load rfl rfl (Cell.own (.tail _ (.tail _ (.head _))) rfl)) rfl rfl (.yes rfl rfl rfl rfl) ?_
            refine Q_val (V_move rfl rfl) rfl rfl (.yes rfl rfl rfl rfl) ?_
            refine Q_val (V_idxAddr rfl rfl rfl (SlE.rd (by assumption)) (by omega) (by omega)) rfl rfl (.yes rfl rfl rfl rfl) ?_
            refine Q_val (V_fieldAddrE rfl rfl (by assumption) (by omega) (by decide)) rfl rfl (.yes rfl rfl rfl rfl) ?_
            refine Q_val (V_loadS rfl rfl (SlE.rd (by assumption)) hyl (by simp)) rfl rfl (.yes rfl rfl rfl rfl) ?_
            refine Q_val (V_eql rfl rfl rfl) rfl rfl (.yes rfl rfl rfl rfl) ?_
            refine Q_val (V_pick_t rfl rfl rfl) rfl rfl (.none rfl) ?_
            refine Q_end ?_
            refine X_then ?_
            refine G_cond_f rfl (decide_eq_false (by omega)) ?_
            refine G_exit ?_
            refine X_then_exit ?_
            refine X_then_exit ?_
            refine X_block_hit ?_
            refine X_then ?_
            (refine G_drawT 13 mixed (by kernel_rfl) ?_; dsimp only [List.take, List.drop])
            refine Q_val (V_fieldAddr rfl rfl (by decide)) rfl rfl (.none rfl) ?_
            refine Q_val (V_load rfl rfl (Cell.own (.tail _ (.head _)) rfl)) rfl rfl (.none rfl) ?_
            refine Q_val (V_move rfl rfl) rfl rfl (.none rfl) ?_
            refine Q_val (V_move rfl rfl) rfl rfl (.none rfl) ?_
            refine Q_val (V_add_i64 rfl rfl rfl (by omega) (by omega)) rfl rfl (.none rfl) ?_
            refine Q_val (V_move rfl rfl) rfl rfl (.none rfl) ?_
            refine Q_val (V_sub_i64 rfl rfl rfl (by omega) (by omega)) rfl rfl (.none rfl) ?_
            refine Q_val (V_fieldAddr rfl rfl (by decide)) rfl rfl (.none rfl) ?_
            refine Q_val (V_load rfl rfl (Cell.own (.tail _ (.tail _ (.head _))) rfl)) rfl rfl (.none rfl) ?_
            refine Q_val (V_move rfl rfl) rfl rfl (.none rfl) ?_
            refine Q_val (V_idxAddr rfl rfl rfl (SlE.rd (by assumption)) (by omega) (by omega)) rfl rfl (.none rfl) ?_
            refine Q_val (V_loadAS rfl rfl (SlE.rd (by assumption)) (by assumption) (by simp) (by rfl)) rfl rfl (.none rfl) ?_
            refine Q_val (V_idxB rfl rfl rfl (by omega) (by omega)) rfl rfl (.none rfl) ?_
            refine Q_endT ?_
            have eix : ((f : Int) + t - i).toNat = f + t - i := by omega
            rw [eix]
            refine G_storeF (vs := [.int .i64 rows[i].2.2.1, .slice rows[i].1 rows[i].2.2.2.length rows[i].2.1]) rfl rfl rfl rfl (by simp [Value.oneCell']) rfl (.none rfl) (.head _ _ _) (by simp; omega) (putAll_prow rows[i] hidx) ?_
            refine G_end ?_
            refine X_block ?_
            refine X_then ?_
            refine G_region ?_
            refine G_val (V_move rfl rfl) rfl rfl (.none rfl) ?_
            refine G_val (V_add_i64 rfl rfl rfl (by omega) (by omega)) rfl rfl (.none rfl) ?_
            refine G_val (V_assign rfl rfl) rfl rfl (.none rfl) ?_
            refine G_end ?_
            refine X_then ?_
            refine G_again (i + 1, ts.set (f + t - i) rows[i]) ⟨hlt, ?_, ?_, by rw [List.length_set]; exact htl⟩ (by simp only; omega) ⟨rfl, rfl, rfl, rfl, rfl, rfl, rfl, rfl, rfl, rfl, rfl, trivial⟩ rfl rfl
            · rw [hpi] at hst
              simp only [List.map_set]
              exact hst
            · intro y hy
              rcases List.mem_or_eq_of_mem_set hy with h | h
              · exact hrt y h
              · rw [h]; exact hre _ (List.getElem_mem hlt)
        · have hrun : Run z5.prods i f t := ⟨⟨hf, hit, by omega⟩, hts, hlo, .inl (by omega)⟩
          have hidx : f + t - i < ts.length := by omega
          have hst := htu.step hrun
          refine G_seq ?_
          refine G_seq ?_
          refine G_draw mixed (by kernel_rfl) ?_
          refine Q_val (V_move rfl rfl) rfl rfl (.none rfl) ?_
          refine Q_val (V_add_i64 rfl rfl rfl (by omega) (by omega)) rfl rfl (.none rfl) ?_
          refine Q_val (V_fieldAddr rfl rfl (by decide)) rfl rfl (.none rfl) ?_
          refine Q_val (V_load rfl rfl (Cell.own (.tail _ (.tail _ (.head _))) rfl)) rfl rfl (.none rfl) ?_
          refine Q_val (V_lenS rfl rfl) rfl rfl (.none rfl) ?_
          refine Q_val (V_lss rfl rfl rfl) rfl rfl (.none rfl) ?_
          refine Q_val (V_move rfl rfl) rfl rfl (.none rfl) ?_
          refine Q_bool_f 93 rfl (decide_eq_false (by omega)) ?_
          refine Q_stay (.no rfl rfl rfl rfl) rfl rfl ?_
          refine Q_stay (.no rfl rfl rfl rfl) rfl rfl ?_
          refine Q_stay (.no rfl rfl rfl rfl) rfl rfl ?_
          refine Q_stay (.no rfl rfl rfl rfl) rfl rfl ?_
          refine Q_stay (.no rfl rfl rfl rfl) rfl rfl ?_
          refine Q_stay (.no rfl rfl rfl rfl) rfl rfl ?_
          refine Q_stay (.no rfl rfl rfl rfl) rfl rfl ?_
          refine Q_stay (.no rfl rfl rfl rfl) rfl rfl ?_
          refine Q_stay (.no rfl rfl rfl rfl) rfl rfl ?_
          refine Q_stay (.no rfl rfl rfl rfl) rfl rfl ?_
          refine Q_stay (.no rfl rfl rfl rfl) rfl rfl ?_
          refine Q_stay (.no rfl rfl rfl rfl) rfl rfl ?_
          refine Q_stay (.no rfl rfl rfl rfl) rfl rfl ?_
          refine Q_stay (.no rfl rfl rfl rfl) rfl rfl ?_
          refine Q_val (V_pick_f rfl rfl rfl) rfl rfl (.none rfl) ?_
          refine Q_end ?_
          refine X_then ?_
          refine G_cond_f rfl rfl ?_
          refine G_exit ?_
          refine X_then_exit ?_
          refine X_then_exit ?_
          refine X_block_hit ?_
          refine X_then ?_
          (refine G_drawT 13 mixed (by kernel_rfl) ?_; dsimp only [List.take, List.drop])
          refine Q_val (V_fieldAddr rfl rfl (by decide)) rfl rfl (.none rfl) ?_
          refine Q_val (V_load rfl rfl (Cell.own (.tail _ (.head _)) rfl)) rfl rfl (.none rfl) ?_
          refine Q_val (V_move rfl rfl) rfl rfl (.none rfl) ?_
          refine Q_val (V_move rfl rfl) rfl rfl (.none rfl) ?_
          refine Q_val (V_add_i64 rfl rfl rfl (by omega) (by omega)) rfl rfl (.none rfl) ?_
          refine Q_val (V_move rfl rfl) rfl rfl (.none rfl) ?_
          refine Q_val (V_sub_i64 rfl rfl rfl (by omega) (by omega)) rfl rfl (.none rfl) ?_
          refine Q_val (V_fieldAddr rfl rfl (by decide)) rfl rfl (.none rfl) ?_
          refine Q_val (V_load rfl rfl (Cell.own (.tail _ (.tail _ (.head _))) rfl)) rfl rfl (.none rfl) ?_
          refine Q_val (V_move rfl rfl) rfl rfl (.none rfl) ?_
          refine Q_val (V_idxAddr rfl rfl rfl (SlE.rd (by assumption)) (by omega) (by omega)) rfl rfl (.none rfl) ?_
          refine Q_val (V_loadAS rfl rfl (SlE.rd (by assumption)) (by assumption) (by simp) (by rfl)) rfl rfl (.none rfl) ?_
          refine Q_val (V_idxB rfl rfl rfl (by omega) (by omega)) rfl rfl (.none rfl) ?_
          refine Q_endT ?_
          have eix : ((f : Int) + t - i).toNat = f + t - i := by omega
          rw [eix]
          refine G_storeF (vs := [.int .i64 rows[i].2.2.1, .slice rows[i].1 rows[i].2.2.2.length rows[i].2.1]) rfl rfl rfl rfl (by simp [Value.oneCell']) rfl (.none rfl) (.head _ _ _) (by simp; omega) (putAll_prow rows[i] hidx) ?_
          refine G_end ?_
          refine X_block ?_
          refine X_then ?_
          refine G_region ?_
          refine G_val (V_move rfl rfl) rfl rfl (.none rfl) ?_
          refine G_val (V_add_i64 rfl rfl rfl (by omega) (by omega)) rfl rfl (.none rfl) ?_
          refine G_val (V_assign rfl rfl) rfl rfl (.none rfl) ?_
          refine G_end ?_
          refine X_then ?_
          refine G_again (i + 1, ts.set (f + t - i) rows[i]) ⟨hlt, ?_, ?_, by rw [List.length_set]; exact htl⟩ (by simp only; omega) ⟨rfl, rfl, rfl, rfl, rfl, rfl, rfl, rfl, rfl, rfl, rfl, trivial⟩ rfl rfl
          · rw [hpi] at hst
            simp only [List.map_set]
            exact hst
          · intro y hy
            rcases List.mem_or_eq_of_mem_set hy with h | h
            · exact hrt y h
            · rw [h]; exact hre _ (List.getElem_mem hlt)
  · have hi2 : i = rows.length := by omega
    subst hi2
    rw [← hlen] at htu
    obtain ⟨hlf, hmem⟩ := htu.done
    have hlen2 : (ts.map (·.2.2)).length = z5.prods.length := htu.1
    have hpl : z5.prods.length ≤ 24 := hv.prods
    have hck : gcheck (withP z5 (ts.map (·.2.2))) = 0 := check_withP hc (by omega) (fun p hp => hv.right p ((hmem p).1 hp)) (fun p hp => hv.wf.left p ((hmem p).1 hp)) (fun p hp => hv.syms p ((hmem p).1 hp)) (ords_lefts hlf (gcheck_ok hc).2.2.2.2.2.2.1) (fun p hp => ⟨p, (hmem p).2 hp, rfl⟩)
    have hv2 := valid_of hck
    obtain ⟨y1, y2, y3, y4, y5⟩ := same_tells hv hv2 hmem
    refine G.freeze (.head _ _) ?_
    intro E3 hE3 hok
    have hsl : SlE E3 2 (some ⟨g0, 0, none⟩) z5.prods.length (prows ts) := SlE.pre (r := tl) (T := 62) (fz := (0, 0)) (by rw [show (prows ts).toArray ++ tl.toArray = (prows ts ++ tl).toArray by simp]; exact hok) (by omega)
    have a1 : SlE E22 1 z25 z5.toks.length (strs z5.toks) := by assumption
    have a2 : SlE E22 1 z27 z5.names.length (strs z5.names) := by assumption
    have a3 : z5.toks.length ≤ z26 := by assumption
    have a4 : z5.names.length ≤ z28 := by assumption
    have wok : WOk E3 (.agg #[.int .i64 z5.k, .slice z25 z5.toks.length z26, .string (S z5.sep), .slice z27 z5.names.length z28, .int .i64 z5.start, .slice (some ⟨g0, 0, none⟩) z5.prods.length z30]) z5 (ts.map (·.2.2)) :=
      ⟨⟨z25, z26, z27, z28, some ⟨g0, 0, none⟩, z30, by rw [← hlen2]; rfl, a1.mono hE3, a2.mono hE3, ⟨ts, rfl, by show SlE E3 2 _ (ts.map (·.2.2)).length _; rw [hlen2]; exact hsl, hrt.mono hE3⟩, a3, a4, by show (ts.map (·.2.2)).length ≤ _; rw [hlen2]; exact hcap⟩,
        light_withP hl (by omega) fun p hp => hv.right p ((hmem p).1 hp), hck⟩
    replace hyy := hyy.mono hE3
    replace s1 := s1.mono hE3
    replace s2 := s2.mono hE3
    replace s3 := s3.mono hE3
    replace s4 := s4.mono hE3
    replace s5 := s5.mono hE3
    replace hps := hps.mono hE3
    replace ht := ht.mono hE3
    replace hnm := hnm.mono hE3
    replace hre := hre.mono hE3
    have hg1 : GrE E3 (.agg #[.int .i64 z5.k, .slice tp z5.toks.length tc, .string (S z5.sep), .slice np z5.names.length nc, .int .i64 z5.start, .slice pp z5.prods.length pc]) z5 := ⟨tp, tc, np, nc, pp, pc, rfl, ht, hnm, ⟨rows, hrows, hps, hre⟩, k1, k2, k3⟩
    clear hok a1 a2 hsl
    by_cases h24 : z5.prods.length = 24
    · refine G_seq ?_
      refine G_seq ?_
      refine G_region ?_
      refine G_val (V_move rfl rfl) rfl rfl (.none rfl) ?_
      refine G_val (V_fieldAddr rfl rfl (by decide)) rfl rfl (.none rfl) ?_
      refine G_val (V_load rfl rfl (Cell.own (.tail _ (.head _)) rfl)) rfl rfl (.none rfl) ?_
      refine G_val (V_lenS rfl rfl) rfl rfl (.none rfl) ?_
      refine G_val (V_lss rfl rfl rfl) rfl rfl (.none rfl) ?_
      refine G_end ?_
      refine X_then ?_
      refine G_cond_f rfl (decide_eq_false (by omega)) ?_
      refine G_exit ?_
      refine X_then_exit ?_
      refine X_then_exit ?_
      refine X_block_hit ?_
      refine X_then ?_
      refine G_seq ?_
      refine G_region ?_
      refine G_val (V_loadA rfl rfl (Cells.own (.head _)) rfl) rfl rfl (.none rfl) ?_
      refine G_call (k := 54) (.mk rfl rfl rfl rfl) rfl rfl (.none rfl) (tellsW_call _ _ _ _ _ (by first | assumption | exact SlE.toI (by assumption) rfl | exact SlE.toS (by assumption) rfl | exact SlE.toT (by assumption) rfl | exact SlE.toB (by assumption) rfl | exact SlE.nilT | exact (rfl : (_ : Option _) = some _) | exact .head _ | exact .tail _ (.head _) | exact .tail _ (.tail _ (.head _)) | exact .tail _ (.tail _ (.tail _ (.head _))) | exact .tail _ (.tail _ (.tail _ (.tail _ (.head _)))) | exact .tail _ (.tail _ (.tail _ (.tail _ (.tail _ (.head _))))) | exact .tail _ (.tail _ (.tail _ (.tail _ (.tail _ (.tail _ (.head _)))))) | exact .tail _ (.tail _ (.tail _ (.tail _ (.tail _ (.tail _ (.tail _ (.head _))))))) | exact .tail _ (.tail _ (.tail _ (.tail _ (.tail _ (.tail _ (.tail _ (.tail _ (.head _)))))))) | omega | (simp; omega) | (simp; done) | exact (by kernel_rfl : (_ : Bool) = _))) ?_
      rintro r1 E4 L5 hE6 ⟨z16, ⟨z17, ⟨z18, ⟨z19, ⟨z20, ⟨z21, ⟨z22, ⟨z23, ⟨z24, ⟨z29, ⟨rfl, ⟨Z30, ⟨Z31, ⟨Z38, ⟨Z39, ⟨Z40, rfl⟩⟩⟩⟩⟩⟩⟩⟩⟩⟩⟩⟩⟩⟩⟩⟩
      replace hyy := hyy.mono hE6
      replace s1 := s1.mono hE6
      replace s2 := s2.mono hE6
      replace s3 := s3.mono hE6
      replace s4 := s4.mono hE6
      replace s5 := s5.mono hE6
      replace hps := hps.mono hE6
      replace ht := ht.mono hE6
      replace hnm := hnm.mono hE6
      replace hg1 := hg1.mono hE6
      refine G_val (V_move rfl rfl) rfl rfl (.none rfl) ?_
      refine G_val (V_extract rfl rfl rfl) rfl rfl (.none rfl) ?_
      refine G_val (V_extract rfl rfl rfl) rfl rfl (.none rfl) ?_
      refine G_val (V_extract rfl rfl rfl) rfl rfl (.none rfl) ?_
      refine G_val (V_extract rfl rfl rfl) rfl rfl (.none rfl) ?_
      refine G_val (V_extract rfl rfl rfl) rfl rfl (.none rfl) ?_
      refine G_val (V_extract rfl rfl rfl) rfl rfl (.none rfl) ?_
      refine G_val (V_assign rfl rfl) rfl rfl (.none rfl) ?_
      refine G_val (V_assign rfl rfl) rfl rfl (.none rfl) ?_
      refine G_val (V_assign rfl rfl) rfl rfl (.none rfl) ?_
      refine G_val (V_assign rfl rfl) rfl rfl (.none rfl) ?_
      refine G_val (V_assign rfl rfl) rfl rfl (.none rfl) ?_
      refine G_val (V_assign rfl rfl) rfl rfl (.none rfl) ?_
      refine G_end ?_
      refine X_then ?_
      refine G_seq ?_
      refine G_seq ?_
      refine G_region ?_
      refine G_val (V_move rfl rfl) rfl rfl (.none rfl) ?_
      refine G_val (V_not rfl rfl) rfl rfl (.none rfl) ?_
      refine G_val (V_move rfl rfl) rfl rfl (.none rfl) ?_
      refine G.bool_f 135 rfl (by kernel_rfl) ?_
      refine G_val (V_move rfl rfl) rfl rfl (.yes rfl rfl rfl rfl) ?_
      refine G_val (V_move rfl rfl) rfl rfl (.yes rfl rfl rfl rfl) ?_
      refine G_callv (k := 35) (.mk rfl rfl rfl rfl) rfl rfl (.yes rfl rfl rfl rfl) (same_call _ _ _ _ _ _ _ _ _ _ (by first | assumption | exact SlE.toI (by assumption) rfl | exact SlE.toS (by assumption) rfl | exact SlE.toT (by assumption) rfl | exact SlE.toB (by assumption) rfl | exact SlE.nilT | exact (rfl : (_ : Option _) = some _) | exact .head _ | exact .tail _ (.head _) | exact .tail _ (.tail _ (.head _)) | exact .tail _ (.tail _ (.tail _ (.head _))) | exact .tail _ (.tail _ (.tail _ (.tail _ (.head _)))) | exact .tail _ (.tail _ (.tail _ (.tail _ (.tail _ (.head _))))) | exact .tail _ (.tail _ (.tail _ (.tail _ (.tail _ (.tail _ (.head _)))))) | exact .tail _ (.tail _ (.tail _ (.tail _ (.tail _ (.tail _ (.tail _ (.head _))))))) | exact .tail _ (.tail _ (.tail _ (.tail _ (.tail _ (.tail _ (.tail _ (.tail _ (.head _)))))))) | omega | (simp; omega) | (simp; done) | exact (by kernel_rfl : (_ : Bool) = _)) (by first | assumption | exact SlE.toI (by assumption) rfl | exact SlE.toS (by assumption) rfl | exact SlE.toT (by assumption) rfl | exact SlE.toB (by assumption) rfl | exact SlE.nilT | exact (rfl : (_ : Option _) = some _) | exact .head _ | exact .tail _ (.head _) | exact .tail _ (.tail _ (.head _)) | exact .tail _ (.tail _ (.tail _ (.head _))) | exact .tail _ (.tail _ (.tail _ (.tail _ (.head _)))) | exact .tail _ (.tail _ (.tail _ (.tail _ (.tail _ (.head _))))) | exact .tail _ (.tail _ (.tail _ (.tail _ (.tail _ (.tail _ (.head _)))))) | exact .tail _ (.tail _ (.tail _ (.tail _ (.tail _ (.tail _ (.tail _ (.head _))))))) | exact .tail _ (.tail _ (.tail _ (.tail _ (.tail _ (.tail _ (.tail _ (.tail _ (.head _)))))))) | omega | (simp; omega) | (simp; done) | exact (by kernel_rfl : (_ : Bool) = _)) (by first | assumption | exact SlE.toI (by assumption) rfl | exact SlE.toS (by assumption) rfl | exact SlE.toT (by assumption) rfl | exact SlE.toB (by assumption) rfl | exact SlE.nilT | exact (rfl : (_ : Option _) = some _) | exact .head _ | exact .tail _ (.head _) | exact .tail _ (.tail _ (.head _)) | exact .tail _ (.tail _ (.tail _ (.head _))) | exact .tail _ (.tail _ (.tail _ (.tail _ (.head _)))) | exact .tail _ (.tail _ (.tail _ (.tail _ (.tail _ (.head _))))) | exact .tail _ (.tail _ (.tail _ (.tail _ (.tail _ (.tail _ (.head _)))))) | exact .tail _ (.tail _ (.tail _ (.tail _ (.tail _ (.tail _ (.tail _ (.head _))))))) | exact .tail _ (.tail _ (.tail _ (.tail _ (.tail _ (.tail _ (.tail _ (.tail _ (.head _)))))))) | omega | (simp; omega) | (simp; done) | exact (by kernel_rfl : (_ : Bool) = _)) (by first | assumption | exact SlE.toI (by assumption) rfl | exact SlE.toS (by assumption) rfl | exact SlE.toT (by assumption) rfl | exact SlE.toB (by assumption) rfl | exact SlE.nilT | exact (rfl : (_ : Option _) = some _) | exact .head _ | exact .tail _ (.head _) | exact .tail _ (.tail _ (.head _)) | exact .tail _ (.tail _ (.tail _ (.head _))) | exact .tail _ (.tail _ (.tail _ (.tail _ (.head _)))) | exact .tail _ (.tail _ (.tail _ (.tail _ (.tail _ (.head _))))) | exact .tail _ (.tail _ (.tail _ (.tail _ (.tail _ (.tail _ (.head _)))))) | exact .tail _ (.tail _ (.tail _ (.tail _ (.tail _ (.tail _ (.tail _ (.head _))))))) | exact .tail _ (.tail _ (.tail _ (.tail _ (.tail _ (.tail _ (.tail _ (.tail _ (.head _)))))))) | omega | (simp; omega) | (simp; done) | exact (by kernel_rfl : (_ : Bool) = _))) ?_
      refine G_val (V_not rfl rfl) rfl rfl (.yes rfl rfl rfl rfl) ?_
      refine G_val (V_pick_f rfl rfl rfl) rfl rfl (.none rfl) ?_
      refine G_val (V_move rfl rfl) rfl rfl (.none rfl) ?_
      refine G.bool_f 141 rfl (by simp [*]; done) ?_
      refine G_val (V_move rfl rfl) rfl rfl (.yes rfl rfl rfl rfl) ?_
      refine G_val (V_move rfl rfl) rfl rfl (.yes rfl rfl rfl rfl) ?_
      refine G_callv (k := 35) (.mk rfl rfl rfl rfl) rfl rfl (.yes rfl rfl rfl rfl) (same_call _ _ _ _ _ _ _ _ _ _ (by first | assumption | exact SlE.toI (by assumption) rfl | exact SlE.toS (by assumption) rfl | exact SlE.toT (by assumption) rfl | exact SlE.toB (by assumption) rfl | exact SlE.nilT | exact (rfl : (_ : Option _) = some _) | exact .head _ | exact .tail _ (.head _) | exact .tail _ (.tail _ (.head _)) | exact .tail _ (.tail _ (.tail _ (.head _))) | exact .tail _ (.tail _ (.tail _ (.tail _ (.head _)))) | exact .tail _ (.tail _ (.tail _ (.tail _ (.tail _ (.head _))))) | exact .tail _ (.tail _ (.tail _ (.tail _ (.tail _ (.tail _ (.head _)))))) | exact .tail _ (.tail _ (.tail _ (.tail _ (.tail _ (.tail _ (.tail _ (.head _))))))) | exact .tail _ (.tail _ (.tail _ (.tail _ (.tail _ (.tail _ (.tail _ (.tail _ (.head _)))))))) | omega | (simp; omega) | (simp; done) | exact (by kernel_rfl : (_ : Bool) = _)) (by first | assumption | exact SlE.toI (by assumption) rfl | exact SlE.toS (by assumption) rfl | exact SlE.toT (by assumption) rfl | exact SlE.toB (by assumption) rfl | exact SlE.nilT | exact (rfl : (_ : Option _) = some _) | exact .head _ | exact .tail _ (.head _) | exact .tail _ (.tail _ (.head _)) | exact .tail _ (.tail _ (.tail _ (.head _))) | exact .tail _ (.tail _ (.tail _ (.tail _ (.head _)))) | exact .tail _ (.tail _ (.tail _ (.tail _ (.tail _ (.head _))))) | exact .tail _ (.tail _ (.tail _ (.tail _ (.tail _ (.tail _ (.head _)))))) | exact .tail _ (.tail _ (.tail _ (.tail _ (.tail _ (.tail _ (.tail _ (.head _))))))) | exact .tail _ (.tail _ (.tail _ (.tail _ (.tail _ (.tail _ (.tail _ (.tail _ (.head _)))))))) | omega | (simp; omega) | (simp; done) | exact (by kernel_rfl : (_ : Bool) = _)) (by first | assumption | exact SlE.toI (by assumption) rfl | exact SlE.toS (by assumption) rfl | exact SlE.toT (by assumption) rfl | exact SlE.toB (by assumption) rfl | exact SlE.nilT | exact (rfl : (_ : Option _) = some _) | exact .head _ | exact .tail _ (.head _) | exact .tail _ (.tail _ (.head _)) | exact .tail _ (.tail _ (.tail _ (.head _))) | exact .tail _ (.tail _ (.tail _ (.tail _ (.head _)))) | exact .tail _ (.tail _ (.tail _ (.tail _ (.tail _ (.head _))))) | exact .tail _ (.tail _ (.tail _ (.tail _ (.tail _ (.tail _ (.head _)))))) | exact .tail _ (.tail _ (.tail _ (.tail _ (.tail _ (.tail _ (.tail _ (.head _))))))) | exact .tail _ (.tail _ (.tail _ (.tail _ (.tail _ (.tail _ (.tail _ (.tail _ (.head _)))))))) | omega | (simp; omega) | (simp; done) | exact (by kernel_rfl : (_ : Bool) = _)) (by first | assumption | exact SlE.toI (by assumption) rfl | exact SlE.toS (by assumption) rfl | exact SlE.toT (by assumption) rfl | exact SlE.toB (by assumption) rfl | exact SlE.nilT | exact (rfl : (_ : Option _) = some _) | exact .head _ | exact .tail _ (.head _) | exact .tail _ (.tail _ (.head _)) | exact .tail _ (.tail _ (.tail _ (.head _))) | exact .tail _ (.tail _ (.tail _ (.tail _ (.head _)))) | exact .tail _ (.tail _ (.tail _ (.tail _ (.tail _ (.head _))))) | exact .tail _ (.tail _ (.tail _ (.tail _ (.tail _ (.tail _ (.head _)))))) | exact .tail _ (.tail _ (.tail _ (.tail _ (.tail _ (.tail _ (.tail _ (.head _))))))) | exact .tail _ (.tail _ (.tail _ (.tail _ (.tail _ (.tail _ (.tail _ (.tail _ (.head _)))))))) | omega | (simp; omega) | (simp; done) | exact (by kernel_rfl : (_ : Bool) = _))) ?_
      refine G_val (V_not rfl rfl) rfl rfl (.yes rfl rfl rfl rfl) ?_
      refine G_val (V_pick_f rfl rfl rfl) rfl rfl (.none rfl) ?_
      refine G_val (V_move rfl rfl) rfl rfl (.none rfl) ?_
      refine G.bool_f 147 rfl (by simp [*]; done) ?_
      refine G_val (V_move rfl rfl) rfl rfl (.yes rfl rfl rfl rfl) ?_
      refine G_val (V_move rfl rfl) rfl rfl (.yes rfl rfl rfl rfl) ?_
      refine G_callv (k := 35) (.mk rfl rfl rfl rfl) rfl rfl (.yes rfl rfl rfl rfl) (same_call _ _ _ _ _ _ _ _ _ _ (by first | assumption | exact SlE.toI (by assumption) rfl | exact SlE.toS (by assumption) rfl | exact SlE.toT (by assumption) rfl | exact SlE.toB (by assumption) rfl | exact SlE.nilT | exact (rfl : (_ : Option _) = some _) | exact .head _ | exact .tail _ (.head _) | exact .tail _ (.tail _ (.head _)) | exact .tail _ (.tail _ (.tail _ (.head _))) | exact .tail _ (.tail _ (.tail _ (.tail _ (.head _)))) | exact .tail _ (.tail _ (.tail _ (.tail _ (.tail _ (.head _))))) | exact .tail _ (.tail _ (.tail _ (.tail _ (.tail _ (.tail _ (.head _)))))) | exact .tail _ (.tail _ (.tail _ (.tail _ (.tail _ (.tail _ (.tail _ (.head _))))))) | exact .tail _ (.tail _ (.tail _ (.tail _ (.tail _ (.tail _ (.tail _ (.tail _ (.head _)))))))) | omega | (simp; omega) | (simp; done) | exact (by kernel_rfl : (_ : Bool) = _)) (by first | assumption | exact SlE.toI (by assumption) rfl | exact SlE.toS (by assumption) rfl | exact SlE.toT (by assumption) rfl | exact SlE.toB (by assumption) rfl | exact SlE.nilT | exact (rfl : (_ : Option _) = some _) | exact .head _ | exact .tail _ (.head _) | exact .tail _ (.tail _ (.head _)) | exact .tail _ (.tail _ (.tail _ (.head _))) | exact .tail _ (.tail _ (.tail _ (.tail _ (.head _)))) | exact .tail _ (.tail _ (.tail _ (.tail _ (.tail _ (.head _))))) | exact .tail _ (.tail _ (.tail _ (.tail _ (.tail _ (.tail _ (.head _)))))) | exact .tail _ (.tail _ (.tail _ (.tail _ (.tail _ (.tail _ (.tail _ (.head _))))))) | exact .tail _ (.tail _ (.tail _ (.tail _ (.tail _ (.tail _ (.tail _ (.tail _ (.head _)))))))) | omega | (simp; omega) | (simp; done) | exact (by kernel_rfl : (_ : Bool) = _)) (by first | assumption | exact SlE.toI (by assumption) rfl | exact SlE.toS (by assumption) rfl | exact SlE.toT (by assumption) rfl | exact SlE.toB (by assumption) rfl | exact SlE.nilT | exact (rfl : (_ : Option _) = some _) | exact .head _ | exact .tail _ (.head _) | exact .tail _ (.tail _ (.head _)) | exact .tail _ (.tail _ (.tail _ (.head _))) | exact .tail _ (.tail _ (.tail _ (.tail _ (.head _)))) | exact .tail _ (.tail _ (.tail _ (.tail _ (.tail _ (.head _))))) | exact .tail _ (.tail _ (.tail _ (.tail _ (.tail _ (.tail _ (.head _)))))) | exact .tail _ (.tail _ (.tail _ (.tail _ (.tail _ (.tail _ (.tail _ (.head _))))))) | exact .tail _ (.tail _ (.tail _ (.tail _ (.tail _ (.tail _ (.tail _ (.tail _ (.head _)))))))) | omega | (simp; omega) | (simp; done) | exact (by kernel_rfl : (_ : Bool) = _)) (by first | assumption | exact SlE.toI (by assumption) rfl | exact SlE.toS (by assumption) rfl | exact SlE.toT (by assumption) rfl | exact SlE.toB (by assumption) rfl | exact SlE.nilT | exact (rfl : (_ : Option _) = some _) | exact .head _ | exact .tail _ (.head _) | exact .tail _ (.tail _ (.head _)) | exact .tail _ (.tail _ (.tail _ (.head _))) | exact .tail _ (.tail _ (.tail _ (.tail _ (.head _)))) | exact .tail _ (.tail _ (.tail _ (.tail _ (.tail _ (.head _))))) | exact .tail _ (.tail _ (.tail _ (.tail _ (.tail _ (.tail _ (.head _)))))) | exact .tail _ (.tail _ (.tail _ (.tail _ (.tail _ (.tail _ (.tail _ (.head _))))))) | exact .tail _ (.tail _ (.tail _ (.tail _ (.tail _ (.tail _ (.tail _ (.tail _ (.head _)))))))) | omega | (simp; omega) | (simp; done) | exact (by kernel_rfl : (_ : Bool) = _))) ?_
      refine G_val (V_not rfl rfl) rfl rfl (.yes rfl rfl rfl rfl) ?_
      refine G_val (V_pick_f rfl rfl rfl) rfl rfl (.none rfl) ?_
      refine G_val (V_move rfl rfl) rfl rfl (.none rfl) ?_
      refine G.bool_f 153 rfl (by simp [*]; done) ?_
      refine G_val (V_move rfl rfl) rfl rfl (.yes rfl rfl rfl rfl) ?_
      refine G_val (V_move rfl rfl) rfl rfl (.yes rfl rfl rfl rfl) ?_
      refine G_callv (k := 27) (.mk rfl rfl rfl rfl) rfl rfl (.yes rfl rfl rfl rfl) (SameInts_call' _ _ _ _ _ _ _ _ _ _ (by first | assumption | exact SlE.toI (by assumption) rfl | exact SlE.toS (by assumption) rfl | exact SlE.toT (by assumption) rfl | exact SlE.toB (by assumption) rfl | exact SlE.nilT | exact (rfl : (_ : Option _) = some _) | exact .head _ | exact .tail _ (.head _) | exact .tail _ (.tail _ (.head _)) | exact .tail _ (.tail _ (.tail _ (.head _))) | exact .tail _ (.tail _ (.tail _ (.tail _ (.head _)))) | exact .tail _ (.tail _ (.tail _ (.tail _ (.tail _ (.head _))))) | exact .tail _ (.tail _ (.tail _ (.tail _ (.tail _ (.tail _ (.head _)))))) | exact .tail _ (.tail _ (.tail _ (.tail _ (.tail _ (.tail _ (.tail _ (.head _))))))) | exact .tail _ (.tail _ (.tail _ (.tail _ (.tail _ (.tail _ (.tail _ (.tail _ (.head _)))))))) | omega | (simp; omega) | (simp; done) | exact (by kernel_rfl : (_ : Bool) = _)) (by first | assumption | exact SlE.toI (by assumption) rfl | exact SlE.toS (by assumption) rfl | exact SlE.toT (by assumption) rfl | exact SlE.toB (by assumption) rfl | exact SlE.nilT | exact (rfl : (_ : Option _) = some _) | exact .head _ | exact .tail _ (.head _) | exact .tail _ (.tail _ (.head _)) | exact .tail _ (.tail _ (.tail _ (.head _))) | exact .tail _ (.tail _ (.tail _ (.tail _ (.head _)))) | exact .tail _ (.tail _ (.tail _ (.tail _ (.tail _ (.head _))))) | exact .tail _ (.tail _ (.tail _ (.tail _ (.tail _ (.tail _ (.head _)))))) | exact .tail _ (.tail _ (.tail _ (.tail _ (.tail _ (.tail _ (.tail _ (.head _))))))) | exact .tail _ (.tail _ (.tail _ (.tail _ (.tail _ (.tail _ (.tail _ (.tail _ (.head _)))))))) | omega | (simp; omega) | (simp; done) | exact (by kernel_rfl : (_ : Bool) = _)) (by first | assumption | exact SlE.toI (by assumption) rfl | exact SlE.toS (by assumption) rfl | exact SlE.toT (by assumption) rfl | exact SlE.toB (by assumption) rfl | exact SlE.nilT | exact (rfl : (_ : Option _) = some _) | exact .head _ | exact .tail _ (.head _) | exact .tail _ (.tail _ (.head _)) | exact .tail _ (.tail _ (.tail _ (.head _))) | exact .tail _ (.tail _ (.tail _ (.tail _ (.head _)))) | exact .tail _ (.tail _ (.tail _ (.tail _ (.tail _ (.head _))))) | exact .tail _ (.tail _ (.tail _ (.tail _ (.tail _ (.tail _ (.head _)))))) | exact .tail _ (.tail _ (.tail _ (.tail _ (.tail _ (.tail _ (.tail _ (.head _))))))) | exact .tail _ (.tail _ (.tail _ (.tail _ (.tail _ (.tail _ (.tail _ (.tail _ (.head _)))))))) | omega | (simp; omega) | (simp; done) | exact (by kernel_rfl : (_ : Bool) = _)) (by first | assumption | exact SlE.toI (by assumption) rfl | exact SlE.toS (by assumption) rfl | exact SlE.toT (by assumption) rfl | exact SlE.toB (by assumption) rfl | exact SlE.nilT | exact (rfl : (_ : Option _) = some _) | exact .head _ | exact .tail _ (.head _) | exact .tail _ (.tail _ (.head _)) | exact .tail _ (.tail _ (.tail _ (.head _))) | exact .tail _ (.tail _ (.tail _ (.tail _ (.head _)))) | exact .tail _ (.tail _ (.tail _ (.tail _ (.tail _ (.head _))))) | exact .tail _ (.tail _ (.tail _ (.tail _ (.tail _ (.tail _ (.head _)))))) | exact .tail _ (.tail _ (.tail _ (.tail _ (.tail _ (.tail _ (.tail _ (.head _))))))) | exact .tail _ (.tail _ (.tail _ (.tail _ (.tail _ (.tail _ (.tail _ (.tail _ (.head _)))))))) | omega | (simp; omega) | (simp; done) | exact (by kernel_rfl : (_ : Bool) = _))) ?_
      refine G_val (V_not rfl rfl) rfl rfl (.yes rfl rfl rfl rfl) ?_
      refine G_val (V_pick_f rfl rfl rfl) rfl rfl (.none rfl) ?_
      refine G_val (V_move rfl rfl) rfl rfl (.none rfl) ?_
      refine G.bool_f 159 rfl (by simp [*]; done) ?_
      refine G_val (V_move rfl rfl) rfl rfl (.yes rfl rfl rfl rfl) ?_
      refine G_val (V_move rfl rfl) rfl rfl (.yes rfl rfl rfl rfl) ?_
      refine G_callv (k := 27) (.mk rfl rfl rfl rfl) rfl rfl (.yes rfl rfl rfl rfl) (SameInts_call' _ _ _ _ _ _ _ _ _ _ (by first | assumption | exact SlE.toI (by assumption) rfl | exact SlE.toS (by assumption) rfl | exact SlE.toT (by assumption) rfl | exact SlE.toB (by assumption) rfl | exact SlE.nilT | exact (rfl : (_ : Option _) = some _) | exact .head _ | exact .tail _ (.head _) | exact .tail _ (.tail _ (.head _)) | exact .tail _ (.tail _ (.tail _ (.head _))) | exact .tail _ (.tail _ (.tail _ (.tail _ (.head _)))) | exact .tail _ (.tail _ (.tail _ (.tail _ (.tail _ (.head _))))) | exact .tail _ (.tail _ (.tail _ (.tail _ (.tail _ (.tail _ (.head _)))))) | exact .tail _ (.tail _ (.tail _ (.tail _ (.tail _ (.tail _ (.tail _ (.head _))))))) | exact .tail _ (.tail _ (.tail _ (.tail _ (.tail _ (.tail _ (.tail _ (.tail _ (.head _)))))))) | omega | (simp; omega) | (simp; done) | exact (by kernel_rfl : (_ : Bool) = _)) (by first | assumption | exact SlE.toI (by assumption) rfl | exact SlE.toS (by assumption) rfl | exact SlE.toT (by assumption) rfl | exact SlE.toB (by assumption) rfl | exact SlE.nilT | exact (rfl : (_ : Option _) = some _) | exact .head _ | exact .tail _ (.head _) | exact .tail _ (.tail _ (.head _)) | exact .tail _ (.tail _ (.tail _ (.head _))) | exact .tail _ (.tail _ (.tail _ (.tail _ (.head _)))) | exact .tail _ (.tail _ (.tail _ (.tail _ (.tail _ (.head _))))) | exact .tail _ (.tail _ (.tail _ (.tail _ (.tail _ (.tail _ (.head _)))))) | exact .tail _ (.tail _ (.tail _ (.tail _ (.tail _ (.tail _ (.tail _ (.head _))))))) | exact .tail _ (.tail _ (.tail _ (.tail _ (.tail _ (.tail _ (.tail _ (.tail _ (.head _)))))))) | omega | (simp; omega) | (simp; done) | exact (by kernel_rfl : (_ : Bool) = _)) (by first | assumption | exact SlE.toI (by assumption) rfl | exact SlE.toS (by assumption) rfl | exact SlE.toT (by assumption) rfl | exact SlE.toB (by assumption) rfl | exact SlE.nilT | exact (rfl : (_ : Option _) = some _) | exact .head _ | exact .tail _ (.head _) | exact .tail _ (.tail _ (.head _)) | exact .tail _ (.tail _ (.tail _ (.head _))) | exact .tail _ (.tail _ (.tail _ (.tail _ (.head _)))) | exact .tail _ (.tail _ (.tail _ (.tail _ (.tail _ (.head _))))) | exact .tail _ (.tail _ (.tail _ (.tail _ (.tail _ (.tail _ (.head _)))))) | exact .tail _ (.tail _ (.tail _ (.tail _ (.tail _ (.tail _ (.tail _ (.head _))))))) | exact .tail _ (.tail _ (.tail _ (.tail _ (.tail _ (.tail _ (.tail _ (.tail _ (.head _)))))))) | omega | (simp; omega) | (simp; done) | exact (by kernel_rfl : (_ : Bool) = _)) (by first | assumption | exact SlE.toI (by assumption) rfl | exact SlE.toS (by assumption) rfl | exact SlE.toT (by assumption) rfl | exact SlE.toB (by assumption) rfl | exact SlE.nilT | exact (rfl : (_ : Option _) = some _) | exact .head _ | exact .tail _ (.head _) | exact .tail _ (.tail _ (.head _)) | exact .tail _ (.tail _ (.tail _ (.head _))) | exact .tail _ (.tail _ (.tail _ (.tail _ (.head _)))) | exact .tail _ (.tail _ (.tail _ (.tail _ (.tail _ (.head _))))) | exact .tail _ (.tail _ (.tail _ (.tail _ (.tail _ (.tail _ (.head _)))))) | exact .tail _ (.tail _ (.tail _ (.tail _ (.tail _ (.tail _ (.tail _ (.head _))))))) | exact .tail _ (.tail _ (.tail _ (.tail _ (.tail _ (.tail _ (.tail _ (.tail _ (.head _)))))))) | omega | (simp; omega) | (simp; done) | exact (by kernel_rfl : (_ : Bool) = _))) ?_
      refine G_val (V_not rfl rfl) rfl rfl (.yes rfl rfl rfl rfl) ?_
      refine G_val (V_pick_f rfl rfl rfl) rfl rfl (.none rfl) ?_
      refine G_end ?_
      refine X_then ?_
      refine G_cond_f rfl (by simp [*]; done) ?_
      refine G_skip ?_
      refine X_then ?_
      refine G_seq ?_
      refine G_seq ?_
      refine G_region ?_
      refine G_val (V_fieldAddr rfl rfl (by decide)) rfl rfl (.none rfl) ?_
      refine G_val (V_load rfl rfl (Cell.own (.tail _ (.head _)) rfl)) rfl rfl (.none rfl) ?_
      refine G_val (V_lenS rfl rfl) rfl rfl (.none rfl) ?_
      refine G_val (V_eql rfl rfl rfl) rfl rfl (.none rfl) ?_
      refine G_end ?_
      refine X_then ?_
      refine G_cond_t rfl (decide_eq_true (by omega)) ?_
      refine G_seq ?_
      refine G_region ?_
      refine G_val (V_move rfl rfl) rfl rfl (.none rfl) ?_
      refine G_val (V_assign rfl rfl) rfl rfl (.none rfl) ?_
      refine G_end ?_
      refine X_then ?_
      refine G_ret ?_
      refine X_then_ret ?_
      refine G_leaveS (.drop _ (.drop _ (.nil _))) (by exact (.cons (.tmp rfl) (.nil))) rfl ?_ ?_
      · exact ((((hE4.trans hE5).trans hE24).trans hE3).trans hE6)
      exact ⟨(by kernel_rfl), rfl⟩
    · refine G_seq ?_
      refine G_seq ?_
      refine G_region ?_
      refine G_val (V_move rfl rfl) rfl rfl (.none rfl) ?_
      refine G_val (V_fieldAddr rfl rfl (by decide)) rfl rfl (.none rfl) ?_
      refine G_val (V_load rfl rfl (Cell.own (.tail _ (.head _)) rfl)) rfl rfl (.none rfl) ?_
      refine G_val (V_lenS rfl rfl) rfl rfl (.none rfl) ?_
      refine G_val (V_lss rfl rfl rfl) rfl rfl (.none rfl) ?_
      refine G_end ?_
      refine X_then ?_
      refine G_cond_f rfl (decide_eq_false (by omega)) ?_
      refine G_exit ?_
      refine X_then_exit ?_
      refine X_then_exit ?_
      refine X_block_hit ?_
      refine X_then ?_
      refine G_seq ?_
      refine G_region ?_
      refine G_val (V_loadA rfl rfl (Cells.own (.head _)) rfl) rfl rfl (.none rfl) ?_
      refine G_call (k := 54) (.mk rfl rfl rfl rfl) rfl rfl (.none rfl) (tellsW_call _ _ _ _ _ (by first | assumption | exact SlE.toI (by assumption) rfl | exact SlE.toS (by assumption) rfl | exact SlE.toT (by assumption) rfl | exact SlE.toB (by assumption) rfl | exact SlE.nilT | exact (rfl : (_ : Option _) = some _) | exact .head _ | exact .tail _ (.head _) | exact .tail _ (.tail _ (.head _)) | exact .tail _ (.tail _ (.tail _ (.head _))) | exact .tail _ (.tail _ (.tail _ (.tail _ (.head _)))) | exact .tail _ (.tail _ (.tail _ (.tail _ (.tail _ (.head _))))) | exact .tail _ (.tail _ (.tail _ (.tail _ (.tail _ (.tail _ (.head _)))))) | exact .tail _ (.tail _ (.tail _ (.tail _ (.tail _ (.tail _ (.tail _ (.head _))))))) | exact .tail _ (.tail _ (.tail _ (.tail _ (.tail _ (.tail _ (.tail _ (.tail _ (.head _)))))))) | omega | (simp; omega) | (simp; done) | exact (by kernel_rfl : (_ : Bool) = _))) ?_
      rintro r1 E4 L5 hE6 ⟨z16, ⟨z17, ⟨z18, ⟨z19, ⟨z20, ⟨z21, ⟨z22, ⟨z23, ⟨z24, ⟨z29, ⟨rfl, ⟨Z30, ⟨Z31, ⟨Z38, ⟨Z39, ⟨Z40, rfl⟩⟩⟩⟩⟩⟩⟩⟩⟩⟩⟩⟩⟩⟩⟩⟩
      replace hyy := hyy.mono hE6
      replace s1 := s1.mono hE6
      replace s2 := s2.mono hE6
      replace s3 := s3.mono hE6
      replace s4 := s4.mono hE6
      replace s5 := s5.mono hE6
      replace hps := hps.mono hE6
      replace ht := ht.mono hE6
      replace hnm := hnm.mono hE6
      replace hg1 := hg1.mono hE6
      refine G_val (V_move rfl rfl) rfl rfl (.none rfl) ?_
      refine G_val (V_extract rfl rfl rfl) rfl rfl (.none rfl) ?_
      refine G_val (V_extract rfl rfl rfl) rfl rfl (.none rfl) ?_
      refine G_val (V_extract rfl rfl rfl) rfl rfl (.none rfl) ?_
      refine G_val (V_extract rfl rfl rfl) rfl rfl (.none rfl) ?_
      refine G_val (V_extract rfl rfl rfl) rfl rfl (.none rfl) ?_
      refine G_val (V_extract rfl rfl rfl) rfl rfl (.none rfl) ?_
      refine G_val (V_assign rfl rfl) rfl rfl (.none rfl) ?_
      refine G_val (V_assign rfl rfl) rfl rfl (.none rfl) ?_
      refine G_val (V_assign rfl rfl) rfl rfl (.none rfl) ?_
      refine G_val (V_assign rfl rfl) rfl rfl (.none rfl) ?_
      refine G_val (V_assign rfl rfl) rfl rfl (.none rfl) ?_
      refine G_val (V_assign rfl rfl) rfl rfl (.none rfl) ?_
      refine G_end ?_
      refine X_then ?_
      refine G_seq ?_
      refine G_seq ?_
      refine G_region ?_
      refine G_val (V_move rfl rfl) rfl rfl (.none rfl) ?_
      refine G_val (V_not rfl rfl) rfl rfl (.none rfl) ?_
      refine G_val (V_move rfl rfl) rfl rfl (.none rfl) ?_
      refine G.bool_f 135 rfl (by kernel_rfl) ?_
      refine G_val (V_move rfl rfl) rfl rfl (.yes rfl rfl rfl rfl) ?_
      refine G_val (V_move rfl rfl) rfl rfl (.yes rfl rfl rfl rfl) ?_
      refine G_callv (k := 35) (.mk rfl rfl rfl rfl) rfl rfl (.yes rfl rfl rfl rfl) (same_call _ _ _ _ _ _ _ _ _ _ (by first | assumption | exact SlE.toI (by assumption) rfl | exact SlE.toS (by assumption) rfl | exact SlE.toT (by assumption) rfl | exact SlE.toB (by assumption) rfl | exact SlE.nilT | exact (rfl : (_ : Option _) = some _) | exact .head _ | exact .tail _ (.head _) | exact .tail _ (.tail _ (.head _)) | exact .tail _ (.tail _ (.tail _ (.head _))) | exact .tail _ (.tail _ (.tail _ (.tail _ (.head _)))) | exact .tail _ (.tail _ (.tail _ (.tail _ (.tail _ (.head _))))) | exact .tail _ (.tail _ (.tail _ (.tail _ (.tail _ (.tail _ (.head _)))))) | exact .tail _ (.tail _ (.tail _ (.tail _ (.tail _ (.tail _ (.tail _ (.head _))))))) | exact .tail _ (.tail _ (.tail _ (.tail _ (.tail _ (.tail _ (.tail _ (.tail _ (.head _)))))))) | omega | (simp; omega) | (simp; done) | exact (by kernel_rfl : (_ : Bool) = _)) (by first | assumption | exact SlE.toI (by assumption) rfl | exact SlE.toS (by assumption) rfl | exact SlE.toT (by assumption) rfl | exact SlE.toB (by assumption) rfl | exact SlE.nilT | exact (rfl : (_ : Option _) = some _) | exact .head _ | exact .tail _ (.head _) | exact .tail _ (.tail _ (.head _)) | exact .tail _ (.tail _ (.tail _ (.head _))) | exact .tail _ (.tail _ (.tail _ (.tail _ (.head _)))) | exact .tail _ (.tail _ (.tail _ (.tail _ (.tail _ (.head _))))) | exact .tail _ (.tail _ (.tail _ (.tail _ (.tail _ (.tail _ (.head _)))))) | exact .tail _ (.tail _ (.tail _ (.tail _ (.tail _ (.tail _ (.tail _ (.head _))))))) | exact .tail _ (.tail _ (.tail _ (.tail _ (.tail _ (.tail _ (.tail _ (.tail _ (.head _)))))))) | omega | (simp; omega) | (simp; done) | exact (by kernel_rfl : (_ : Bool) = _)) (by first | assumption | exact SlE.toI (by assumption) rfl | exact SlE.toS (by assumption) rfl | exact SlE.toT (by assumption) rfl | exact SlE.toB (by assumption) rfl | exact SlE.nilT | exact (rfl : (_ : Option _) = some _) | exact .head _ | exact .tail _ (.head _) | exact .tail _ (.tail _ (.head _)) | exact .tail _ (.tail _ (.tail _ (.head _))) | exact .tail _ (.tail _ (.tail _ (.tail _ (.head _)))) | exact .tail _ (.tail _ (.tail _ (.tail _ (.tail _ (.head _))))) | exact .tail _ (.tail _ (.tail _ (.tail _ (.tail _ (.tail _ (.head _)))))) | exact .tail _ (.tail _ (.tail _ (.tail _ (.tail _ (.tail _ (.tail _ (.head _))))))) | exact .tail _ (.tail _ (.tail _ (.tail _ (.tail _ (.tail _ (.tail _ (.tail _ (.head _)))))))) | omega | (simp; omega) | (simp; done) | exact (by kernel_rfl : (_ : Bool) = _)) (by first | assumption | exact SlE.toI (by assumption) rfl | exact SlE.toS (by assumption) rfl | exact SlE.toT (by assumption) rfl | exact SlE.toB (by assumption) rfl | exact SlE.nilT | exact (rfl : (_ : Option _) = some _) | exact .head _ | exact .tail _ (.head _) | exact .tail _ (.tail _ (.head _)) | exact .tail _ (.tail _ (.tail _ (.head _))) | exact .tail _ (.tail _ (.tail _ (.tail _ (.head _)))) | exact .tail _ (.tail _ (.tail _ (.tail _ (.tail _ (.head _))))) | exact .tail _ (.tail _ (.tail _ (.tail _ (.tail _ (.tail _ (.head _)))))) | exact .tail _ (.tail _ (.tail _ (.tail _ (.tail _ (.tail _ (.tail _ (.head _))))))) | exact .tail _ (.tail _ (.tail _ (.tail _ (.tail _ (.tail _ (.tail _ (.tail _ (.head _)))))))) | omega | (simp; omega) | (simp; done) | exact (by kernel_rfl : (_ : Bool) = _))) ?_
      refine G_val (V_not rfl rfl) rfl rfl (.yes rfl rfl rfl rfl) ?_
      refine G_val (V_pick_f rfl rfl rfl) rfl rfl (.none rfl) ?_
      refine G_val (V_move rfl rfl) rfl rfl (.none rfl) ?_
      refine G.bool_f 141 rfl (by simp [*]; done) ?_
      refine G_val (V_move rfl rfl) rfl rfl (.yes rfl rfl rfl rfl) ?_
      refine G_val (V_move rfl rfl) rfl rfl (.yes rfl rfl rfl rfl) ?_
      refine G_callv (k := 35) (.mk rfl rfl rfl rfl) rfl rfl (.yes rfl rfl rfl rfl) (same_call _ _ _ _ _ _ _ _ _ _ (by first | assumption | exact SlE.toI (by assumption) rfl | exact SlE.toS (by assumption) rfl | exact SlE.toT (by assumption) rfl | exact SlE.toB (by assumption) rfl | exact SlE.nilT | exact (rfl : (_ : Option _) = some _) | exact .head _ | exact .tail _ (.head _) | exact .tail _ (.tail _ (.head _)) | exact .tail _ (.tail _ (.tail _ (.head _))) | exact .tail _ (.tail _ (.tail _ (.tail _ (.head _)))) | exact .tail _ (.tail _ (.tail _ (.tail _ (.tail _ (.head _))))) | exact .tail _ (.tail _ (.tail _ (.tail _ (.tail _ (.tail _ (.head _)))))) | exact .tail _ (.tail _ (.tail _ (.tail _ (.tail _ (.tail _ (.tail _ (.head _))))))) | exact .tail _ (.tail _ (.tail _ (.tail _ (.tail _ (.tail _ (.tail _ (.tail _ (.head _)))))))) | omega | (simp; omega) | (simp; done) | exact (by kernel_rfl : (_ : Bool) = _)) (by first | assumption | exact SlE.toI (by assumption) rfl | exact SlE.toS (by assumption) rfl | exact SlE.toT (by assumption) rfl | exact SlE.toB (by assumption) rfl | exact SlE.nilT | exact (rfl : (_ : Option _) = some _) | exact .head _ | exact .tail _ (.head _) | exact .tail _ (.tail _ (.head _)) | exact .tail _ (.tail _ (.tail _ (.head _))) | exact .tail _ (.tail _ (.tail _ (.tail _ (.head _)))) | exact .tail _ (.tail _ (.tail _ (.tail _ (.tail _ (.head _))))) | exact .tail _ (.tail _ (.tail _ (.tail _ (.tail _ (.tail _ (.head _)))))) | exact .tail _ (.tail _ (.tail _ (.tail _ (.tail _ (.tail _ (.tail _ (.head _))))))) | exact .tail _ (.tail _ (.tail _ (.tail _ (.tail _ (.tail _ (.tail _ (.tail _ (.head _)))))))) | omega | (simp; omega) | (simp; done) | exact (by kernel_rfl : (_ : Bool) = _)) (by first | assumption | exact SlE.toI (by assumption) rfl | exact SlE.toS (by assumption) rfl | exact SlE.toT (by assumption) rfl | exact SlE.toB (by assumption) rfl | exact SlE.nilT | exact (rfl : (_ : Option _) = some _) | exact .head _ | exact .tail _ (.head _) | exact .tail _ (.tail _ (.head _)) | exact .tail _ (.tail _ (.tail _ (.head _))) | exact .tail _ (.tail _ (.tail _ (.tail _ (.head _)))) | exact .tail _ (.tail _ (.tail _ (.tail _ (.tail _ (.head _))))) | exact .tail _ (.tail _ (.tail _ (.tail _ (.tail _ (.tail _ (.head _)))))) | exact .tail _ (.tail _ (.tail _ (.tail _ (.tail _ (.tail _ (.tail _ (.head _))))))) | exact .tail _ (.tail _ (.tail _ (.tail _ (.tail _ (.tail _ (.tail _ (.tail _ (.head _)))))))) | omega | (simp; omega) | (simp; done) | exact (by kernel_rfl : (_ : Bool) = _)) (by first | assumption | exact SlE.toI (by assumption) rfl | exact SlE.toS (by assumption) rfl | exact SlE.toT (by assumption) rfl | exact SlE.toB (by assumption) rfl | exact SlE.nilT | exact (rfl : (_ : Option _) = some _) | exact .head _ | exact .tail _ (.head _) | exact .tail _ (.tail _ (.head _)) | exact .tail _ (.tail _ (.tail _ (.head _))) | exact .tail _ (.tail _ (.tail _ (.tail _ (.head _)))) | exact .tail _ (.tail _ (.tail _ (.tail _ (.tail _ (.head _))))) | exact .tail _ (.tail _ (.tail _ (.tail _ (.tail _ (.tail _ (.head _)))))) | exact .tail _ (.tail _ (.tail _ (.tail _ (.tail _ (.tail _ (.tail _ (.head _))))))) | exact .tail _ (.tail _ (.tail _ (.tail _ (.tail _ (.tail _ (.tail _ (.tail _ (.head _)))))))) | omega | (simp; omega) | (simp; done) | exact (by kernel_rfl : (_ : Bool) = _))) ?_
      refine G_val (V_not rfl rfl) rfl rfl (.yes rfl rfl rfl rfl) ?_
      refine G_val (V_pick_f rfl rfl rfl) rfl rfl (.none rfl) ?_
      refine G_val (V_move rfl rfl) rfl rfl (.none rfl) ?_
      refine G.bool_f 147 rfl (by simp [*]; done) ?_
      refine G_val (V_move rfl rfl) rfl rfl (.yes rfl rfl rfl rfl) ?_
      refine G_val (V_move rfl rfl) rfl rfl (.yes rfl rfl rfl rfl) ?_
      refine G_callv (k := 35) (.mk rfl rfl rfl rfl) rfl rfl (.yes rfl rfl rfl rfl) (same_call _ _ _ _ _ _ _ _ _ _ (by first | assumption | exact SlE.toI (by assumption) rfl | exact SlE.toS (by assumption) rfl | exact SlE.toT (by assumption) rfl | exact SlE.toB (by assumption) rfl | exact SlE.nilT | exact (rfl : (_ : Option _) = some _) | exact .head _ | exact .tail _ (.head _) | exact .tail _ (.tail _ (.head _)) | exact .tail _ (.tail _ (.tail _ (.head _))) | exact .tail _ (.tail _ (.tail _ (.tail _ (.head _)))) | exact .tail _ (.tail _ (.tail _ (.tail _ (.tail _ (.head _))))) | exact .tail _ (.tail _ (.tail _ (.tail _ (.tail _ (.tail _ (.head _)))))) | exact .tail _ (.tail _ (.tail _ (.tail _ (.tail _ (.tail _ (.tail _ (.head _))))))) | exact .tail _ (.tail _ (.tail _ (.tail _ (.tail _ (.tail _ (.tail _ (.tail _ (.head _)))))))) | omega | (simp; omega) | (simp; done) | exact (by kernel_rfl : (_ : Bool) = _)) (by first | assumption | exact SlE.toI (by assumption) rfl | exact SlE.toS (by assumption) rfl | exact SlE.toT (by assumption) rfl | exact SlE.toB (by assumption) rfl | exact SlE.nilT | exact (rfl : (_ : Option _) = some _) | exact .head _ | exact .tail _ (.head _) | exact .tail _ (.tail _ (.head _)) | exact .tail _ (.tail _ (.tail _ (.head _))) | exact .tail _ (.tail _ (.tail _ (.tail _ (.head _)))) | exact .tail _ (.tail _ (.tail _ (.tail _ (.tail _ (.head _))))) | exact .tail _ (.tail _ (.tail _ (.tail _ (.tail _ (.tail _ (.head _)))))) | exact .tail _ (.tail _ (.tail _ (.tail _ (.tail _ (.tail _ (.tail _ (.head _))))))) | exact .tail _ (.tail _ (.tail _ (.tail _ (.tail _ (.tail _ (.tail _ (.tail _ (.head _)))))))) | omega | (simp; omega) | (simp; done) | exact (by kernel_rfl : (_ : Bool) = _)) (by first | assumption | exact SlE.toI (by assumption) rfl | exact SlE.toS (by assumption) rfl | exact SlE.toT (by assumption) rfl | exact SlE.toB (by assumption) rfl | exact SlE.nilT | exact (rfl : (_ : Option _) = some _) | exact .head _ | exact .tail _ (.head _) | exact .tail _ (.tail _ (.head _)) | exact .tail _ (.tail _ (.tail _ (.head _))) | exact .tail _ (.tail _ (.tail _ (.tail _ (.head _)))) | exact .tail _ (.tail _ (.tail _ (.tail _ (.tail _ (.head _))))) | exact .tail _ (.tail _ (.tail _ (.tail _ (.tail _ (.tail _ (.head _)))))) | exact .tail _ (.tail _ (.tail _ (.tail _ (.tail _ (.tail _ (.tail _ (.head _))))))) | exact .tail _ (.tail _ (.tail _ (.tail _ (.tail _ (.tail _ (.tail _ (.tail _ (.head _)))))))) | omega | (simp; omega) | (simp; done) | exact (by kernel_rfl : (_ : Bool) = _)) (by first | assumption | exact SlE.toI (by assumption) rfl | exact SlE.toS (by assumption) rfl | exact SlE.toT (by assumption) rfl | exact SlE.toB (by assumption) rfl | exact SlE.nilT | exact (rfl : (_ : Option _) = some _) | exact .head _ | exact .tail _ (.head _) | exact .tail _ (.tail _ (.head _)) | exact .tail _ (.tail _ (.tail _ (.head _))) | exact .tail _ (.tail _ (.tail _ (.tail _ (.head _)))) | exact .tail _ (.tail _ (.tail _ (.tail _ (.tail _ (.head _))))) | exact .tail _ (.tail _ (.tail _ (.tail _ (.tail _ (.tail _ (.head _)))))) | exact .tail _ (.tail _ (.tail _ (.tail _ (.tail _ (.tail _ (.tail _ (.head _))))))) | exact .tail _ (.tail _ (.tail _ (.tail _ (.tail _ (.tail _ (.tail _ (.tail _ (.head _)))))))) | omega | (simp; omega) | (simp; done) | exact (by kernel_rfl : (_ : Bool) = _))) ?_
      refine G_val (V_not rfl rfl) rfl rfl (.yes rfl rfl rfl rfl) ?_
      refine G_val (V_pick_f rfl rfl rfl) rfl rfl (.none rfl) ?_
      refine G_val (V_move rfl rfl) rfl rfl (.none rfl) ?_
      refine G.bool_f 153 rfl (by simp [*]; done) ?_
      refine G_val (V_move rfl rfl) rfl rfl (.yes rfl rfl rfl rfl) ?_
      refine G_val (V_move rfl rfl) rfl rfl (.yes rfl rfl rfl rfl) ?_
      refine G_callv (k := 27) (.mk rfl rfl rfl rfl) rfl rfl (.yes rfl rfl rfl rfl) (SameInts_call' _ _ _ _ _ _ _ _ _ _ (by first | assumption | exact SlE.toI (by assumption) rfl | exact SlE.toS (by assumption) rfl | exact SlE.toT (by assumption) rfl | exact SlE.toB (by assumption) rfl | exact SlE.nilT | exact (rfl : (_ : Option _) = some _) | exact .head _ | exact .tail _ (.head _) | exact .tail _ (.tail _ (.head _)) | exact .tail _ (.tail _ (.tail _ (.head _))) | exact .tail _ (.tail _ (.tail _ (.tail _ (.head _)))) | exact .tail _ (.tail _ (.tail _ (.tail _ (.tail _ (.head _))))) | exact .tail _ (.tail _ (.tail _ (.tail _ (.tail _ (.tail _ (.head _)))))) | exact .tail _ (.tail _ (.tail _ (.tail _ (.tail _ (.tail _ (.tail _ (.head _))))))) | exact .tail _ (.tail _ (.tail _ (.tail _ (.tail _ (.tail _ (.tail _ (.tail _ (.head _)))))))) | omega | (simp; omega) | (simp; done) | exact (by kernel_rfl : (_ : Bool) = _)) (by first | assumption | exact SlE.toI (by assumption) rfl | exact SlE.toS (by assumption) rfl | exact SlE.toT (by assumption) rfl | exact SlE.toB (by assumption) rfl | exact SlE.nilT | exact (rfl : (_ : Option _) = some _) | exact .head _ | exact .tail _ (.head _) | exact .tail _ (.tail _ (.head _)) | exact .tail _ (.tail _ (.tail _ (.head _))) | exact .tail _ (.tail _ (.tail _ (.tail _ (.head _)))) | exact .tail _ (.tail _ (.tail _ (.tail _ (.tail _ (.head _))))) | exact .tail _ (.tail _ (.tail _ (.tail _ (.tail _ (.tail _ (.head _)))))) | exact .tail _ (.tail _ (.tail _ (.tail _ (.tail _ (.tail _ (.tail _ (.head _))))))) | exact .tail _ (.tail _ (.tail _ (.tail _ (.tail _ (.tail _ (.tail _ (.tail _ (.head _)))))))) | omega | (simp; omega) | (simp; done) | exact (by kernel_rfl : (_ : Bool) = _)) (by first | assumption | exact SlE.toI (by assumption) rfl | exact SlE.toS (by assumption) rfl | exact SlE.toT (by assumption) rfl | exact SlE.toB (by assumption) rfl | exact SlE.nilT | exact (rfl : (_ : Option _) = some _) | exact .head _ | exact .tail _ (.head _) | exact .tail _ (.tail _ (.head _)) | exact .tail _ (.tail _ (.tail _ (.head _))) | exact .tail _ (.tail _ (.tail _ (.tail _ (.head _)))) | exact .tail _ (.tail _ (.tail _ (.tail _ (.tail _ (.head _))))) | exact .tail _ (.tail _ (.tail _ (.tail _ (.tail _ (.tail _ (.head _)))))) | exact .tail _ (.tail _ (.tail _ (.tail _ (.tail _ (.tail _ (.tail _ (.head _))))))) | exact .tail _ (.tail _ (.tail _ (.tail _ (.tail _ (.tail _ (.tail _ (.tail _ (.head _)))))))) | omega | (simp; omega) | (simp; done) | exact (by kernel_rfl : (_ : Bool) = _)) (by first | assumption | exact SlE.toI (by assumption) rfl | exact SlE.toS (by assumption) rfl | exact SlE.toT (by assumption) rfl | exact SlE.toB (by assumption) rfl | exact SlE.nilT | exact (rfl : (_ : Option _) = some _) | exact .head _ | exact .tail _ (.head _) | exact .tail _ (.tail _ (.head _)) | exact .tail _ (.tail _ (.tail _ (.head _))) | exact .tail _ (.tail _ (.tail _ (.tail _ (.head _)))) | exact .tail _ (.tail _ (.tail _ (.tail _ (.tail _ (.head _))))) | exact .tail _ (.tail _ (.tail _ (.tail _ (.tail _ (.tail _ (.head _)))))) | exact .tail _ (.tail _ (.tail _ (.tail _ (.tail _ (.tail _ (.tail _ (.head _))))))) | exact .tail _ (.tail _ (.tail _ (.tail _ (.tail _ (.tail _ (.tail _ (.tail _ (.head _)))))))) | omega | (simp; omega) | (simp; done) | exact (by kernel_rfl : (_ : Bool) = _))) ?_
      refine G_val (V_not rfl rfl) rfl rfl (.yes rfl rfl rfl rfl) ?_
      refine G_val (V_pick_f rfl rfl rfl) rfl rfl (.none rfl) ?_
      refine G_val (V_move rfl rfl) rfl rfl (.none rfl) ?_
      refine G.bool_f 159 rfl (by simp [*]; done) ?_
      refine G_val (V_move rfl rfl) rfl rfl (.yes rfl rfl rfl rfl) ?_
      refine G_val (V_move rfl rfl) rfl rfl (.yes rfl rfl rfl rfl) ?_
      refine G_callv (k := 27) (.mk rfl rfl rfl rfl) rfl rfl (.yes rfl rfl rfl rfl) (SameInts_call' _ _ _ _ _ _ _ _ _ _ (by first | assumption | exact SlE.toI (by assumption) rfl | exact SlE.toS (by assumption) rfl | exact SlE.toT (by assumption) rfl | exact SlE.toB (by assumption) rfl | exact SlE.nilT | exact (rfl : (_ : Option _) = some _) | exact .head _ | exact .tail _ (.head _) | exact .tail _ (.tail _ (.head _)) | exact .tail _ (.tail _ (.tail _ (.head _))) | exact .tail _ (.tail _ (.tail _ (.tail _ (.head _)))) | exact .tail _ (.tail _ (.tail _ (.tail _ (.tail _ (.head _))))) | exact .tail _ (.tail _ (.tail _ (.tail _ (.tail _ (.tail _ (.head _)))))) | exact .tail _ (.tail _ (.tail _ (.tail _ (.tail _ (.tail _ (.tail _ (.head _))))))) | exact .tail _ (.tail _ (.tail _ (.tail _ (.tail _ (.tail _ (.tail _ (.tail _ (.head _)))))))) | omega | (simp; omega) | (simp; done) | exact (by kernel_rfl : (_ : Bool) = _)) (by first | assumption | exact SlE.toI (by assumption) rfl | exact SlE.toS (by assumption) rfl | exact SlE.toT (by assumption) rfl | exact SlE.toB (by assumption) rfl | exact SlE.nilT | exact (rfl : (_ : Option _) = some _) | exact .head _ | exact .tail _ (.head _) | exact .tail _ (.tail _ (.head _)) | exact .tail _ (.tail _ (.tail _ (.head _))) | exact .tail _ (.tail _ (.tail _ (.tail _ (.head _)))) | exact .tail _ (.tail _ (.tail _ (.tail _ (.tail _ (.head _))))) | exact .tail _ (.tail _ (.tail _ (.tail _ (.tail _ (.tail _ (.head _)))))) | exact .tail _ (.tail _ (.tail _ (.tail _ (.tail _ (.tail _ (.tail _ (.head _))))))) | exact .tail _ (.tail _ (.tail _ (.tail _ (.tail _ (.tail _ (.tail _ (.tail _ (.head _)))))))) | omega | (simp; omega) | (simp; done) | exact (by kernel_rfl : (_ : Bool) = _)) (by first | assumption | exact SlE.toI (by assumption) rfl | exact SlE.toS (by assumption) rfl | exact SlE.toT (by assumption) rfl | exact SlE.toB (by assumption) rfl | exact SlE.nilT | exact (rfl : (_ : Option _) = some _) | exact .head _ | exact .tail _ (.head _) | exact .tail _ (.tail _ (.head _)) | exact .tail _ (.tail _ (.tail _ (.head _))) | exact .tail _ (.tail _ (.tail _ (.tail _ (.head _)))) | exact .tail _ (.tail _ (.tail _ (.tail _ (.tail _ (.head _))))) | exact .tail _ (.tail _ (.tail _ (.tail _ (.tail _ (.tail _ (.head _)))))) | exact .tail _ (.tail _ (.tail _ (.tail _ (.tail _ (.tail _ (.tail _ (.head _))))))) | exact .tail _ (.tail _ (.tail _ (.tail _ (.tail _ (.tail _ (.tail _ (.tail _ (.head _)))))))) | omega | (simp; omega) | (simp; done) | exact (by kernel_rfl : (_ : Bool) = _)) (by first | assumption | exact SlE.toI (by assumption) rfl | exact SlE.toS (by assumption) rfl | exact SlE.toT (by assumption) rfl | exact SlE.toB (by assumption) rfl | exact SlE.nilT | exact (rfl : (_ : Option _) = some _) | exact .head _ | exact .tail _ (.head _) | exact .tail _ (.tail _ (.head _)) | exact .tail _ (.tail _ (.tail _ (.head _))) | exact .tail _ (.tail _ (.tail _ (.tail _ (.head _)))) | exact .tail _ (.tail _ (.tail _ (.tail _ (.tail _ (.head _))))) | exact .tail _ (.tail _ (.tail _ (.tail _ (.tail _ (.tail _ (.head _)))))) | exact .tail _ (.tail _ (.tail _ (.tail _ (.tail _ (.tail _ (.tail _ (.head _))))))) | exact .tail _ (.tail _ (.tail _ (.tail _ (.tail _ (.tail _ (.tail _ (.tail _ (.head _)))))))) | omega | (simp; omega) | (simp; done) | exact (by kernel_rfl : (_ : Bool) = _))) ?_
      refine G_val (V_not rfl rfl) rfl rfl (.yes rfl rfl rfl rfl) ?_
      refine G_val (V_pick_f rfl rfl rfl) rfl rfl (.none rfl) ?_
      refine G_end ?_
      refine X_then ?_
      refine G_cond_f rfl (by simp [*]; done) ?_
      refine G_skip ?_
      refine X_then ?_
      refine G_seq ?_
      refine G_seq ?_
      refine G_region ?_
      refine G_val (V_fieldAddr rfl rfl (by decide)) rfl rfl (.none rfl) ?_
      refine G_val (V_load rfl rfl (Cell.own (.tail _ (.head _)) rfl)) rfl rfl (.none rfl) ?_
      refine G_val (V_lenS rfl rfl) rfl rfl (.none rfl) ?_
      refine G_val (V_eql rfl rfl rfl) rfl rfl (.none rfl) ?_
      refine G_end ?_
      refine X_then ?_
      refine G_cond_f rfl (decide_eq_false (by omega)) ?_
      refine G_skip ?_
      refine X_then ?_
      refine G_seq ?_
      refine G_region ?_
      refine G_val (V_move rfl rfl) rfl rfl (.none rfl) ?_
      refine G_val (V_fieldAddr rfl rfl (by decide)) rfl rfl (.none rfl) ?_
      refine G_val (V_load rfl rfl (Cell.own (.tail _ (.head _)) rfl)) rfl rfl (.none rfl) ?_
      refine G_val (V_lenS rfl rfl) rfl rfl (.none rfl) ?_
      refine G_call (k := 19) (.mk rfl rfl rfl rfl) rfl rfl (.none rfl) (Mod_call'' _ _ _ _ (by first | assumption | exact SlE.toI (by assumption) rfl | exact SlE.toS (by assumption) rfl | exact SlE.toT (by assumption) rfl | exact SlE.toB (by assumption) rfl | exact SlE.nilT | exact (rfl : (_ : Option _) = some _) | exact .head _ | exact .tail _ (.head _) | exact .tail _ (.tail _ (.head _)) | exact .tail _ (.tail _ (.tail _ (.head _))) | exact .tail _ (.tail _ (.tail _ (.tail _ (.head _)))) | exact .tail _ (.tail _ (.tail _ (.tail _ (.tail _ (.head _))))) | exact .tail _ (.tail _ (.tail _ (.tail _ (.tail _ (.tail _ (.head _)))))) | exact .tail _ (.tail _ (.tail _ (.tail _ (.tail _ (.tail _ (.tail _ (.head _))))))) | exact .tail _ (.tail _ (.tail _ (.tail _ (.tail _ (.tail _ (.tail _ (.tail _ (.head _)))))))) | omega | (simp; omega) | (simp; done) | exact (by kernel_rfl : (_ : Bool) = _)) (by first | assumption | exact SlE.toI (by assumption) rfl | exact SlE.toS (by assumption) rfl | exact SlE.toT (by assumption) rfl | exact SlE.toB (by assumption) rfl | exact SlE.nilT | exact (rfl : (_ : Option _) = some _) | exact .head _ | exact .tail _ (.head _) | exact .tail _ (.tail _ (.head _)) | exact .tail _ (.tail _ (.tail _ (.head _))) | exact .tail _ (.tail _ (.tail _ (.tail _ (.head _)))) | exact .tail _ (.tail _ (.tail _ (.tail _ (.tail _ (.head _))))) | exact .tail _ (.tail _ (.tail _ (.tail _ (.tail _ (.tail _ (.head _)))))) | exact .tail _ (.tail _ (.tail _ (.tail _ (.tail _ (.tail _ (.tail _ (.head _))))))) | exact .tail _ (.tail _ (.tail _ (.tail _ (.tail _ (.tail _ (.tail _ (.tail _ (.head _)))))))) | omega | (simp; omega) | (simp; done) | exact (by kernel_rfl : (_ : Bool) = _))) ?_
      rintro r41 E42 L43 hE44 ⟨z45, ⟨rfl, ⟨Z46, ⟨rfl, rfl⟩⟩⟩⟩
      replace Z30 := Z30.mono hE44
      replace Z31 := Z31.mono hE44
      replace Z38 := Z38.mono hE44
      replace Z39 := Z39.mono hE44
      replace Z40 := Z40.mono hE44
      replace hyy := hyy.mono hE44
      replace s1 := s1.mono hE44
      replace s2 := s2.mono hE44
      replace s3 := s3.mono hE44
      replace s4 := s4.mono hE44
      replace s5 := s5.mono hE44
      replace hps := hps.mono hE44
      replace ht := ht.mono hE44
      replace hnm := hnm.mono hE44
      replace hg1 := hg1.mono hE44
      refine G_val (V_assign rfl rfl) rfl rfl (.none rfl) ?_
      refine G_end ?_
      refine X_then ?_
      refine G_seq ?_
      refine G_region ?_
      refine G_val (V_fieldAddr rfl rfl (by decide)) rfl rfl (.none rfl) ?_
      refine G_val (V_load rfl rfl (Cell.own (.tail _ (.head _)) rfl)) rfl rfl (.none rfl) ?_
      refine G_val (V_move rfl rfl) rfl rfl (.none rfl) ?_
      refine G_val (V_idxAddr rfl rfl rfl (SlE.rd (by assumption)) (by omega) (by omega)) rfl rfl (.none rfl) ?_
      refine G_val (V_fieldAddrE rfl rfl (by assumption) (by omega) (by decide)) rfl rfl (.none rfl) ?_
      have hz : z45 < rows.length := by omega
      have hyl := prows_left (List.getElem?_eq_getElem hz)
      have hpz : z5.prods[z45]'(by omega) = rows[z45].2.2 := by simp [← hrows]
      have hpm : rows[z45].2.2 ∈ z5.prods := by rw [← hrows]; exact List.mem_map.2 ⟨rows[z45], List.getElem_mem hz, rfl⟩
      refine G_val (V_loadS rfl rfl (SlE.rd (by assumption)) (by assumption) (by simp)) rfl rfl (.none rfl) ?_
      refine G_val (V_build rfl rfl (by simp [fillV, setLs, setL, Value.cells]; rfl)) rfl rfl (.none rfl) ?_
      (refine G_alloc rfl rfl rfl (.none rfl) ?_; intro b25)
      refine G_storeA rfl rfl rfl rfl (by simp [Value.oneCell']) rfl (.none rfl) (.head _ _ _) rfl ?_
      refine G_end ?_
      refine X_then ?_
      refine G_seq ?_
      refine G_seq ?_
      refine G_region ?_
      refine G_val (V_assign rfl rfl) rfl rfl (.none rfl) ?_
      refine G_end ?_
      refine X_then ?_
      refine G_block ?_
      have htk := hv.toks
      replace hre := hre.mono (show E3.Le E4 by assumption)
      refine G.nilSl 3 1 ?_
      refine G_loop (α := Nat × Env × Option Addr × Nat × List Int) (fun x => [(2, .slice q ys.length d), (7, .bool true), (8, .pointer (some ⟨b8, 0, none⟩)), (9, .slice z6 z5.names.length z7), (10, .slice z8 z5.names.length z9), (11, .slice z10 z5.names.length z11), (12, .slice z12 z5.names.length z13), (13, .slice z14 z5.names.length z15), (24, .int .i64 z45), (25, .pointer (some ⟨b25, 0, none⟩)), (26, .int .i64 x.1)]) (fun x => x.2.1)
        (fun x => .sl 3 1 x.2.2.1 x.1 x.2.2.2.1 (i64s x.2.2.2.2) :: .blk b25 (.cells #[.int .i64 rows[z45].2.2.1, .slice x.2.2.1 x.1 x.2.2.2.1] 62 (0, 0)) :: .blk b15 (.cells #[.int .i64 z5.k, .slice z25 z5.toks.length z26, .string (S z5.sep), .slice z27 z5.names.length z28, .int .i64 z5.start, .slice (some ⟨g0, 0, none⟩) z5.prods.length z30] 26 (0, 0)) :: GB b8 z5 tp tc np nc pp pc :: L3)
        (fun x => E4.Le x.2.1 ∧ x.1 ≤ ys.length ∧ x.1 ≤ 6 ∧ x.2.2.2.2.length = x.1 ∧ ∀ s, s ∈ x.2.2.2.2 → (0 ≤ s ∧ s < z5.toks.length) ∨ (16 ≤ s ∧ s < 16 + (z5.names.length : Int))) (fun x => ys.length - x.1) (0, E4, none, 0, []) ⟨.refl _, Nat.zero_le _, Nat.zero_le _, rfl, fun s h => (by cases h)⟩ ⟨rfl, rfl, rfl, rfl, rfl, rfl, rfl, rfl, rfl, rfl, rfl, trivial⟩ rfl rfl ?_
      rintro ⟨j, E5, ra, rc, r⟩ ⟨hE5, hj, hj6, hrl, hrs⟩
      simp only at hE5 hj hj6 hrl hrs ⊢
      replace hyy := hyy.mono hE5
      replace hg1 := hg1.mono hE5
      replace s1 := s1.mono hE5
      replace s2 := s2.mono hE5
      replace s3 := s3.mono hE5
      replace s4 := s4.mono hE5
      replace s5 := s5.mono hE5
      have hrl2 : (i64s r).length = j := by rw [i64s, List.length_map]; exact hrl
      by_cases hgo : j < ys.length ∧ j < 6
      · obtain ⟨hgo1, hgo2⟩ := hgo
        have hx := i64s_at hgo1
        have hbj := hb2 _ (List.getElem_mem hgo1)
        refine G_seq ?_
        refine G_seq ?_
        refine G_region ?_
        refine G_val (V_move rfl rfl) rfl rfl (.none rfl) ?_
        refine G_val (V_move rfl rfl) rfl rfl (.none rfl) ?_
        refine G_val (V_lenS rfl rfl) rfl rfl (.none rfl) ?_
        refine G_val (V_lss rfl rfl rfl) rfl rfl (.none rfl) ?_
        refine G_val (V_move rfl rfl) rfl rfl (.none rfl) ?_
        refine G.bool_t 186 rfl (decide_eq_true (by omega)) ?_
        refine G_val (V_move rfl rfl) rfl rfl (.yes rfl rfl rfl rfl) ?_
        refine G_val (V_lss rfl rfl rfl) rfl rfl (.yes rfl rfl rfl rfl) ?_
        refine G_val (V_pick_t rfl rfl rfl) rfl rfl (.none rfl) ?_
        refine G_end ?_
        refine X_then ?_
        refine G_cond_t rfl (decide_eq_true (by omega)) ?_
        refine G_skip ?_
        refine X_then ?_
        refine G_seq ?_
        refine G_block ?_
        refine G_seq ?_
        refine G_drawX 13 [(0, 0), (1, 0), (2, 1), (3, 1), (4, 0), (5, 1), (6, 0), (7, 0), (8, 1), (9, 0), (10, 0), (11, 3), (12, 0)] mixed (by kernel_rfl) ?_
        refine F_pure rfl (fun _ _ => V_move rfl rfl) rfl rfl (.none rfl) ?_
        refine F_pure rfl (fun _ _ => V_move rfl rfl) rfl rfl (.none rfl) ?_
        refine F_loadE rfl (V_idxAddr rfl rfl rfl (SlE.rd (by assumption)) (by omega) (by omega)) rfl rfl (.none rfl) ?_
        refine F_loadE rfl (V_loadS rfl rfl (SlE.rd (by assumption)) (by assumption) (by simp)) rfl rfl (.none rfl) ?_
        refine F_pure rfl (fun _ _ => V_fieldAddr rfl rfl (by decide)) rfl rfl (.none rfl) ?_
        refine F_load rfl (.tail _ (.tail _ (.tail _ (.head _)))) (V_load rfl rfl (Cell.own (.head _) rfl)) rfl rfl (.none rfl) ?_
        refine F_pure rfl (fun _ _ => V_lenS rfl rfl) rfl rfl (.none rfl) ?_
        refine F_pure rfl (fun _ _ => V_fieldAddr rfl rfl (by decide)) rfl rfl (.none rfl) ?_
        refine F_load rfl (.tail _ (.tail _ (.tail _ (.head _)))) (V_load rfl rfl (Cell.own (.head _) rfl)) rfl rfl (.none rfl) ?_
        refine F_pure rfl (fun _ _ => V_lenS rfl rfl) rfl rfl (.none rfl) ?_
        refine F_pure rfl (fun _ _ => V_add_i64 rfl rfl rfl (by omega) (by omega)) rfl rfl (.none rfl) ?_
        apply F_call (k := 19) rfl (.mk rfl rfl rfl rfl) rfl rfl (.none rfl)
        · (intro L0; refine CallS.mono (Mod_call'' _ _ _ _ (by first | assumption | exact SlE.toI (by assumption) rfl | exact SlE.toS (by assumption) rfl | exact SlE.toT (by assumption) rfl | exact SlE.toB (by assumption) rfl | exact SlE.nilT | exact (rfl : (_ : Option _) = some _) | exact .head _ | exact .tail _ (.head _) | exact .tail _ (.tail _ (.head _)) | exact .tail _ (.tail _ (.tail _ (.head _))) | exact .tail _ (.tail _ (.tail _ (.tail _ (.head _)))) | exact .tail _ (.tail _ (.tail _ (.tail _ (.tail _ (.head _))))) | exact .tail _ (.tail _ (.tail _ (.tail _ (.tail _ (.tail _ (.head _)))))) | exact .tail _ (.tail _ (.tail _ (.tail _ (.tail _ (.tail _ (.tail _ (.head _))))))) | exact .tail _ (.tail _ (.tail _ (.tail _ (.tail _ (.tail _ (.tail _ (.tail _ (.head _)))))))) | omega | (simp; omega) | (simp; done) | exact (by kernel_rfl : (_ : Bool) = _)) (by first | assumption | exact SlE.toI (by assumption) rfl | exact SlE.toS (by assumption) rfl | exact SlE.toT (by assumption) rfl | exact SlE.toB (by assumption) rfl | exact SlE.nilT | exact (rfl : (_ : Option _) = some _) | exact .head _ | exact .tail _ (.head _) | exact .tail _ (.tail _ (.head _)) | exact .tail _ (.tail _ (.tail _ (.head _))) | exact .tail _ (.tail _ (.tail _ (.tail _ (.head _)))) | exact .tail _ (.tail _ (.tail _ (.tail _ (.tail _ (.head _))))) | exact .tail _ (.tail _ (.tail _ (.tail _ (.tail _ (.tail _ (.head _)))))) | exact .tail _ (.tail _ (.tail _ (.tail _ (.tail _ (.tail _ (.tail _ (.head _))))))) | exact .tail _ (.tail _ (.tail _ (.tail _ (.tail _ (.tail _ (.tail _ (.tail _ (.head _)))))))) | omega | (simp; omega) | (simp; done) | exact (by kernel_rfl : (_ : Bool) = _))) ?_; exact fun _ _ _ _ h => h)
        · (rintro L0 r E' L' ⟨z1, ⟨rfl, ⟨Z2, ⟨rfl, rfl⟩⟩⟩⟩; exact ⟨rfl, ⟨_, ⟨rfl, ⟨(by first | assumption | omega | (simp; done) | exact SlE.tail (by assumption) (by omega) (by omega)), ⟨rfl, rfl⟩⟩⟩⟩⟩)
        rintro r3 E6 hE7 ⟨z32, ⟨rfl, ⟨Z41, ⟨rfl, _⟩⟩⟩⟩
        replace hyy := hyy.mono hE7
        replace hg1 := hg1.mono hE7
        replace s1 := s1.mono hE7
        replace s2 := s2.mono hE7
        replace s3 := s3.mono hE7
        replace s4 := s4.mono hE7
        replace s5 := s5.mono hE7
        refine F_pure rfl (fun _ _ => V_assign rfl rfl) rfl rfl (.none rfl) ?_
        (refine F_end (.nil _) ?_; dsimp only [List.drop])
        refine G_end ?_
        refine X_then ?_
        refine G_seq ?_
        refine G_region ?_
        refine G_val (V_move rfl rfl) rfl rfl (.none rfl) ?_
        refine G_val (V_fieldAddr rfl rfl (by decide)) rfl rfl (.none rfl) ?_
        refine G_val (V_load rfl rfl (Cell.own (.tail _ (.tail _ (.tail _ (.head _)))) rfl)) rfl rfl (.none rfl) ?_
        refine G_val (V_lenS rfl rfl) rfl rfl (.none rfl) ?_
        refine G_val (V_lss rfl rfl rfl) rfl rfl (.none rfl) ?_
        refine G_end ?_
        refine X_then ?_
        by_cases hzn : (z32 : Int) < z5.names.length
        · refine G_cond_t rfl (decide_eq_true (by omega)) ?_
          refine G_region ?_
          refine G_val (V_fieldAddr rfl rfl (by decide)) rfl rfl (.none rfl) ?_
          refine G_val (V_load rfl rfl (Cell.own (.tail _ (.head _)) rfl)) rfl rfl (.none rfl) ?_
          refine G_val (V_move rfl rfl) rfl rfl (.none rfl) ?_
          refine G_val (V_add_i64 rfl rfl rfl (by omega) (by omega)) rfl rfl (.none rfl) ?_
          (refine G_lit1 rfl rfl rfl rfl rfl (.none rfl) ?_; intro b213)
          (refine G_append rfl rfl rfl (Rd.lit (.head _) rfl) (by simp [Value.oneCell']) (by omega) (by omega) rfl rfl (.none rfl) (fun _ _ => (.tail _ (.head _ _ _))) ?_; intro a214 c214; refine G.rm (.head _ _) ?_)
          refine G_val (V_fieldAddr rfl rfl (by decide)) rfl rfl (.none rfl) ?_
          refine G_storeAt rfl rfl rfl rfl rfl rfl (.none rfl) (.tail _ (.head _ _ _)) (Nat.le_of_ble_eq_true rfl) (by simp only [putAll, Nat.zero_add, Nat.reduceAdd, List.setIfInBounds_toArray, List.set_cons_succ, List.set_cons_zero]; rfl) ?_
          refine G_end ?_
          refine X_block ?_
          refine X_then ?_
          refine G_region ?_
          refine G_val (V_move rfl rfl) rfl rfl (.none rfl) ?_
          refine G_val (V_add_i64 rfl rfl rfl (by omega) (by omega)) rfl rfl (.none rfl) ?_
          refine G_val (V_assign rfl rfl) rfl rfl (.none rfl) ?_
          refine G_end ?_
          refine X_then ?_
          refine G_again (j + 1, _, _, _, r ++ [16 + (z32 : Int)]) ⟨hE5.trans (by assumption), hgo1, hgo2, by rw [List.length_append, hrl]; rfl, fun s hs => ?_⟩ (by simp only; omega) ⟨rfl, rfl, rfl, rfl, rfl, rfl, rfl, rfl, rfl, rfl, rfl, trivial⟩ rfl (by rw [i64s_snoc])
          rcases List.mem_append.1 hs with hs | hs
          · exact hrs s hs
          · rw [List.mem_singleton.1 hs]; omega
        · refine G_cond_f rfl (decide_eq_false (by omega)) ?_
          refine G_region ?_
          refine G_val (V_fieldAddr rfl rfl (by decide)) rfl rfl (.none rfl) ?_
          refine G_val (V_load rfl rfl (Cell.own (.tail _ (.head _)) rfl)) rfl rfl (.none rfl) ?_
          refine G_val (V_move rfl rfl) rfl rfl (.none rfl) ?_
          refine G_val (V_fieldAddr rfl rfl (by decide)) rfl rfl (.none rfl) ?_
          refine G_val (V_load rfl rfl (Cell.own (.tail _ (.tail _ (.tail _ (.head _)))) rfl)) rfl rfl (.none rfl) ?_
          refine G_val (V_lenS rfl rfl) rfl rfl (.none rfl) ?_
          refine G_val (V_sub_i64 rfl rfl rfl (by omega) (by omega)) rfl rfl (.none rfl) ?_
          (refine G_lit1 rfl rfl rfl rfl rfl (.none rfl) ?_; intro b223)
          (refine G_append rfl rfl rfl (Rd.lit (.head _) rfl) (by simp [Value.oneCell']) (by omega) (by omega) rfl rfl (.none rfl) (fun _ _ => (.tail _ (.head _ _ _))) ?_; intro a224 c224; refine G.rm (.head _ _) ?_)
          refine G_val (V_fieldAddr rfl rfl (by decide)) rfl rfl (.none rfl) ?_
          refine G_storeAt rfl rfl rfl rfl rfl rfl (.none rfl) (.tail _ (.head _ _ _)) (Nat.le_of_ble_eq_true rfl) (by simp only [putAll, Nat.zero_add, Nat.reduceAdd, List.setIfInBounds_toArray, List.set_cons_succ, List.set_cons_zero]; rfl) ?_
          refine G_end ?_
          refine X_block ?_
          refine X_then ?_
          refine G_region ?_
          refine G_val (V_move rfl rfl) rfl rfl (.none rfl) ?_
          refine G_val (V_add_i64 rfl rfl rfl (by omega) (by omega)) rfl rfl (.none rfl) ?_
          refine G_val (V_assign rfl rfl) rfl rfl (.none rfl) ?_
          refine G_end ?_
          refine X_then ?_
          refine G_again (j + 1, _, _, _, r ++ [(z32 : Int) - z5.names.length]) ⟨hE5.trans (by assumption), hgo1, hgo2, by rw [List.length_append, hrl]; rfl, fun s hs => ?_⟩ (by simp only; omega) ⟨rfl, rfl, rfl, rfl, rfl, rfl, rfl, rfl, rfl, rfl, rfl, trivial⟩ rfl (by rw [i64s_snoc])
          rcases List.mem_append.1 hs with hs | hs
          · exact hrs s hs
          · rw [List.mem_singleton.1 hs]; omega
      · refine G.freezeSl (.head _ _) ?_
        intro E6 hE6 hra hrc
        replace hg1 := hg1.mono hE6
        replace s1 := s1.mono hE6
        replace s2 := s2.mono hE6
        replace s3 := s3.mono hE6
        replace s4 := s4.mono hE6
        replace s5 := s5.mono hE6
        have hlS : Light z5 ∧ True := ⟨hl, trivial⟩
        clear hl Z7
        refine G_seq ?_
        refine G_seq ?_
        refine G_region ?_
        refine G_val (V_move rfl rfl) rfl rfl (.none rfl) ?_
        refine G_val (V_move rfl rfl) rfl rfl (.none rfl) ?_
        refine G_val (V_lenS rfl rfl) rfl rfl (.none rfl) ?_
        refine G_val (V_lss rfl rfl rfl) rfl rfl (.none rfl) ?_
        refine G_val (V_move rfl rfl) rfl rfl (.none rfl) ?_
        apply G_joinAnd 3 186 189 rfl
        · intro H1
          dsimp only [List.take]
          simp only [Bool.and_eq_true, Bool.or_eq_true, Bool.not_eq_true', Bool.not_eq_false', Bool.and_eq_false_iff, Bool.or_eq_false_iff, Bool.not_not, decide_eq_true_eq, decide_eq_false_iff_not, ne_eq, Decidable.not_not, Bool.decide_eq_true] at H1
          refine G_val (V_move rfl rfl) rfl rfl (.yes rfl rfl rfl rfl) ?_
          refine G_val (V_lss rfl rfl rfl) rfl rfl (.yes rfl rfl rfl rfl) ?_
          refine G_val (V_pick_t rfl rfl rfl) rfl rfl (.none rfl) ?_
          refine G_end ?_
          exact JQ_end 3 rfl rfl (by kernel_rfl)
        · intro H2
          dsimp only [List.take]
          simp only [Bool.and_eq_true, Bool.or_eq_true, Bool.not_eq_true', Bool.not_eq_false', Bool.and_eq_false_iff, Bool.or_eq_false_iff, Bool.not_not, decide_eq_true_eq, decide_eq_false_iff_not, ne_eq, Decidable.not_not, Bool.decide_eq_true] at H2
          refine G_stay (.no rfl rfl rfl rfl) rfl rfl ?_
          refine G_stay (.no rfl rfl rfl rfl) rfl rfl ?_
          refine G_val (V_pick_f rfl rfl rfl) rfl rfl (.none rfl) ?_
          refine G_end ?_
          exact JQ_end 3 rfl rfl (by kernel_rfl)
        dsimp only [List.drop]
        refine G_end ?_
        refine X_then ?_
        refine G_cond rfl (fun H3 => ?_) (fun H3 => ?_)
        · simp only [Bool.and_eq_true, Bool.or_eq_true, Bool.not_eq_true', Bool.not_eq_false', Bool.and_eq_false_iff, Bool.or_eq_false_iff, Bool.not_not, decide_eq_true_eq, decide_eq_false_iff_not, ne_eq, Decidable.not_not, Bool.decide_eq_true] at H3
          (exfalso; omega)
        simp only [Bool.and_eq_true, Bool.or_eq_true, Bool.not_eq_true', Bool.not_eq_false', Bool.and_eq_false_iff, Bool.or_eq_false_iff, Bool.not_not, decide_eq_true_eq, decide_eq_false_iff_not, ne_eq, Decidable.not_not, Bool.decide_eq_true] at H3
        refine G_exit ?_
        refine X_then_exit ?_
        refine X_then_exit ?_
        refine X_block_hit ?_
        refine X_then ?_
        refine G_seq ?_
        refine G_region ?_
        refine G_val (V_loadA rfl rfl (Cells.own (.tail _ (.tail _ (.head _)))) rfl) rfl rfl (.none rfl) ?_
        refine G_call (k := 18) (.mk rfl rfl rfl rfl) rfl rfl (.none rfl) (OwnGrammar_call _ _ _ _ hg1 hlS.1) ?_
        rintro r2 E8 L8 hE8 ⟨hgr8, rfl⟩
        replace hra := hra.mono hE8
        replace s1 := s1.mono hE8
        replace s2 := s2.mono hE8
        replace s3 := s3.mono hE8
        replace s4 := s4.mono hE8
        replace s5 := s5.mono hE8
        obtain ⟨tp2, tc2, np2, nc2, pp2, pc2, rfl, ht2, hnm2, ⟨rows2, hrows2, hps2, hre2⟩, kk1, kk2, kk3⟩ := hgr8
        have hlen3 : z5.prods.length = rows2.length := by rw [← hrows2]; simp
        have hhd : SlE E8 2 pp2 (z45 : Int).toNat (prows (rows2.take z45)) := by
          have := hps2.head (i := z45) (by omega)
          rwa [prows_take] at this
        have htl : SlE E8 2 (tailAt pp2 (z45 : Int).toNat pc2 2) (z5.prods.length - (z45 : Int).toNat) (prows (rows2.drop z45)) := by
          have := hps2.tail (l := z45) (c := pc2) (by omega) (by omega)
          rwa [prows_drop] at this
        have hpl1 := prows_len (rows2.take z45)
        have hpl2 := prows_len (rows2.drop z45)
        rw [List.length_take] at hpl1
        rw [List.length_drop] at hpl2
        have hone3 := prows_one (rows2.drop z45)
        have hps3 := prows_append (rows2.take z45) [(ra, rc, (rows[z45].2.2.1, r))]
        have hc1 : prows (rows2.take z45 ++ (ra, rc, (rows[z45].2.2.1, r)) :: rows2.drop z45) = prows (rows2.take z45) ++ [.int .i64 rows[z45].2.2.1, .slice ra j rc] ++ prows (rows2.drop z45) := by
          rw [prows_append, ← hrl]; simp [prows, prow]
        have htk0 : z45 = 0 → rows2.take z45 = [] := fun h => by rw [h]; rfl
        rcases Nat.eq_zero_or_pos z45 with h0 | h0
        all_goals first
                    | ((refine G_alloc rfl rfl rfl (.none rfl) ?_; intro b28)
                       refine G_storeA rfl rfl rfl rfl (by simp [Value.oneCell']) rfl (.none rfl) (.head _ _ _) rfl ?_
                       refine G_end ?_
                       refine X_then ?_
                       refine G_seq ?_
                       refine G_drawX 15 [(1, 0), (2, 1), (3, 0), (4, 0), (6, 1), (9, 0), (10, 1), (0, 2), (5, 3), (7, 2), (8, 3), (11, 0), (12, 0), (13, 3), (14, 0)] mixed (by kernel_rfl) ?_
                       refine F_pure rfl (fun _ _ => V_fieldAddr rfl rfl (by decide)) rfl rfl (.none rfl) ?_
                       refine F_load rfl (.head _) (V_load rfl rfl (Cell.own (.head _) rfl)) rfl rfl (.none rfl) ?_
                       refine F_pure rfl (fun _ _ => V_move rfl rfl) rfl rfl (.none rfl) ?_
                       refine F_pure rfl (fun _ _ => V_slHead rfl rfl rfl (by omega) (by omega)) rfl rfl (.none rfl) ?_
                       refine F_load rfl (.tail _ (.head _)) (V_loadA rfl rfl (Cells.own (.head _)) rfl) rfl rfl (.none rfl) ?_
                       refine F_pure rfl (fun _ _ => V_fieldAddr rfl rfl (by decide)) rfl rfl (.none rfl) ?_
                       refine F_load rfl (.head _) (V_load rfl rfl (Cell.own (.head _) rfl)) rfl rfl (.none rfl) ?_
                       (refine F_lit0Z rfl rfl rfl rfl (.none rfl) ?_; intro b228 E228 hE228 hs228)
                       replace hra := hra.mono hE228
                       replace s1 := s1.mono hE228
                       replace s2 := s2.mono hE228
                       replace s3 := s3.mono hE228
                       replace s4 := s4.mono hE228
                       replace s5 := s5.mono hE228
                       replace ht2 := ht2.mono hE228
                       replace hnm2 := hnm2.mono hE228
                       replace hps2 := hps2.mono hE228
                       replace hhd := hhd.mono hE228
                       replace htl := htl.mono hE228
                       (refine F_append0 rfl rfl rfl rfl (by omega) (by omega) rfl rfl (.none rfl) ?_)
                       (refine F_litZ rfl rfl rfl (by decide) (by simp [fillS, zeros, setLs, setL, Value.cells, List.range, List.range.loop]; rfl) (by rfl) rfl rfl (.none rfl) ?_; intro b235 E235 hE235 hs235)
                       replace hs228 := hs228.mono hE235
                       replace hra := hra.mono hE235
                       replace s1 := s1.mono hE235
                       replace s2 := s2.mono hE235
                       replace s3 := s3.mono hE235
                       replace s4 := s4.mono hE235
                       replace s5 := s5.mono hE235
                       replace ht2 := ht2.mono hE235
                       replace hnm2 := hnm2.mono hE235
                       replace hps2 := hps2.mono hE235
                       replace hhd := hhd.mono hE235
                       replace htl := htl.mono hE235
                       (refine F_appendO rfl rfl rfl rfl (by assumption) (by assumption) (by omega) (by omega) (by omega) rfl rfl (.none rfl) ?_; intro b236 c236)
                       refine F_pure rfl (fun _ _ => V_move rfl rfl) rfl rfl (.none rfl) ?_
                       refine F_pure rfl (fun _ _ => V_slTail rfl rfl rfl (by omega) (by omega)) rfl rfl (.none rfl) ?_
                       (refine F_append2 rfl rfl rfl rfl (by assumption) (by first | assumption | simp [Value.oneCell', strs, i64s]) (by omega) (by omega) rfl rfl (.none rfl) (fun _ _ => (.head _ _ _)) ?_; intro b241 c241 N241; dsimp only [List.cons_append])
                       refine F_pure rfl (fun _ _ => V_fieldAddr rfl rfl (by decide)) rfl rfl (.none rfl) ?_
                       (refine F_end (.keep _ (.keep _ (.keep _ (.keep _ (.keep _ (.suf _ (.nil _))))))) ?_; dsimp only [List.drop])
                       refine G_storeAt rfl rfl rfl rfl rfl rfl (.none rfl) (.tail _ (.head _ _ _)) (Nat.le_of_ble_eq_true rfl) (by simp only [putAll, Nat.zero_add, Nat.reduceAdd, List.setIfInBounds_toArray, List.set_cons_succ, List.set_cons_zero]; rfl) ?_
                       refine G_end ?_
                       refine X_then ?_
                       refine G_seq ?_
                       refine G_region ?_
                       refine G_val (V_loadA rfl rfl (Cells.own (.tail _ (.head _))) rfl) rfl rfl (.none rfl) ?_)
                    | ((refine G_alloc rfl rfl rfl (.none rfl) ?_; intro b28)
                       refine G_storeA rfl rfl rfl rfl (by simp [Value.oneCell']) rfl (.none rfl) (.head _ _ _) rfl ?_
                       refine G_end ?_
                       refine X_then ?_
                       refine G_seq ?_
                       refine G_drawX 15 [(1, 0), (2, 1), (3, 0), (4, 0), (6, 1), (9, 0), (10, 1), (0, 2), (5, 3), (7, 2), (8, 3), (11, 0), (12, 0), (13, 3), (14, 0)] mixed (by kernel_rfl) ?_
                       refine F_pure rfl (fun _ _ => V_fieldAddr rfl rfl (by decide)) rfl rfl (.none rfl) ?_
                       refine F_load rfl (.head _) (V_load rfl rfl (Cell.own (.head _) rfl)) rfl rfl (.none rfl) ?_
                       refine F_pure rfl (fun _ _ => V_move rfl rfl) rfl rfl (.none rfl) ?_
                       refine F_pure rfl (fun _ _ => V_slHead rfl rfl rfl (by omega) (by omega)) rfl rfl (.none rfl) ?_
                       refine F_load rfl (.tail _ (.head _)) (V_loadA rfl rfl (Cells.own (.head _)) rfl) rfl rfl (.none rfl) ?_
                       refine F_pure rfl (fun _ _ => V_fieldAddr rfl rfl (by decide)) rfl rfl (.none rfl) ?_
                       refine F_load rfl (.head _) (V_load rfl rfl (Cell.own (.head _) rfl)) rfl rfl (.none rfl) ?_
                       (refine F_lit0Z rfl rfl rfl rfl (.none rfl) ?_; intro b228 E228 hE228 hs228)
                       replace hra := hra.mono hE228
                       replace s1 := s1.mono hE228
                       replace s2 := s2.mono hE228
                       replace s3 := s3.mono hE228
                       replace s4 := s4.mono hE228
                       replace s5 := s5.mono hE228
                       replace ht2 := ht2.mono hE228
                       replace hnm2 := hnm2.mono hE228
                       replace hps2 := hps2.mono hE228
                       replace hhd := hhd.mono hE228
                       replace htl := htl.mono hE228
                       (refine F_appendO rfl rfl rfl rfl (by assumption) (by assumption) (by omega) (by omega) (by omega) rfl rfl (.none rfl) ?_; intro b233 c233)
                       (refine F_litZ rfl rfl rfl (by decide) (by simp [fillS, zeros, setLs, setL, Value.cells, List.range, List.range.loop]; rfl) (by rfl) rfl rfl (.none rfl) ?_; intro b235 E235 hE235 hs235)
                       replace hs228 := hs228.mono hE235
                       replace hra := hra.mono hE235
                       replace s1 := s1.mono hE235
                       replace s2 := s2.mono hE235
                       replace s3 := s3.mono hE235
                       replace s4 := s4.mono hE235
                       replace s5 := s5.mono hE235
                       replace ht2 := ht2.mono hE235
                       replace hnm2 := hnm2.mono hE235
                       replace hps2 := hps2.mono hE235
                       replace hhd := hhd.mono hE235
                       replace htl := htl.mono hE235
                       (refine F_append2 rfl rfl rfl rfl (by assumption) (by first | assumption | simp [Value.oneCell', strs, i64s]) (by omega) (by omega) rfl rfl (.none rfl) (fun _ _ => (.head _ _ _)) ?_; intro b236 c236 N236; dsimp only [List.cons_append])
                       refine F_pure rfl (fun _ _ => V_move rfl rfl) rfl rfl (.none rfl) ?_
                       refine F_pure rfl (fun _ _ => V_slTail rfl rfl rfl (by omega) (by omega)) rfl rfl (.none rfl) ?_
                       (refine F_append2 rfl rfl rfl rfl (by assumption) (by first | assumption | simp [Value.oneCell', strs, i64s]) (by omega) (by omega) rfl rfl (.none rfl) (fun _ _ => (.head _ _ _)) ?_; intro b241 c241 N241; dsimp only [List.cons_append])
                       refine F_pure rfl (fun _ _ => V_fieldAddr rfl rfl (by decide)) rfl rfl (.none rfl) ?_
                       (refine F_end (.keep _ (.keep _ (.keep _ (.keep _ (.keep _ (.suf _ (.suf _ (.nil _)))))))) ?_; dsimp only [List.drop])
                       refine G_storeAt rfl rfl rfl rfl rfl rfl (.none rfl) (.tail _ (.head _ _ _)) (Nat.le_of_ble_eq_true rfl) (by simp only [putAll, Nat.zero_add, Nat.reduceAdd, List.setIfInBounds_toArray, List.set_cons_succ, List.set_cons_zero]; rfl) ?_
                       refine G_end ?_
                       refine X_then ?_
                       refine G_seq ?_
                       refine G_region ?_
                       refine G_val (V_loadA rfl rfl (Cells.own (.tail _ (.head _))) rfl) rfl rfl (.none rfl) ?_)
        rw [show 1 + (z5.prods.length - (z45 : Int).toNat) = z5.prods.length + 1 by omega]
        try rw [show 0 + 1 + (z5.prods.length - (z45 : Int).toNat) = z5.prods.length + 1 by omega]
        rw [show ([] ++ [Value.int .i64 rows[z45].2.2.1, Value.slice ra j rc] ++ prows (rows2.drop z45)) = prows (rows2.take z45 ++ (ra, rc, (rows[z45].2.2.1, r)) :: rows2.drop z45) by rw [hc1, htk0 h0]; rfl]
        rotate_left
        rw [show (z45 : Int).toNat + 1 + (z5.prods.length - (z45 : Int).toNat) = z5.prods.length + 1 by omega]
        rw [show 0 + (z45 : Int).toNat + 1 + (z5.prods.length - (z45 : Int).toNat) = z5.prods.length + 1 by omega]
        rw [show ([] ++ prows (rows2.take z45) ++ [Value.int .i64 rows[z45].2.2.1, Value.slice ra j rc] ++ prows (rows2.drop z45)) = prows (rows2.take z45 ++ (ra, rc, (rows[z45].2.2.1, r)) :: rows2.drop z45) by rw [hc1]; rfl]
        all_goals
          refine G.freezeSl (.head _ _) ?_
          intro E9 hE9 hsl3 hcap3
          have hmap : (rows2.take z45 ++ (ra, rc, (rows[z45].2.2.1, r)) :: rows2.drop z45).map (·.2.2) = z5.prods.take z45 ++ (rows[z45].2.2.1, r) :: z5.prods.drop z45 := by
            rw [List.map_append, List.map_cons, List.map_take, List.map_drop, hrows2]
          have hl3 : (z5.prods.take z45 ++ (rows[z45].2.2.1, r) :: z5.prods.drop z45).length = z5.prods.length + 1 := by simp; omega
          have hsub : ∀ p, p ∈ z5.prods → p ∈ z5.prods.take z45 ++ (rows[z45].2.2.1, r) :: z5.prods.drop z45 := fun p hp => by
            rw [← List.take_append_drop z45 z5.prods] at hp
            rcases List.mem_append.1 hp with h | h
            · exact List.mem_append.2 (.inl h)
            · exact List.mem_append.2 (.inr (.tail _ h))
          have hback : ∀ p, p ∈ z5.prods.take z45 ++ (rows[z45].2.2.1, r) :: z5.prods.drop z45 → p = (rows[z45].2.2.1, r) ∨ p ∈ z5.prods := fun p hp => by
            rcases List.mem_append.1 hp with h | h
            · exact .inr (List.mem_of_mem_take h)
            · rcases List.mem_cons.1 h with h | h
              · exact .inl h
              · exact .inr (List.mem_of_mem_drop h)
          have hr6 : ∀ p, p ∈ z5.prods.take z45 ++ (rows[z45].2.2.1, r) :: z5.prods.drop z45 → p.2.length ≤ 6 := fun p hp => by
            rcases hback p hp with rfl | h
            · show r.length ≤ 6; omega
            · exact hv.right p h
          have hck3 : gcheck (withP z5 (z5.prods.take z45 ++ (rows[z45].2.2.1, r) :: z5.prods.drop z45)) = 0 := by
            refine check_withP hc (by omega) hr6 (fun p hp => ?_) (fun p hp => ?_) ?_ (fun p hp => ⟨p, hsub p hp, rfl⟩)
            · rcases hback p hp with rfl | h
              · exact (show 16 ≤ rows[z45].2.2.1 ∧ rows[z45].2.2.1 < 16 + (z5.names.length : Int) from hv.wf.left _ hpm)
              · exact hv.wf.left p h
            · rcases hback p hp with rfl | h
              · exact hrs
              · exact hv.syms p h
            · have := ords_insert (r := r) (show z45 < z5.prods.length by omega) (gcheck_ok hc).2.2.2.2.2.2.1
              rwa [hpz] at this
          have hv3 := valid_of hck3
          have hall1 := fun {s : Int} (hs : 16 ≤ s) => more_bool hv hv3 hsub hs
          have hall2 := fun {s : Int} (hs : 16 ≤ s) => more_len hv hv3 hsub hs
          have hall3 := fun {s : Int} (hs : 16 ≤ s) => more_tree hv hv3 hsub hs
          replace hre2 := hre2.mono (show E8.Le E235 by first | assumption | exact Env.Le.trans (by assumption) (by assumption))
          have wok3 : WOk E9 (.agg #[.int .i64 z5.k, .slice tp2 z5.toks.length tc2, .string (S z5.sep), .slice np2 z5.names.length nc2, .int .i64 z5.start, .slice (some ⟨b241, 0, none⟩) (z5.prods.length + 1) c241]) z5 (z5.prods.take z45 ++ (rows[z45].2.2.1, r) :: z5.prods.drop z45) :=
            ⟨⟨tp2, tc2, np2, nc2, some ⟨b241, 0, none⟩, c241, by rw [← hl3]; rfl, ht2.mono hE9, hnm2.mono hE9, ⟨rows2.take z45 ++ (ra, rc, (rows[z45].2.2.1, r)) :: rows2.drop z45, hmap, by show SlE E9 2 _ (z5.prods.take z45 ++ (rows[z45].2.2.1, r) :: z5.prods.drop z45).length _; rw [hl3]; exact hsl3, fun y hy => by
                rcases List.mem_append.1 hy with h | h
                · exact (hre2.mono hE9) y (List.mem_of_mem_take h)
                · rcases List.mem_cons.1 h with h | h
                  · rw [h]; show SlE E9 1 ra r.length (i64s r); rw [hrl]; exact hra.mono hE9
                  · exact (hre2.mono hE9) y (List.mem_of_mem_drop h)⟩, kk1, kk2, by show (z5.prods.take z45 ++ (rows[z45].2.2.1, r) :: z5.prods.drop z45).length ≤ _; rw [hl3]; exact hcap3⟩,
              light_withP hlS.1 (by omega) hr6, hck3⟩
          replace s1 := s1.mono hE9
          replace s2 := s2.mono hE9
          replace s3 := s3.mono hE9
          replace s4 := s4.mono hE9
          replace s5 := s5.mono hE9
          refine G_call (k := 54) (.mk rfl rfl rfl rfl) rfl rfl (.none rfl) (tellsW_call _ _ _ _ _ (by first | assumption | exact SlE.toI (by assumption) rfl | exact SlE.toS (by assumption) rfl | exact SlE.toT (by assumption) rfl | exact SlE.toB (by assumption) rfl | exact SlE.nilT | exact (rfl : (_ : Option _) = some _) | exact .head _ | exact .tail _ (.head _) | exact .tail _ (.tail _ (.head _)) | exact .tail _ (.tail _ (.tail _ (.head _))) | exact .tail _ (.tail _ (.tail _ (.tail _ (.head _)))) | exact .tail _ (.tail _ (.tail _ (.tail _ (.tail _ (.head _))))) | exact .tail _ (.tail _ (.tail _ (.tail _ (.tail _ (.tail _ (.head _)))))) | exact .tail _ (.tail _ (.tail _ (.tail _ (.tail _ (.tail _ (.tail _ (.head _))))))) | exact .tail _ (.tail _ (.tail _ (.tail _ (.tail _ (.tail _ (.tail _ (.tail _ (.head _)))))))) | omega | (simp; omega) | (simp; done) | exact (by kernel_rfl : (_ : Bool) = _))) ?_
          rintro r1 E7 L8 hE10 ⟨z32, ⟨z33, ⟨z34, ⟨z35, ⟨z36, ⟨z37, ⟨z38, ⟨z39, ⟨z40, ⟨z41, ⟨rfl, ⟨Z42, ⟨Z43, ⟨Z44, ⟨Z45, ⟨Z47, rfl⟩⟩⟩⟩⟩⟩⟩⟩⟩⟩⟩⟩⟩⟩⟩⟩
          replace hsl3 := hsl3.mono hE10
          replace s1 := s1.mono hE10
          replace s2 := s2.mono hE10
          replace s3 := s3.mono hE10
          replace s4 := s4.mono hE10
          replace s5 := s5.mono hE10
          refine G_val (V_move rfl rfl) rfl rfl (.none rfl) ?_
          refine G_val (V_extract rfl rfl rfl) rfl rfl (.none rfl) ?_
          refine G_val (V_extract rfl rfl rfl) rfl rfl (.none rfl) ?_
          refine G_val (V_extract rfl rfl rfl) rfl rfl (.none rfl) ?_
          refine G_val (V_extract rfl rfl rfl) rfl rfl (.none rfl) ?_
          refine G_val (V_extract rfl rfl rfl) rfl rfl (.none rfl) ?_
          refine G_val (V_extract rfl rfl rfl) rfl rfl (.none rfl) ?_
          refine G_val (V_assign rfl rfl) rfl rfl (.none rfl) ?_
          refine G_val (V_assign rfl rfl) rfl rfl (.none rfl) ?_
          refine G_val (V_assign rfl rfl) rfl rfl (.none rfl) ?_
          refine G_val (V_assign rfl rfl) rfl rfl (.none rfl) ?_
          refine G_val (V_assign rfl rfl) rfl rfl (.none rfl) ?_
          refine G_val (V_assign rfl rfl) rfl rfl (.none rfl) ?_
          refine G_end ?_
          refine X_then ?_
          refine G_seq ?_
          refine G_seq ?_
          refine G_region ?_
          refine G_val (V_move rfl rfl) rfl rfl (.none rfl) ?_
          refine G_val (V_not rfl rfl) rfl rfl (.none rfl) ?_
          refine G_end ?_
          refine X_then ?_
          refine G_cond_f rfl (by kernel_rfl) ?_
          refine G_skip ?_
          refine X_then ?_
          refine G_seq ?_
          refine G_seq ?_
          refine G_region ?_
          refine G_val (V_assign rfl rfl) rfl rfl (.none rfl) ?_
          refine G_end ?_
          refine X_then ?_
          refine G_block ?_
          refine G.drop (G.drop (G.drop (G.drop ?_)))
          refine G_loop (α := Nat) (fun i => [(7, .bool true), (9, .slice z6 z5.names.length z7), (10, .slice z8 z5.names.length z9), (11, .slice z10 z5.names.length z11), (12, .slice z12 z5.names.length z13), (13, .slice z14 z5.names.length z15), (19, .slice z32 z5.names.length z33), (20, .slice z34 z5.names.length z35), (21, .slice z36 z5.names.length z37), (22, .slice z38 z5.names.length z39), (23, .slice z40 z5.names.length z41), (29, .int .i64 i)]) (fun _ => E7)
            (fun _ => L3) (fun i => i ≤ z5.names.length) (fun i => z5.names.length - i) 0 (Nat.zero_le _) ⟨rfl, rfl, rfl, rfl, rfl, rfl, rfl, rfl, rfl, rfl, rfl, rfl, trivial⟩ rfl rfl ?_
          intro i hi9
          by_cases hlt9 : i < z5.names.length
          · have f1 := bget_at' (l := yieldsM z5) (i := i) (by rw [yieldsM_len hv]; exact hlt9)
            have f2 := bget_at' (l := nullM z5) (i := i) (by rw [nullM_len hv]; exact hlt9)
            have f3 := bget_at' (l := reachM z5) (i := i) (by rw [reachM_len hv]; exact hlt9)
            have f4 := enc_at' (f := fl z5) (o := -1) (i := i) (by rw [(fl_least hv).len]; exact hlt9)
            have f5 := enc_at' (f := ft z5) (o := 0) (i := i) (by rw [(ft_least hv).len]; exact hlt9)
            have g1 := bget_at' (l := yieldsM (withP z5 (z5.prods.take z45 ++ (rows[z45].2.2.1, r) :: z5.prods.drop z45))) (i := i) (by rw [yieldsM_len hv3]; exact hlt9)
            have g2 := bget_at' (l := nullM (withP z5 (z5.prods.take z45 ++ (rows[z45].2.2.1, r) :: z5.prods.drop z45))) (i := i) (by rw [nullM_len hv3]; exact hlt9)
            have g3 := bget_at' (l := reachM (withP z5 (z5.prods.take z45 ++ (rows[z45].2.2.1, r) :: z5.prods.drop z45))) (i := i) (by rw [reachM_len hv3]; exact hlt9)
            have g4 := enc_at' (f := fl (withP z5 (z5.prods.take z45 ++ (rows[z45].2.2.1, r) :: z5.prods.drop z45))) (o := -1) (i := i) (by rw [(fl_least hv3).len]; exact hlt9)
            have g5 := enc_at' (f := ft (withP z5 (z5.prods.take z45 ++ (rows[z45].2.2.1, r) :: z5.prods.drop z45))) (o := 0) (i := i) (by rw [(ft_least hv3).len]; exact hlt9)
            rw [← len_fl] at f4 g4
            rw [← tree_ft] at f5 g5
            obtain ⟨c1, c2, c3⟩ := hall1 (s := 16 + (i : Int)) (by omega)
            have c4 := hall2 (s := 16 + (i : Int)) (by omega)
            have c5 := hall3 (s := 16 + (i : Int)) (by omega)
            refine more_round _ _ (by exact rfl) _ z5.names.length i hlt9 hnn.2 _ _ _ _ _ _ _ _ _ _ _ _ _ _ _ _ _ _ _ _ _ _ _ _ _ _ _ _ _ _ s1 s2 s3 s4 s5 (by assumption) (by assumption) (by assumption) (by assumption) (by assumption) _ _ _ _ _ _ _ _ _ _ f1 f2 f3 f4 f5 g1 g2 g3 g4 g5 c1 c2 c3 c4 c5 ?_
            exact G_again (i + 1) hlt9 (by omega) ⟨rfl, rfl, rfl, rfl, rfl, rfl, rfl, rfl, rfl, rfl, rfl, rfl, trivial⟩ rfl rfl
          · refine G_seq ?_
            refine G_seq ?_
            refine G_region ?_
            refine G_val (V_move rfl rfl) rfl rfl (.none rfl) ?_
            refine G_val (V_move rfl rfl) rfl rfl (.none rfl) ?_
            refine G_val (V_lenS rfl rfl) rfl rfl (.none rfl) ?_
            refine G_val (V_lss rfl rfl rfl) rfl rfl (.none rfl) ?_
            refine G_end ?_
            refine X_then ?_
            refine G_cond_f rfl (decide_eq_false (by omega)) ?_
            refine G_exit ?_
            refine X_then_exit ?_
            refine X_then_exit ?_
            refine X_block_hit ?_
            refine X_then ?_
            refine G_seq ?_
            refine G_region ?_
            refine G_val (V_move rfl rfl) rfl rfl (.none rfl) ?_
            refine G_val (V_assign rfl rfl) rfl rfl (.none rfl) ?_
            refine G_end ?_
            refine X_then ?_
            refine G_ret ?_
            exact G_leave 0 (.cons (.tmp rfl) .nil) rfl (by repeat (first | assumption | refine Env.Le.trans (by assumption) ?_)) ⟨rfl, rfl⟩
end
end Go.Proofs.Ytaoinojdijbhaaa
