/-
  Rules and contracts, packed: D29, D35, D32, D19, Sep25, D33, D36.
-/
import Derived.Test.YtaoinojdijbhaaaQ8
set_option maxHeartbeats 1000000
set_option linter.unusedSimpArgs false
set_option linter.unusedVariables false
set_option maxHeartbeats 2000000
set_option maxRecDepth 20000
namespace Go.Proofs.Ytaoinojdijbhaaa
open Go.RowKit
theorem emptyM_ok {g : Gr} (hc : gcheck g = 0) {r : List Int} (h : ∀ s, s ∈ r → termB g s = true ∨ ntB g s = true) : emptyM g r = (r.all (goodB false (nullM g)), 0) := by
  have h2 : r.any (fun s => !termB g s && !ntB g s) = false := by
    rw [List.any_eq_false]
    intro s hs
    rcases h s hs with h | h <;> simp [h]
  rw [emptyM, if_pos hc, h2]; rfl
section
variable (E : Env) (L : List Res)
theorem Yields_call' (gv : Value) (g : Gr) (hg : GrE E gv g) (hl : Light g) (hc : gcheck g = 0) : CallS Try.prog 33 #[gv] E L (fun r E' L' => ∃ p c, r = .tuple #[.slice p g.names.length c, .int .i64 0] ∧ SlE E' 1 p g.names.length (bools (yieldsM g)) ∧ L' = L) := by
  have h := Yields_call E L gv g hg hl
  rwa [okL_pos hc, yieldsM_len (valid_of hc), hc] at h
theorem Nullable_call' (gv : Value) (g : Gr) (hg : GrE E gv g) (hl : Light g) (hc : gcheck g = 0) : CallS Try.prog 38 #[gv] E L (fun r E' L' => ∃ p c, r = .tuple #[.slice p g.names.length c, .int .i64 0] ∧ SlE E' 1 p g.names.length (bools (nullM g)) ∧ L' = L) := by
  have h := Nullable_call E L gv g hg hl
  rwa [okL_pos hc, nullM_len (valid_of hc), hc] at h
theorem Reached_call' (gv : Value) (g : Gr) (hg : GrE E gv g) (hl : Light g) (hc : gcheck g = 0) : CallS Try.prog 36 #[gv] E L (fun r E' L' => ∃ p c, r = .tuple #[.slice p g.names.length c, .int .i64 0] ∧ SlE E' 1 p g.names.length (bools (reachM g)) ∧ L' = L) := by
  have h := Reached_call E L gv g hg hl
  rwa [okL_pos hc, reachM_len (valid_of hc), hc] at h
theorem Lengths_call' (gv : Value) (g : Gr) (hg : GrE E gv g) (hl : Light g) (hc : gcheck g = 0) : CallS Try.prog 40 #[gv] E L (fun r E' L' => ∃ p c, r = .tuple #[.slice p g.names.length c, .int .i64 0] ∧ SlE E' 1 p g.names.length (i64s (lengthsM g)) ∧ L' = L) := by
  have h := Lengths_call E L gv g hg hl
  rwa [okL_pos hc, lengthsM_len (valid_of hc), hc] at h
theorem Trees_call' (gv : Value) (g : Gr) (hg : GrE E gv g) (hl : Light g) (hc : gcheck g = 0) : CallS Try.prog 42 #[gv] E L (fun r E' L' => ∃ p c, r = .tuple #[.slice p g.names.length c, .int .i64 0] ∧ SlE E' 1 p g.names.length (i64s (treesM g)) ∧ L' = L) := by
  have h := Trees_call E L gv g hg hl
  rwa [okL_pos hc, treesM_len (valid_of hc), hc] at h
theorem Below_call' (gv : Value) (g : Gr) (hg : GrE E gv g) (hl : Light g) (m : Int) (hc : gcheck g = 0) (h0 : 0 ≤ m) (h1 : m < g.names.length) : CallS Try.prog 48 #[gv, .int .i64 m] E L (fun r E' L' => ∃ p c, r = .tuple #[.slice p g.names.length c, .int .i64 0] ∧ SlE E' 1 p g.names.length (bools (belowM g m)) ∧ L' = L) := by
  have h := Below_call E L gv g hg hl m
  have e1 : belowE g m = 0 := by rw [belowE, if_pos hc, if_neg (by omega)]
  have e2 : belowL g m = belowM g m := by rw [belowL, if_pos e1]
  have e3 : (belowM g m).length = g.names.length := reachL_len (valid_of hc).wf (by omega) (by omega)
  rwa [e1, e2, e3] at h
theorem Empty_call' (gv : Value) (g : Gr) (hg : GrE E gv g) (hl : Light g) (rp : Option Addr) (rc n : Nat) (r : List Int) (hr : SlE E 1 rp n (i64s r)) (hc : gcheck g = 0) (h12 : n ≤ 1000) (hri : ∀ s, s ∈ r → termB g s = true ∨ ntB g s = true) :
    CallV Try.prog 46 #[gv, .slice rp n rc] E L (.tuple #[.bool (r.all (goodB false (nullM g))), .int .i64 0]) := by
  have e := hr.nI
  subst e
  have hv := valid_of hc
  have h := Empty_call E L gv g hg hl rp rc r hr h12 fun s hs => by
    have h1 := hv.toks.2; have h2 := hv.names.2
    rcases hri s hs with h | h
    · simp only [termB, Bool.and_eq_true, decide_eq_true_eq] at h; omega
    · simp only [ntB, Bool.and_eq_true, decide_eq_true_eq] at h; omega
  rwa [emptyM_ok hc hri] at h
theorem tells_call (gv : Value) (g : Gr) (hg : GrE E gv g) (hl : Light g) (hc : gcheck g = 0) : CallS Try.prog 54 #[gv] E L (fun r E' L' => ∃ p1 c1 p2 c2 p3 c3 p4 c4 p5 c5,
    r = .tuple #[.slice p1 g.names.length c1, .slice p2 g.names.length c2, .slice p3 g.names.length c3, .slice p4 g.names.length c4, .slice p5 g.names.length c5, .bool true] ∧
    SlE E' 1 p1 g.names.length (bools (yieldsM g)) ∧ SlE E' 1 p2 g.names.length (bools (nullM g)) ∧ SlE E' 1 p3 g.names.length (bools (reachM g)) ∧ SlE E' 1 p4 g.names.length (i64s (lengthsM g)) ∧ SlE E' 1 p5 g.names.length (i64s (treesM g)) ∧ L' = L) := by
  have hg0 := hg
  obtain ⟨tp, tc, np, nc, pp, pc, rfl, ht, hn, hps, k1, k2, k3⟩ := hg
  have hv := valid_of hc
  have v1 := hv.names
  refine CallS.intro (l := [_]) _ Try.func54 rfl Try.ntmps54 rfl ?_
  refine G_seq (G_region ?_)
  (refine G_boxA rfl rfl rfl rfl (.none rfl) ?_; intro b1)
  refine G_val (V_assign rfl rfl) rfl rfl (.none rfl) ?_
  refine G_val (V_assign rfl rfl) rfl rfl (.none rfl) ?_
  refine G_val (V_assign rfl rfl) rfl rfl (.none rfl) ?_
  refine G_val (V_assign rfl rfl) rfl rfl (.none rfl) ?_
  refine G_val (V_assign rfl rfl) rfl rfl (.none rfl) ?_
  refine G_val (V_assign rfl rfl) rfl rfl (.none rfl) ?_
  refine G_end (X_then (G_seq (G_region ?_)))
  refine G_val (V_loadA rfl rfl (Cells.own (.head _)) rfl) rfl rfl (.none rfl) ?_
  refine G_call (k := 33) (.mk rfl rfl rfl rfl) rfl rfl (.none rfl) (Yields_call' _ _ _ _ (by assumption) (by assumption) (by assumption)) ?_
  rintro r1 E2 L3 hE4 ⟨z5, ⟨z6, ⟨rfl, ⟨Z7, rfl⟩⟩⟩⟩
  replace hg0 := hg0.mono hE4
  replace ht := ht.mono hE4
  replace hn := hn.mono hE4
  replace hps := hps.mono hE4
  refine G_val (V_move rfl rfl) rfl rfl (.none rfl) ?_
  refine G_val (V_extract rfl rfl rfl) rfl rfl (.none rfl) ?_
  refine G_val (V_extract rfl rfl rfl) rfl rfl (.none rfl) ?_
  refine G_val (V_assign rfl rfl) rfl rfl (.none rfl) ?_
  refine G_val (V_assign rfl rfl) rfl rfl (.none rfl) ?_
  refine G_end (X_then (G_seq (G_region ?_)))
  refine G_val (V_loadA rfl rfl (Cells.own (.head _)) rfl) rfl rfl (.none rfl) ?_
  refine G_call (k := 38) (.mk rfl rfl rfl rfl) rfl rfl (.none rfl) (Nullable_call' _ _ _ _ (by assumption) (by assumption) (by assumption)) ?_
  rintro r8 E9 L10 hE11 ⟨z12, ⟨z13, ⟨rfl, ⟨Z14, rfl⟩⟩⟩⟩
  replace Z7 := Z7.mono hE11
  replace hg0 := hg0.mono hE11
  replace ht := ht.mono hE11
  replace hn := hn.mono hE11
  replace hps := hps.mono hE11
  refine G_val (V_move rfl rfl) rfl rfl (.none rfl) ?_
  refine G_val (V_extract rfl rfl rfl) rfl rfl (.none rfl) ?_
  refine G_val (V_extract rfl rfl rfl) rfl rfl (.none rfl) ?_
  refine G_val (V_assign rfl rfl) rfl rfl (.none rfl) ?_
  refine G_val (V_assign rfl rfl) rfl rfl (.none rfl) ?_
  refine G_end (X_then (G_seq (G_region ?_)))
  refine G_val (V_loadA rfl rfl (Cells.own (.head _)) rfl) rfl rfl (.none rfl) ?_
  refine G_call (k := 36) (.mk rfl rfl rfl rfl) rfl rfl (.none rfl) (Reached_call' _ _ _ _ (by assumption) (by assumption) (by assumption)) ?_
  rintro r15 E16 L17 hE18 ⟨z19, ⟨z20, ⟨rfl, ⟨Z21, rfl⟩⟩⟩⟩
  replace Z14 := Z14.mono hE18
  replace Z7 := Z7.mono hE18
  replace hg0 := hg0.mono hE18
  replace ht := ht.mono hE18
  replace hn := hn.mono hE18
  replace hps := hps.mono hE18
  refine G_val (V_move rfl rfl) rfl rfl (.none rfl) ?_
  refine G_val (V_extract rfl rfl rfl) rfl rfl (.none rfl) ?_
  refine G_val (V_extract rfl rfl rfl) rfl rfl (.none rfl) ?_
  refine G_val (V_assign rfl rfl) rfl rfl (.none rfl) ?_
  refine G_val (V_assign rfl rfl) rfl rfl (.none rfl) ?_
  refine G_end (X_then (G_seq (G_region ?_)))
  refine G_val (V_loadA rfl rfl (Cells.own (.head _)) rfl) rfl rfl (.none rfl) ?_
  refine G_call (k := 40) (.mk rfl rfl rfl rfl) rfl rfl (.none rfl) (Lengths_call' _ _ _ _ (by assumption) (by assumption) (by assumption)) ?_
  rintro r22 E23 L24 hE25 ⟨z26, ⟨z27, ⟨rfl, ⟨Z28, rfl⟩⟩⟩⟩
  replace Z21 := Z21.mono hE25
  replace Z14 := Z14.mono hE25
  replace Z7 := Z7.mono hE25
  replace hg0 := hg0.mono hE25
  replace ht := ht.mono hE25
  replace hn := hn.mono hE25
  replace hps := hps.mono hE25
  refine G_val (V_move rfl rfl) rfl rfl (.none rfl) ?_
  refine G_val (V_extract rfl rfl rfl) rfl rfl (.none rfl) ?_
  refine G_val (V_extract rfl rfl rfl) rfl rfl (.none rfl) ?_
  refine G_val (V_assign rfl rfl) rfl rfl (.none rfl) ?_
  refine G_val (V_assign rfl rfl) rfl rfl (.none rfl) ?_
  refine G_end (X_then (G_seq (G_region ?_)))
  refine G_val (V_loadA rfl rfl (Cells.own (.head _)) rfl) rfl rfl (.none rfl) ?_
  refine G_call (k := 42) (.mk rfl rfl rfl rfl) rfl rfl (.none rfl) (Trees_call' _ _ _ _ (by assumption) (by assumption) (by assumption)) ?_
  rintro r29 E30 L31 hE32 ⟨z33, ⟨z34, ⟨rfl, ⟨Z35, rfl⟩⟩⟩⟩
  replace Z28 := Z28.mono hE32
  replace Z21 := Z21.mono hE32
  replace Z14 := Z14.mono hE32
  replace Z7 := Z7.mono hE32
  replace hg0 := hg0.mono hE32
  replace ht := ht.mono hE32
  replace hn := hn.mono hE32
  replace hps := hps.mono hE32
  refine G_val (V_move rfl rfl) rfl rfl (.none rfl) ?_
  refine G_val (V_extract rfl rfl rfl) rfl rfl (.none rfl) ?_
  refine G_val (V_extract rfl rfl rfl) rfl rfl (.none rfl) ?_
  refine G_val (V_assign rfl rfl) rfl rfl (.none rfl) ?_
  refine G_val (V_assign rfl rfl) rfl rfl (.none rfl) ?_
  refine G_end (X_then (G_seq (G_region ?_)))
  refine G_val (V_fieldAddr rfl rfl (by decide)) rfl rfl (.none rfl) ?_
  refine G_val (V_load rfl rfl (Cell.own (.head _) rfl)) rfl rfl (.none rfl) ?_
  refine G_val (V_lenS rfl rfl) rfl rfl (.none rfl) ?_
  refine G_val (V_assign rfl rfl) rfl rfl (.none rfl) ?_
  refine G_end (X_then (G_seq (G_region ?_)))
  refine G_val (V_move rfl rfl) rfl rfl (.none rfl) ?_
  refine G_val (V_eql rfl rfl rfl) rfl rfl (.none rfl) ?_
  refine G_val (V_move rfl rfl) rfl rfl (.none rfl) ?_
  refine G.bool_t 44 rfl (by kernel_rfl) ?_
  refine G_val (V_move rfl rfl) rfl rfl (.yes rfl rfl rfl rfl) ?_
  refine G_val (V_eql rfl rfl rfl) rfl rfl (.yes rfl rfl rfl rfl) ?_
  refine G_val (V_pick_t rfl rfl rfl) rfl rfl (.none rfl) ?_
  refine G_val (V_move rfl rfl) rfl rfl (.none rfl) ?_
  refine G.bool_t 48 rfl (by kernel_rfl) ?_
  refine G_val (V_move rfl rfl) rfl rfl (.yes rfl rfl rfl rfl) ?_
  refine G_val (V_eql rfl rfl rfl) rfl rfl (.yes rfl rfl rfl rfl) ?_
  refine G_val (V_pick_t rfl rfl rfl) rfl rfl (.none rfl) ?_
  refine G_val (V_move rfl rfl) rfl rfl (.none rfl) ?_
  refine G.bool_t 52 rfl (by kernel_rfl) ?_
  refine G_val (V_move rfl rfl) rfl rfl (.yes rfl rfl rfl rfl) ?_
  refine G_val (V_eql rfl rfl rfl) rfl rfl (.yes rfl rfl rfl rfl) ?_
  refine G_val (V_pick_t rfl rfl rfl) rfl rfl (.none rfl) ?_
  refine G_val (V_move rfl rfl) rfl rfl (.none rfl) ?_
  refine G.bool_t 56 rfl (by kernel_rfl) ?_
  refine G_val (V_move rfl rfl) rfl rfl (.yes rfl rfl rfl rfl) ?_
  refine G_val (V_eql rfl rfl rfl) rfl rfl (.yes rfl rfl rfl rfl) ?_
  refine G_val (V_pick_t rfl rfl rfl) rfl rfl (.none rfl) ?_
  refine G_val (V_move rfl rfl) rfl rfl (.none rfl) ?_
  refine G.bool_t 60 rfl (by kernel_rfl) ?_
  refine G_val (V_move rfl rfl) rfl rfl (.yes rfl rfl rfl rfl) ?_
  refine G_val (V_lenS rfl rfl) rfl rfl (.yes rfl rfl rfl rfl) ?_
  refine G_val (V_move rfl rfl) rfl rfl (.yes rfl rfl rfl rfl) ?_
  refine G_val (V_eql rfl rfl rfl) rfl rfl (.yes rfl rfl rfl rfl) ?_
  refine G_val (V_pick_t rfl rfl rfl) rfl rfl (.none rfl) ?_
  refine G_val (V_move rfl rfl) rfl rfl (.none rfl) ?_
  refine G.bool_t 66 rfl (decide_eq_true (by omega)) ?_
  refine G_val (V_move rfl rfl) rfl rfl (.yes rfl rfl rfl rfl) ?_
  refine G_val (V_lenS rfl rfl) rfl rfl (.yes rfl rfl rfl rfl) ?_
  refine G_val (V_move rfl rfl) rfl rfl (.yes rfl rfl rfl rfl) ?_
  refine G_val (V_eql rfl rfl rfl) rfl rfl (.yes rfl rfl rfl rfl) ?_
  refine G_val (V_pick_t rfl rfl rfl) rfl rfl (.none rfl) ?_
  refine G_val (V_move rfl rfl) rfl rfl (.none rfl) ?_
  refine G.bool_t 72 rfl (decide_eq_true (by omega)) ?_
  refine G_val (V_move rfl rfl) rfl rfl (.yes rfl rfl rfl rfl) ?_
  refine G_val (V_lenS rfl rfl) rfl rfl (.yes rfl rfl rfl rfl) ?_
  refine G_val (V_move rfl rfl) rfl rfl (.yes rfl rfl rfl rfl) ?_
  refine G_val (V_eql rfl rfl rfl) rfl rfl (.yes rfl rfl rfl rfl) ?_
  refine G_val (V_pick_t rfl rfl rfl) rfl rfl (.none rfl) ?_
  refine G_val (V_move rfl rfl) rfl rfl (.none rfl) ?_
  refine G.bool_t 78 rfl (decide_eq_true (by omega)) ?_
  refine G_val (V_move rfl rfl) rfl rfl (.yes rfl rfl rfl rfl) ?_
  refine G_val (V_lenS rfl rfl) rfl rfl (.yes rfl rfl rfl rfl) ?_
  refine G_val (V_move rfl rfl) rfl rfl (.yes rfl rfl rfl rfl) ?_
  refine G_val (V_eql rfl rfl rfl) rfl rfl (.yes rfl rfl rfl rfl) ?_
  refine G_val (V_pick_t rfl rfl rfl) rfl rfl (.none rfl) ?_
  refine G_val (V_move rfl rfl) rfl rfl (.none rfl) ?_
  refine G.bool_t 84 rfl (decide_eq_true (by omega)) ?_
  refine G_val (V_move rfl rfl) rfl rfl (.yes rfl rfl rfl rfl) ?_
  refine G_val (V_lenS rfl rfl) rfl rfl (.yes rfl rfl rfl rfl) ?_
  refine G_val (V_move rfl rfl) rfl rfl (.yes rfl rfl rfl rfl) ?_
  refine G_val (V_eql rfl rfl rfl) rfl rfl (.yes rfl rfl rfl rfl) ?_
  refine G_val (V_pick_t rfl rfl rfl) rfl rfl (.none rfl) ?_
  refine G_val (V_assign rfl rfl) rfl rfl (.none rfl) ?_
  refine G_end (X_then (G_seq (G_region ?_)))
  refine G_val (V_move rfl rfl) rfl rfl (.none rfl) ?_
  refine G_val (V_move rfl rfl) rfl rfl (.none rfl) ?_
  refine G_val (V_move rfl rfl) rfl rfl (.none rfl) ?_
  refine G_val (V_move rfl rfl) rfl rfl (.none rfl) ?_
  refine G_val (V_move rfl rfl) rfl rfl (.none rfl) ?_
  refine G_val (V_move rfl rfl) rfl rfl (.none rfl) ?_
  refine G_val (V_assign rfl rfl) rfl rfl (.none rfl) ?_
  refine G_val (V_assign rfl rfl) rfl rfl (.none rfl) ?_
  refine G_val (V_assign rfl rfl) rfl rfl (.none rfl) ?_
  refine G_val (V_assign rfl rfl) rfl rfl (.none rfl) ?_
  refine G_val (V_assign rfl rfl) rfl rfl (.none rfl) ?_
  refine G_val (V_assign rfl rfl) rfl rfl (.none rfl) ?_
  refine G_end (X_then (G_ret ?_))
  refine G_leaveS (.drop _ (.nil _)) (by exact (.cons (.tmp rfl) (.cons (.tmp rfl) (.cons (.tmp rfl) (.cons (.tmp rfl) (.cons (.tmp rfl) (.cons (.tmp rfl) (.nil)))))))) rfl ?_ ?_
  · exact ((((hE4.trans hE11).trans hE18).trans hE25).trans hE32)
  exact ⟨_, ⟨_, ⟨_, ⟨_, ⟨_, ⟨_, ⟨_, ⟨_, ⟨_, ⟨_, ⟨(by (simp (discharger := omega) only [resVal, if_pos, if_neg]; first | done | rfl)), ⟨(by assumption), ⟨(by assumption), ⟨(by assumption), ⟨(by assumption), ⟨(by assumption), (by rfl)⟩⟩⟩⟩⟩⟩⟩⟩⟩⟩⟩⟩⟩⟩⟩⟩
end
end Go.Proofs.Ytaoinojdijbhaaa
namespace Go.Proofs.Ytaoinojdijbhaaa
open Go.RowKit
def fl (g : Gr) : Tab := best g.prods g.names.length (some 1) 0
def ft (g : Gr) : Tab := best g.prods g.names.length none 1
theorem fl_least {g : Gr} (hv : Valid g) : IsLeast g.prods g.names.length (some 1) 0 (fl g) := best_least hv.wf (small_one 1 0 (by decide) (by decide))
theorem ft_least {g : Gr} (hv : Valid g) : IsLeast g.prods g.names.length none 1 (ft g) := best_least hv.wf (small_none 1 (by decide))
theorem yields_fl {g : Gr} (hv : Valid g) : yieldsM g = (fl g).map Option.isSome := best_some hv.wf (small_tb true 0 (by decide)) (small_one 1 0 (by decide) (by decide)) rfl
theorem null_ft {g : Gr} (hv : Valid g) : nullM g = (ft g).map Option.isSome := best_some hv.wf (small_tb false 0 (by decide)) (small_none 1 (by decide)) rfl
theorem enc_at {f : Tab} {o s : Int} (h1 : 16 ≤ s) (h2 : s < 16 + (f.length : Int)) : (i64s (f.map (encR o)))[(s - 16).toNat]? = some (.int .i64 (encR o (tget f s))) := by
  have h : (s - 16).toNat < f.length := by omega
  simp [i64s, tget, h]
theorem some_at {f : Tab} {s : Int} (h1 : 16 ≤ s) (h2 : s < 16 + (f.length : Int)) : (bools (f.map Option.isSome))[(s - 16).toNat]? = some (.bool (tget f s).isSome) := by
  have h : (s - 16).toNat < f.length := by omega
  simp [bools, tget, h]
def valI (tm o : Int) (f : Tab) (s : Int) : Int := if s < 16 then tm else encR o (tget f s)
def sumI (tm o : Int) (f : Tab) (r : List Int) : Int := (r.map (valI tm o f)).sum
theorem sumI_take {tm o : Int} {f : Tab} {r : List Int} {k : Nat} (h : k < r.length) : sumI tm o f (r.take (k + 1)) = sumI tm o f (r.take k) + valI tm o f r[k] := by
  rw [sumI, sumI, List.take_succ_eq_append_getElem h, List.map_append, List.sum_append]
  simp only [List.map_cons, List.map_nil, List.sum_cons, List.sum_nil, Int.add_zero]
theorem sumI_le {tm o : Int} {f : Tab} {B : Nat} (hB : ∀ s, -(B : Int) ≤ valI tm o f s ∧ valI tm o f s ≤ B) (r : List Int) : -((r.length * B : Nat) : Int) ≤ sumI tm o f r ∧ sumI tm o f r ≤ ((r.length * B : Nat) : Int) := by
  induction r with
  | nil => exact ⟨by simp [sumI], by simp [sumI]⟩
  | cons s r ih =>
    have := hB s
    have e : sumI tm o f (s :: r) = valI tm o f s + sumI tm o f r := rfl
    rw [e, List.length_cons, Nat.add_mul, Nat.one_mul]
    omega
theorem cost_good {t : Option Nat} {f : Tab} {r : List Int} {tm o : Int} {b : Bool} (ht : ∀ k, t = some k → tm = k) (hb : b = t.isSome) :
    (r.all (goodB b (f.map Option.isSome)) = true → ∃ c, cost t f r = some c ∧ (c : Int) = sumI tm o f r) ∧ (r.all (goodB b (f.map Option.isSome)) = false → cost t f r = none) := by
  have hsy : ∀ s, (symc t f s).isSome = goodB b (f.map Option.isSome) s := by
    intro s
    rw [symc, goodB, bget_some]
    by_cases h : s < 16
    · rw [if_pos h, if_pos h, hb]
    · rw [if_neg h, if_neg h]
  rw [cost_sum]
  have e : (fun s => (symc t f s).isSome) = goodB b (f.map Option.isSome) := funext hsy
  rw [e]
  constructor
  · intro h
    rw [if_pos h]
    refine ⟨_, rfl, ?_⟩
    clear e
    induction r with
    | nil => rfl
    | cons s r ih =>
      rw [List.all_cons, Bool.and_eq_true] at h
      have h1 := ih h.2
      have h2 : (valS t f s : Int) = valI tm o f s := by
        have h3 := hsy s
        rw [h.1] at h3
        rw [valS, valI]
        rw [symc] at h3 ⊢
        by_cases hs : s < 16
        · rw [if_pos hs] at h3 ⊢
          rw [if_pos hs]
          cases t with
          | none => cases h3
          | some k => exact (ht k rfl).symm
        · rw [if_neg hs] at h3 ⊢
          rw [if_neg hs]
          cases htg : tget f s with
          | none => rw [htg] at h3; cases h3
          | some k => rfl
      show ((valS t f s + sumS t f r : Nat) : Int) = valI tm o f s + sumI tm o f r
      omega
  · intro h
    rw [if_neg (by rw [h]; decide)]
theorem len_fl (g : Gr) : lengthsM g = (fl g).map (encR (-1)) := rfl
theorem tree_ft (g : Gr) : treesM g = (ft g).map (encR 0) := rfl
theorem val_bound {ps : List Pr} {n own : Nat} {t : Option Nat} (hw : Wf ps n) (hs : Small t own) {tm o : Int} (h1 : -1 ≤ tm ∧ tm ≤ 1) (h2 : -1 ≤ o ∧ o ≤ 1) (s : Int) : -((1099511627776 : Nat) : Int) ≤ valI tm o (best ps n t own) s ∧ valI tm o (best ps n t own) s ≤ ((1099511627776 : Nat) : Int) := by
  rw [valI]
  by_cases h : s < 16
  · rw [if_pos h]; omega
  · rw [if_neg h]
    cases hc : tget (best ps n t own) s with
    | none => show _ ≤ o ∧ o ≤ _; omega
    | some c => have := best_le hw hs hc; show _ ≤ (c : Int) ∧ (c : Int) ≤ _; omega
/-- What the program's comparison does to the least one so far. -/
theorem minO_enc {o : Int} (w c : Option Nat) : minO w c = match c with
    | none => w
    | some c => if w = none ∨ (c : Int) < encR o w then some c else w := by
  cases c with
  | none => exact minO_none w
  | some c =>
    cases w with
    | none => simp [minO]
    | some d =>
      show (if c < d then some c else some d) = if some d = none ∨ (c : Int) < (d : Int) then some c else some d
      by_cases h : c < d
      · rw [if_pos h, if_pos (.inr (by omega))]
      · rw [if_neg h, if_neg]
        rintro (h1 | h1)
        · cases h1
        · omega
theorem len_null {g : Gr} (hv : Valid g) {s : Int} (hs : 16 ≤ s) : (tget (ft g) s).isSome = decide (encR (-1) (tget (fl g) s) = 0) := by
  rw [null_zero (fl_least hv) (ft_least hv) hs]
  cases tget (fl g) s with
  | none => rfl
  | some c =>
    show decide (some c = some 0) = decide ((c : Int) = 0)
    by_cases h : c = 0
    · subst h; rfl
    · rw [decide_eq_false (by simpa using h), decide_eq_false (by omega)]
theorem fl_bound {g : Gr} (hv : Valid g) (s : Int) : -((1099511627776 : Nat) : Int) ≤ valI 1 (-1) (fl g) s ∧ valI 1 (-1) (fl g) s ≤ ((1099511627776 : Nat) : Int) := val_bound hv.wf (small_one 1 0 (by decide) (by decide)) (by decide) (by decide) s
theorem ft_bound {g : Gr} (hv : Valid g) (s : Int) : -((1099511627776 : Nat) : Int) ≤ valI 0 0 (ft g) s ∧ valI 0 0 (ft g) s ≤ ((1099511627776 : Nat) : Int) := val_bound hv.wf (small_none 1 (by decide)) (by decide) (by decide) s
theorem encR_none {o : Int} {t : Option Nat} {own : Nat} {f : Tab} {s : Int} {l : List Pr} (ho : o = -1 ∨ (o = 0 ∧ 1 ≤ own)) : encR o (foldC t own f s l) = o ↔ foldC t own f s l = none := by
  cases hw : foldC t own f s l with
  | none => simp [encR]
  | some d =>
    simp only [reduceCtorEq, iff_false]
    show ¬ (d : Int) = o
    rcases ho with rfl | ⟨rfl, h1⟩
    · omega
    · rcases foldC_from l none d hw with h | ⟨p, _, _, c, _, rfl⟩
      · cases h
      · omega
theorem step_code {ps : List Pr} {t : Option Nat} {own : Nat} {f : Tab} {o tm s : Int} {b : Bool} {k : Nat} {p : Pr} (hk : k < ps.length) (hp : ps[k] = p) (hs : p.1 = s) (ht : ∀ k, t = some k → tm = k) (hb : b = t.isSome) (ho : o = -1 ∨ (o = 0 ∧ 1 ≤ own)) :
    (p.2.all (goodB b (f.map Option.isSome)) = true → (encR o (foldC t own f s (ps.take k)) = o ∨ own + sumI tm o f p.2 < encR o (foldC t own f s (ps.take k))) → encR o (foldC t own f s (ps.take (k + 1))) = own + sumI tm o f p.2 ∧ (foldC t own f s (ps.take (k + 1))).isSome = true) ∧
    (p.2.all (goodB b (f.map Option.isSome)) = true → ¬ (encR o (foldC t own f s (ps.take k)) = o ∨ own + sumI tm o f p.2 < encR o (foldC t own f s (ps.take k))) → encR o (foldC t own f s (ps.take (k + 1))) = encR o (foldC t own f s (ps.take k)) ∧ (foldC t own f s (ps.take (k + 1))).isSome = true) ∧
    (p.2.all (goodB b (f.map Option.isSome)) = false → foldC t own f s (ps.take (k + 1)) = foldC t own f s (ps.take k)) := by
  subst hp
  have h0 := encR_none (t := t) (f := f) (s := s) (l := ps.take k) ho
  rw [foldC_snoc hk, stepC, if_pos hs]
  obtain ⟨c1, c2⟩ := cost_good (t := t) (f := f) (r := ps[k].2) (tm := tm) (o := o) ht hb
  refine ⟨fun hg hu => ?_, fun hg hu => ?_, fun hg => ?_⟩
  · obtain ⟨c, h1, h2⟩ := c1 hg
    rw [h1, show addO (some own) (some c) = some (own + c) from rfl, minO_enc (o := o)]
    simp only
    rw [if_pos (by rcases hu with hu | hu; exact .inl (h0.1 hu); exact .inr (by omega))]
    exact ⟨by show ((own + c : Nat) : Int) = _; omega, rfl⟩
  · obtain ⟨c, h1, h2⟩ := c1 hg
    rw [h1, show addO (some own) (some c) = some (own + c) from rfl, minO_enc (o := o)]
    simp only
    rw [if_neg (by rintro (h | h); exact hu (.inl (h0.2 h)); exact hu (.inr (by omega)))]
    refine ⟨rfl, ?_⟩
    cases hw : foldC t own f s (ps.take k) with
    | none => exact absurd (.inl (h0.2 hw)) hu
    | some d => rfl
  · rw [c2 hg, show addO (some own) none = none from rfl, minO_none]
theorem skip_code {ps : List Pr} {t : Option Nat} {own : Nat} {f : Tab} {s : Int} {k : Nat} {p : Pr} (hk : k < ps.length) (hp : ps[k] = p) (hs : ¬ p.1 = s) : foldC t own f s (ps.take (k + 1)) = foldC t own f s (ps.take k) := by
  subst hp
  rw [foldC_snoc hk, stepC, if_neg hs]
theorem all_take {α : Type} {l : List α} {i : Nat} {f : α → Bool} (h : i < l.length) : (l.take (i + 1)).all f = ((l.take i).all f && f l[i]) := by
  rw [List.take_succ_eq_append_getElem h, List.all_append, List.all_cons, List.all_nil, Bool.and_true]
theorem enc_lo {o : Int} (h : -1 ≤ o) (w : Option Nat) : -1 ≤ encR o w := by
  cases w with
  | none => exact h
  | some d => show -1 ≤ (d : Int); omega
end Go.Proofs.Ytaoinojdijbhaaa
namespace Go.Proofs.Ytaoinojdijbhaaa
open Go.RowKit
/-! Other productions. -/
theorem D.mono {ps ps' : List Pr} (h : ∀ p, p ∈ ps → p ∈ ps') {t : Option Nat} {own : Nat} {r : List Int} {c : Nat} (hd : D ps t own r c) : D ps' t own r c := by
  induction hd with
  | nil => exact .nil
  | term h1 h2 _ ih => exact .term h1 h2 ih
  | non hp h16 _ _ ih1 ih2 => exact .non (h _ hp) h16 ih1 ih2
theorem IsLeast.mono {ps ps' : List Pr} {n : Nat} {t : Option Nat} {own : Nat} {f f' : Tab} (h1 : IsLeast ps n t own f) (h2 : IsLeast ps' n t own f') (h : ∀ p, p ∈ ps → p ∈ ps') {s : Int} (hs : 16 ≤ s) {c : Nat} (hc : tget f s = some c) : ∃ c', tget f' s = some c' ∧ c' ≤ c := by
  obtain ⟨c', h3, h4⟩ := h2.stable.le ((h1.sound s c hs hc).mono h)
  rw [cost] at h3
  obtain ⟨x, y, h5, h6, rfl⟩ := addO_some h3
  refine ⟨x, ?_, by omega⟩
  rw [symc, if_neg (by omega)] at h5; exact h5
theorem best_same {ps ps' : List Pr} {n : Nat} {t : Option Nat} {own : Nat} (hw : Wf ps n) (hw' : Wf ps' n) (hs : Small t own) (h : ∀ p, p ∈ ps ↔ p ∈ ps') : best ps n t own = best ps' n t own := by
  refine (IsLeast.uniq ?_ (best_least hw' hs))
  have := best_least hw hs
  exact ⟨this.len, fun p hp => this.stable p ((h p).2 hp), fun s c h16 hc => (this.sound s c h16 hc).mono fun p hp => (h p).1 hp⟩
theorem rrules_sub {ps ps' : List Pr} {a : Int} (h : ∀ p, p ∈ ps → p ∈ ps') : ∀ q, q ∈ rrules ps a → q ∈ rrules ps' a := by
  intro q hq
  rcases mem_rrules.1 hq with rfl | ⟨p, s, hp, h1⟩
  · exact mem_rrules.2 (.inl rfl)
  · exact mem_rrules.2 (.inr ⟨p, s, h p hp, h1⟩)
def withP (g : Gr) (ps : List Pr) : Gr := ⟨g.k, g.toks, g.sep, g.names, g.start, ps⟩
theorem check_withP {g : Gr} {ps : List Pr} (hc : gcheck g = 0) (hlen : ps.length ≤ 24) (hr : ∀ p, p ∈ ps → p.2.length ≤ 6) (hl : ∀ p, p ∈ ps → 16 ≤ p.1 ∧ p.1 < 16 + (g.names.length : Int))
    (hs : ∀ p, p ∈ ps → ∀ s, s ∈ p.2 → (0 ≤ s ∧ s < g.toks.length) ∨ (16 ≤ s ∧ s < 16 + (g.names.length : Int))) (ho : ordsB ps = true) (hcomp : ∀ p, p ∈ g.prods → ∃ q, q ∈ ps ∧ q.1 = p.1) : gcheck (withP g ps) = 0 := by
  obtain ⟨k, toks, sep, names, start, prods⟩ := g
  obtain ⟨hk, h1, h2, h3, h4, h5, h6, h7⟩ := gcheck_ok hc
  have hv := valid_of hc
  have v1 := hv.toks; have v2 := hv.names; have v3 := hv.start
  simp only at hl hs hcomp hk v1 v2 v3
  show gcheck ⟨k, toks, sep, names, start, ps⟩ = 0
  have hfull : fullB ⟨k, toks, sep, names, start, ps⟩ = false := by
    simp only [fullB, Bool.or_eq_false_iff, decide_eq_false_iff_not, List.any_eq_false, decide_eq_true_eq]
    exact ⟨⟨⟨by omega, by omega⟩, by omega⟩, fun p hp => by have := hr p hp; omega⟩
  have hsym : symB ⟨k, toks, sep, names, start, ps⟩ = true := by
    simp only [symB, ntB, termB, Bool.and_eq_true, decide_eq_true_eq, List.all_eq_true, Bool.not_eq_true', List.any_eq_false]
    refine ⟨v3, fun p hp => ⟨⟨(hl p hp).1, (hl p hp).2⟩, fun s hs1 => ?_⟩⟩
    have := hs p hp s hs1
    simp
    omega
  have hcm : compB ⟨k, toks, sep, names, start, ps⟩ = true := by
    refine List.all_eq_true.2 fun i hi => ?_
    have h8 := List.all_eq_true.1 h7 i hi
    obtain ⟨p, hp, he⟩ := List.any_eq_true.1 h8
    obtain ⟨q, hq, he2⟩ := hcomp p hp
    exact List.any_eq_true.2 ⟨q, hq, decide_eq_true (he2.trans (of_decide_eq_true he))⟩
  have e1 : shortB ⟨k, toks, sep, names, start, ps⟩ = false := h2
  have e2 : smallsB ⟨k, toks, sep, names, start, ps⟩ = true := h3
  have e3 : dupB (toks ++ [sep] ++ names) = false := h4
  rw [gcheck, if_neg (by simp only; omega), gc0, hfull, gc1, e1, e2, gc2, gc3, hsym, gc4, ho, gc5, hcm]
  simp only [e3]
  rfl
theorem ords_iff {ps : List Pr} : ordsB ps = true ↔ ∀ i, (h : i + 1 < ps.length) → ps[i].1 ≤ ps[i + 1].1 := by
  rw [ordsB, List.all_eq_true]
  constructor
  · intro h i hi
    have h1 := h (i + 1) (List.mem_range.2 hi)
    simp only [Bool.or_eq_true, decide_eq_true_eq, Nat.add_eq_zero_iff, Nat.add_sub_cancel] at h1
    rw [getD_at _ (show i < ps.length by omega), getD_at _ hi] at h1
    rcases h1 with h1 | h1
    · omega
    · exact h1
  · intro h i hi
    have hi := List.mem_range.1 hi
    simp only [Bool.or_eq_true, decide_eq_true_eq]
    by_cases h0 : i = 0
    · exact .inl h0
    · obtain ⟨j, rfl⟩ : ∃ j, i = j + 1 := ⟨i - 1, by omega⟩
      refine .inr ?_
      rw [Nat.add_sub_cancel, getD_at _ (show j < ps.length by omega), getD_at _ hi]
      exact h j hi
/-- The run of productions with the same left side around one. -/
structure Run (ps : List Pr) (i f t : Nat) : Prop where
  le : f ≤ i ∧ i ≤ t ∧ t < ps.length
  same : ∀ j, f ≤ j → j ≤ t → (ps.getD j (0, [])).1 = (ps.getD i (0, [])).1
  lo : f = 0 ∨ (ps.getD (f - 1) (0, [])).1 ≠ (ps.getD i (0, [])).1
  hi : t + 1 = ps.length ∨ (ps.getD (t + 1) (0, [])).1 ≠ (ps.getD i (0, [])).1
theorem Run.move {ps : List Pr} {i f t j : Nat} (h : Run ps i f t) (h1 : f ≤ j) (h2 : j ≤ t) : Run ps j f t := by
  have e := h.same j h1 h2
  exact ⟨⟨h1, h2, h.le.2.2⟩, fun k hk1 hk2 => by rw [e]; exact h.same k hk1 hk2, by rw [e]; exact h.lo, by rw [e]; exact h.hi⟩
theorem Run.uniq {ps : List Pr} {i f t f' t' : Nat} (h : Run ps i f t) (h' : Run ps i f' t') : f = f' ∧ t = t' := by
  obtain ⟨a1, a2, a3⟩ := h.le
  obtain ⟨b1, b2, b3⟩ := h'.le
  constructor
  · by_cases c : f < f'
    · rcases h'.lo with h0 | h0
      · omega
      · exact absurd (h.same (f' - 1) (by omega) (by omega)) h0
    · by_cases c2 : f' < f
      · rcases h.lo with h0 | h0
        · omega
        · exact absurd (h'.same (f - 1) (by omega) (by omega)) h0
      · omega
  · by_cases c : t < t'
    · rcases h.hi with h0 | h0
      · omega
      · exact absurd (h'.same (t + 1) (by omega) (by omega)) h0
    · by_cases c2 : t' < t
      · rcases h'.hi with h0 | h0
        · omega
        · exact absurd (h.same (t' + 1) (by omega) (by omega)) h0
      · omega
/-- Turned round, as far as the first k. -/
def Turned (ps ts : List Pr) (k : Nat) : Prop := ts.length = ps.length ∧ ∀ i, i < k → ∃ f t, Run ps i f t ∧ ts[f + t - i]? = ps[i]?
theorem Turned.step {ps ts : List Pr} {k f t : Nat} (h : Turned ps ts k) (hr : Run ps k f t) : Turned ps (ts.set (f + t - k) (ps.getD k (0, []))) (k + 1) := by
  obtain ⟨h1, h2⟩ := h
  obtain ⟨a1, a2, a3⟩ := hr.le
  refine ⟨by rw [List.length_set]; exact h1, fun i hi => ?_⟩
  by_cases he : i = k
  · subst he
    refine ⟨f, t, hr, ?_⟩
    rw [List.getElem?_set, if_pos rfl, if_pos (by omega), getD_at _ (by omega), List.getElem?_eq_getElem (by omega)]
  · obtain ⟨f', t', hr', e⟩ := h2 i (by omega)
    refine ⟨f', t', hr', ?_⟩
    obtain ⟨b1, b2, b3⟩ := hr'.le
    rw [List.getElem?_set, if_neg, e]
    intro hp
    have m1 := hr.move (j := f + t - k) (by omega) (by omega)
    have m2 := hr'.move (j := f + t - k) (by omega) (by omega)
    obtain ⟨rfl, rfl⟩ := m1.uniq m2
    omega
theorem Turned.done {ps ts : List Pr} (h : Turned ps ts ps.length) : ts.map (·.1) = ps.map (·.1) ∧ ∀ p, p ∈ ts ↔ p ∈ ps := by
  obtain ⟨h1, h2⟩ := h
  have key : ∀ j, j < ps.length → ∃ i, i < ps.length ∧ ts[j]? = ps[i]? ∧ (ps.getD i (0, [])).1 = (ps.getD j (0, [])).1 := by
    intro j hj
    obtain ⟨f, t, hr, _⟩ := h2 j hj
    obtain ⟨a1, a2, a3⟩ := hr.le
    obtain ⟨f', t', hr', e⟩ := h2 (f + t - j) (by omega)
    have m := hr.move (j := f + t - j) (by omega) (by omega)
    obtain ⟨rfl, rfl⟩ := m.uniq hr'
    refine ⟨f + t - j, by omega, ?_, hr.same _ (by omega) (by omega)⟩
    rw [← e]; congr 1; omega
  constructor
  · apply List.ext_getElem (by simp [h1])
    intro j h3 h4
    simp only [List.length_map] at h3 h4
    obtain ⟨i, hi, e1, e2⟩ := key j h4
    rw [List.getElem?_eq_getElem h3, List.getElem?_eq_getElem hi] at e1
    rw [getD_at _ hi, getD_at _ h4] at e2
    rw [List.getElem_map, List.getElem_map, Option.some.inj e1, e2]
  · intro p
    constructor
    · intro hp
      obtain ⟨j, hj, rfl⟩ := List.getElem_of_mem hp
      obtain ⟨i, hi, e1, _⟩ := key j (by omega)
      rw [List.getElem?_eq_getElem hj, List.getElem?_eq_getElem hi] at e1
      rw [Option.some.inj e1]; exact List.getElem_mem hi
    · intro hp
      obtain ⟨i, hi, rfl⟩ := List.getElem_of_mem hp
      obtain ⟨f, t, hr, e⟩ := h2 i hi
      rw [List.getElem?_eq_getElem hi] at e
      exact List.mem_of_getElem? e
theorem ords_lefts {ps ts : List Pr} (h : ts.map (·.1) = ps.map (·.1)) (ho : ordsB ps = true) : ordsB ts = true := by
  have hl : ts.length = ps.length := by have := congrArg List.length h; simpa using this
  have hg : ∀ i, (h1 : i < ts.length) → ts[i].1 = (ps[i]'(by omega)).1 := by
    intro i h1
    have h2 : (ts.map (·.1))[i]'(by simpa using h1) = (ps.map (·.1))[i]'(by simp; omega) := by simp only [h]
    simpa using h2
  refine ords_iff.2 fun i hi => ?_
  rw [hg i (by omega), hg (i + 1) hi]
  exact ords_iff.1 ho i (by omega)
theorem ords_insert {ps : List Pr} {a : Nat} {r : List Int} (ha : a < ps.length) (ho : ordsB ps = true) : ordsB (ps.take a ++ (ps[a].1, r) :: ps.drop a) = true := by
  refine ords_iff.2 fun i hi => ?_
  have hl : (ps.take a).length = a := by rw [List.length_take]; omega
  have hlen : (ps.take a ++ (ps[a].1, r) :: ps.drop a).length = ps.length + 1 := by simp; omega
  have get : ∀ j, (hj : j < (ps.take a ++ (ps[a].1, r) :: ps.drop a).length) → ((ps.take a ++ (ps[a].1, r) :: ps.drop a)[j]).1 = if h : j ≤ a then (ps[j]'(by omega)).1 else (ps[j - 1]'(by omega)).1 := by
    intro j hj
    by_cases h1 : j < a
    · rw [dif_pos (by omega), List.getElem_append_left (by omega), List.getElem_take]
    · rw [List.getElem_append_right (by omega)]
      by_cases h2 : j = a
      · subst h2
        rw [dif_pos (Nat.le_refl _)]
        simp only [hl, Nat.sub_self, List.getElem_cons_zero]
      · rw [dif_neg (by omega)]
        have e : j - (ps.take a).length = (j - 1 - a) + 1 := by omega
        simp only [e, List.getElem_cons_succ, List.getElem_drop]
        congr 2; omega
  rw [get i (by omega), get (i + 1) hi]
  by_cases h1 : i + 1 ≤ a
  · rw [dif_pos (by omega), dif_pos h1]
    exact ords_iff.1 ho i (by omega)
  · rw [dif_neg h1]
    by_cases h2 : i ≤ a
    · rw [dif_pos h2]; exact Int.le_refl _
    · rw [dif_neg h2]
      have := ords_iff.1 ho (i - 1) (by omega)
      simp only [Nat.add_sub_cancel]
      have e : i - 1 + 1 = i := by omega
      simp only [e] at this
      exact this
end Go.Proofs.Ytaoinojdijbhaaa
set_option linter.unusedSimpArgs false
set_option linter.unusedVariables false
set_option maxHeartbeats 2000000
set_option maxRecDepth 20000
namespace Go.Proofs.Ytaoinojdijbhaaa
open Go.RowKit
section
variable (E : Env) (L : List Res)
theorem OwnTexts_call' (p : Option Addr) (c : Nat) (l : List (List UInt8)) (hl : SlE E 1 p l.length (strs l)) (hn : l.length ≤ 1000000000) :
    CallS Try.prog 71 #[.slice p l.length c] E L (fun r E' L' => ∃ a c', r = .slice a l.length c' ∧ SlE E' 1 a l.length (strs l) ∧ l.length ≤ c' ∧ L' = L) := by
  refine CallS.intro (l := [.slice p l.length c]) _ Try.func71 rfl Try.ntmps71 rfl ?_
  refine G_seq (G_region ?_)
  refine G_val (V_assign rfl rfl) rfl rfl (.none rfl) ?_
  refine G_end (X_then (G_seq (G_region ?_)))
  refine G_lit0 rfl rfl rfl (.none rfl) ?_
  intro b3
  refine G_val (V_move rfl rfl) rfl rfl (.none rfl) ?_
  refine G_append rfl rfl rfl (SlE.rd hl) (strs_one l) (by omega) (by omega) rfl rfl (.none rfl) (fun _ _ => .head _ _ _) ?_
  intro a5 c5
  refine G.freezeSl (.head _ _) ?_
  intro E1 hE1 hal hc
  simp only [Nat.zero_add, List.nil_append] at hal hc ⊢
  refine G_val (V_assign rfl rfl) rfl rfl (.none rfl) ?_
  refine G_end (X_then (G_ret ?_))
  refine G_leaveS (.nil _) (by exact (.cons (.tmp rfl) (.nil))) rfl ?_ ?_
  · exact hE1
  exact ⟨_, ⟨_, ⟨rfl, ⟨(by assumption), ⟨(by assumption), rfl⟩⟩⟩⟩⟩
theorem OwnGrammar_call (gv : Value) (g : Gr) (hg : GrE E gv g) (hl : Light g) : CallS Try.prog 18 #[gv] E L (fun r E' L' => GrE E' r g ∧ L' = L) := by
  obtain ⟨tp, tc, np, nc, pp, pc, rfl, ht, hn, ⟨rows, hrows, hps, hre⟩, k1, k2, k3⟩ := hg
  have hlen : g.prods.length = rows.length := by rw [← hrows]; simp
  have q1 := hl.t; have q2 := hl.n; have q3 := hl.p
  refine CallS.intro (l := [_]) _ Try.func18 rfl Try.ntmps18 rfl ?_
  refine G_seq (G_region ?_)
  (refine G_boxA rfl rfl rfl rfl (.none rfl) ?_; intro b1)
  (refine G_alloc rfl rfl rfl (.none rfl) ?_; intro b2)
  refine G_end (X_then (G_seq (G_region ?_)))
  refine G_val (V_fieldAddr rfl rfl (by decide)) rfl rfl (.none rfl) ?_
  refine G_val (V_load rfl rfl (Cell.own (.tail _ (.head _)) rfl)) rfl rfl (.none rfl) ?_
  refine G_call (k := 71) (.mk rfl rfl rfl rfl) rfl rfl (.none rfl) (OwnTexts_call' _ _ _ _ _ (by assumption) (by omega)) ?_
  rintro r1 E2 L3 hE4 ⟨z5, ⟨z6, ⟨rfl, ⟨Z7, ⟨Z8, rfl⟩⟩⟩⟩⟩
  replace ht := ht.mono hE4
  replace hn := hn.mono hE4
  replace hps := hps.mono hE4
  refine G_val (V_fieldAddr rfl rfl (by decide)) rfl rfl (.none rfl) ?_
  refine G_storeAt rfl rfl rfl rfl rfl rfl (.none rfl) (.tail _ (.head _ _ _)) (Nat.le_of_ble_eq_true rfl) (by simp only [putAll, Nat.zero_add, Nat.reduceAdd, List.setIfInBounds_toArray, List.set_cons_succ, List.set_cons_zero]; rfl) ?_
  refine G_end (X_then (G_seq (G_region ?_)))
  refine G_val (V_fieldAddr rfl rfl (by decide)) rfl rfl (.none rfl) ?_
  refine G_val (V_load rfl rfl (Cell.own (.tail _ (.head _)) rfl)) rfl rfl (.none rfl) ?_
  refine G_call (k := 71) (.mk rfl rfl rfl rfl) rfl rfl (.none rfl) (OwnTexts_call' _ _ _ _ _ (by assumption) (by omega)) ?_
  rintro r9 E10 L11 hE12 ⟨z13, ⟨z14, ⟨rfl, ⟨Z15, ⟨Z16, rfl⟩⟩⟩⟩⟩
  replace Z7 := Z7.mono hE12
  replace ht := ht.mono hE12
  replace hn := hn.mono hE12
  replace hps := hps.mono hE12
  refine G_val (V_fieldAddr rfl rfl (by decide)) rfl rfl (.none rfl) ?_
  refine G_storeAt rfl rfl rfl rfl rfl rfl (.none rfl) (.tail _ (.head _ _ _)) (Nat.le_of_ble_eq_true rfl) (by simp only [putAll, Nat.zero_add, Nat.reduceAdd, List.setIfInBounds_toArray, List.set_cons_succ, List.set_cons_zero]; rfl) ?_
  refine G_end (X_then (G_seq (G_region ?_)))
  refine G_val (V_assign rfl rfl) rfl rfl (.none rfl) ?_
  refine G_end (X_then (G_seq (G_seq (G_region ?_))))
  refine G_val (V_assign rfl rfl) rfl rfl (.none rfl) ?_
  refine G_end (X_then (G_block ?_))
  replace hre := (hre.mono hE4).mono hE12
  refine G.nilSl 62 2 ?_
  refine G_loop (α := Nat × Env × Option Addr × Nat × List Row) (fun x => [(1, .pointer (some ⟨b1, 0, none⟩)), (2, .pointer (some ⟨b2, 0, none⟩)), (3, .slice x.2.2.1 x.1 x.2.2.2.1), (4, .int .i64 x.1)]) (fun x => x.2.1)
    (fun x => .sl 62 2 x.2.2.1 x.1 x.2.2.2.1 (prows x.2.2.2.2) :: .blk b2 (.cells #[.int .i64 0, .slice none 0 0, .string ⟨#[]⟩, .slice none 0 0, .int .i64 0, .slice none 0 0] 26 (0, 0)) :: .blk b1 (.cells #[.int .i64 g.k, .slice z5 g.toks.length z6, .string (S g.sep), .slice z13 g.names.length z14, .int .i64 g.start, .slice pp g.prods.length pc] 26 (0, 0)) :: L)
    (fun x => E10.Le x.2.1 ∧ x.1 ≤ rows.length ∧ x.2.2.2.2.map (·.2.2) = (rows.take x.1).map (·.2.2) ∧ RowsE x.2.1 x.2.2.2.2) (fun x => rows.length - x.1) (0, E10, none, 0, [])
    ⟨.refl _, Nat.zero_le _, rfl, fun r hr => (by cases hr)⟩ ⟨rfl, rfl, rfl, rfl, trivial⟩ rfl rfl ?_
  rintro ⟨i, E, a, ca, rs⟩ ⟨hE, hi, hrs, hrE⟩
  simp only at hE hi hrs hrE ⊢
  replace hps := hps.mono hE
  replace hre := hre.mono hE
  have hrl : rs.length = i := by have := congrArg List.length hrs; simp at this; omega
  by_cases hlt : i < rows.length
  · have hg1 := List.getElem?_eq_getElem hlt
    have hyl := prows_left hg1
    have hyr := prows_right hg1
    have hre1 := hre.get hg1
    have hp : rows[i].2.2 ∈ g.prods := by rw [← hrows]; exact List.mem_map.2 ⟨rows[i], List.getElem_mem hlt, rfl⟩
    have h8 := hl.ps _ hp
    have htk : (rows.take (i + 1)).map (·.2.2) = (rows.take i).map (·.2.2) ++ [rows[i].2.2] := by rw [List.take_succ_eq_append_getElem hlt, List.map_append]; rfl
    have hrl2 := prows_len rs
    refine G_seq (G_seq (G_region ?_))
    refine G_val (V_move rfl rfl) rfl rfl (.none rfl) ?_
    refine G_val (V_fieldAddr rfl rfl (by decide)) rfl rfl (.none rfl) ?_
    refine G_val (V_load rfl rfl (Cell.own (.tail _ (.tail _ (.head _))) rfl)) rfl rfl (.none rfl) ?_
    refine G_val (V_lenS rfl rfl) rfl rfl (.none rfl) ?_
    refine G_val (V_lss rfl rfl rfl) rfl rfl (.none rfl) ?_
    refine G_end (X_then ?_)
    refine G_cond_t rfl (decide_eq_true (by omega)) ?_
    refine G_skip (X_then (G_seq (G_block ?_)))
    refine G_drawX 16 [(0, 0), (1, 0), (2, 1), (3, 0), (4, 1), (5, 0), (6, 1), (7, 0), (8, 1), (9, 0), (10, 1), (11, 0), (12, 1), (13, 3), (14, 0), (15, 2)] mixed (by kernel_rfl) ?_
    refine F_pure rfl (fun _ _ => V_move rfl rfl) rfl rfl (.none rfl) ?_
    refine F_pure rfl (fun _ _ => V_fieldAddr rfl rfl (by decide)) rfl rfl (.none rfl) ?_
    refine F_load rfl (.tail _ (.tail _ (.head _))) (V_load rfl rfl (Cell.own (.head _) rfl)) rfl rfl (.none rfl) ?_
    refine F_pure rfl (fun _ _ => V_move rfl rfl) rfl rfl (.none rfl) ?_
    refine F_loadE rfl (V_idxAddr rfl rfl rfl (SlE.rd (by assumption)) (by omega) (by omega)) rfl rfl (.none rfl) ?_
    refine F_pure rfl (fun _ _ => V_fieldAddrX rfl rfl (by assumption) (by omega) (by decide)) rfl rfl (.none rfl) ?_
    refine F_loadE rfl (V_loadS rfl rfl (SlE.rd (by assumption)) hyl (by simp)) rfl rfl (.none rfl) ?_
    refine F_pure rfl (fun _ _ => V_fieldAddr rfl rfl (by decide)) rfl rfl (.none rfl) ?_
    refine F_load rfl (.tail _ (.tail _ (.head _))) (V_load rfl rfl (Cell.own (.head _) rfl)) rfl rfl (.none rfl) ?_
    refine F_pure rfl (fun _ _ => V_move rfl rfl) rfl rfl (.none rfl) ?_
    refine F_loadE rfl (V_idxAddr rfl rfl rfl (SlE.rd (by assumption)) (by omega) (by omega)) rfl rfl (.none rfl) ?_
    refine F_pure rfl (fun _ _ => V_fieldAddrX rfl rfl (by assumption) (by omega) (by decide)) rfl rfl (.none rfl) ?_
    refine F_loadE rfl (V_loadS rfl rfl (SlE.rd (by assumption)) (by assumption) (by simp)) rfl rfl (.none rfl) ?_
    apply F_call (k := 32) rfl (.mk rfl rfl rfl rfl) rfl rfl (.none rfl)
    · (intro L0; refine CallS.mono (OwnInts_call _ _ _ _ _ (by assumption) (by omega)) ?_; exact fun _ _ _ _ h => h)
    · (rintro L0 r E' L' ⟨z1, ⟨z2, ⟨rfl, ⟨Z3, rfl⟩⟩⟩⟩; exact ⟨rfl, ⟨_, ⟨_, ⟨rfl, ⟨(by assumption), rfl⟩⟩⟩⟩⟩)
    rintro r4 E5 hE6 ⟨z7, ⟨z8, ⟨rfl, ⟨Z9, _⟩⟩⟩⟩
    replace hps := hps.mono hE6
    replace hre1 := hre1.mono hE6
    refine F_pure rfl (fun _ _ => V_build rfl rfl (by simp [fillV, setLs, setL, Value.cells]; rfl)) rfl rfl (.none rfl) ?_
    (refine F_litZ rfl rfl rfl (by decide) (by simp [fillS, zeros, setLs, setL, Value.cells, List.range, List.range.loop]; rfl) (by rfl) rfl rfl (.none rfl) ?_; intro b35 E35 hE35 hs35)
    replace Z9 := Z9.mono hE35
    replace hps := hps.mono hE35
    replace hre1 := hre1.mono hE35
    (refine F_end (.nil _) ?_; dsimp only [List.drop])
    (refine G_append rfl rfl rfl (SlE.rd (by assumption)) (by simp [Value.oneCell']) (by omega) (by omega) rfl rfl (.none rfl) (fun _ _ => (.head _ _ _)) ?_; intro a36 c36)
    refine G_val (V_assign rfl rfl) rfl rfl (.none rfl) ?_
    refine G_end (X_block (X_then (G_region ?_)))
    refine G_val (V_move rfl rfl) rfl rfl (.none rfl) ?_
    refine G_val (V_add_i64 rfl rfl rfl (by omega) (by omega)) rfl rfl (.none rfl) ?_
    refine G_val (V_assign rfl rfl) rfl rfl (.none rfl) ?_
    refine G_end (X_then ?_)
    have hap := prows_append rs [(z7, z8, rows[i].2.2)]
    refine G_again (i + 1, E35, a36, c36, rs ++ [(z7, z8, rows[i].2.2)]) ⟨(hE.trans hE6).trans hE35, hlt, by rw [List.map_append, hrs, htk]; rfl, ?_⟩ (by simp only; omega) ⟨rfl, rfl, rfl, rfl, trivial⟩ rfl (by rw [hap]; rfl)
    intro r hr
    rcases List.mem_append.1 hr with h | h
    · exact ((hrE.mono hE6).mono hE35) r h
    · rw [List.mem_singleton.1 h]; assumption
  · refine G.freezeSl (.head _ _) ?_
    intro E1 hE1 hal hc
    have hi2 : i = rows.length := by omega
    have hfin : GrE E1 (.agg #[.int .i64 g.k, .slice z5 g.toks.length z6, .string (S g.sep), .slice z13 g.names.length z14, .int .i64 g.start, .slice a i ca]) g := by
      have := GrE.mk (E := E1) (g := g) (pp := a) (pc := ca) ((Z7.mono hE).mono hE1) ((Z15.mono hE).mono hE1) ⟨rs, by rw [hrs, hi2, List.take_length, hrows], by rw [hlen, ← hi2]; exact hal, hrE.mono hE1⟩ Z8 Z16 (by omega)
      rwa [hlen, ← hi2] at this
    refine G_seq (G_seq (G_region ?_))
    refine G_val (V_move rfl rfl) rfl rfl (.none rfl) ?_
    refine G_val (V_fieldAddr rfl rfl (by decide)) rfl rfl (.none rfl) ?_
    refine G_val (V_load rfl rfl (Cell.own (.tail _ (.head _)) rfl)) rfl rfl (.none rfl) ?_
    refine G_val (V_lenS rfl rfl) rfl rfl (.none rfl) ?_
    refine G_val (V_lss rfl rfl rfl) rfl rfl (.none rfl) ?_
    refine G_end (X_then ?_)
    refine G_cond_f rfl (decide_eq_false (by omega)) ?_
    refine G_exit (X_then_exit (X_then_exit (X_block_hit (X_then (G_seq (G_region ?_))))))
    refine G_val (V_move rfl rfl) rfl rfl (.none rfl) ?_
    refine G_val (V_fieldAddr rfl rfl (by decide)) rfl rfl (.none rfl) ?_
    refine G_storeAt rfl rfl rfl rfl rfl rfl (.none rfl) (.tail _ (.head _ _ _)) (Nat.le_of_ble_eq_true rfl) (by simp only [putAll, Nat.zero_add, Nat.reduceAdd, List.setIfInBounds_toArray, List.set_cons_succ, List.set_cons_zero]; rfl) ?_
    refine G_end (X_then (G_seq (G_region ?_)))
    refine G_val (V_loadA rfl rfl (Cells.own (.tail _ (.head _))) rfl) rfl rfl (.none rfl) ?_
    refine G_storeA rfl rfl rfl rfl (by simp [Value.oneCell']) rfl (.none rfl) (.head _ _ _) rfl ?_
    refine G_end (X_then (G_ret ?_))
    refine G_leaveS (.drop _ (.drop _ (.nil _))) (by exact (.cons (.cellA rfl (Cells.own (.head _)) rfl) (.nil))) rfl ?_ ?_
    · exact (((hE4.trans hE12).trans hE).trans hE1)
    exact ⟨(by assumption), rfl⟩
end
end Go.Proofs.Ytaoinojdijbhaaa
namespace Go.Proofs.Ytaoinojdijbhaaa
open Go.RowKit
section
variable {n : Nat} {ds : List Deferred} {fs : List (Nat × Value)} {E : Env} {L : List Res} {X : Act → World → Prop}
theorem G.eqL {L' : List Res} (e : L = L') (h : G n ds fs E L' X) : G n ds fs E L X := by rw [e]; exact h
/-- Two ways to one place. -/
theorem G_two {p q : Prop} {fs' : List (Nat × Value)} (h : p ∨ q) {Y : Act → World → Prop} (h1 : p → G n ds fs' E L Y → G n ds fs E L X) (h2 : q → G n ds fs' E L Y → G n ds fs E L X) (h3 : G n ds fs' E L Y) : G n ds fs E L X := h.elim (fun hp => h1 hp h3) (fun hq => h2 hq h3)
/-- An own slice that is not empty is a block. -/
theorem G.slBlk {e : TypeId} {sz k c : Nat} {a : Option Addr} {xs : List Value} (hk : 0 < k) (h : ∀ b tl, a = some ⟨b, 0, none⟩ → k ≤ c → G n ds fs E (.blk b (.cells (xs ++ tl).toArray e (0, 0)) :: L) X) : G n ds fs E (.sl e sz a k c xs :: L) X := by
  intro act w ha hw
  have h0 := hw.own _ (.head _)
  obtain ⟨h1, h2⟩ := h0
  rcases h2 with ⟨_, _, h3⟩ | ⟨g, cur, rfl, e2, e3, e4, e5, e6⟩
  · omega
  · refine h g (cur.toList.drop (k * sz)) rfl e3 act w ha ?_
    have ec : (xs ++ cur.toList.drop (k * sz)).toArray = cur := by rw [← e6, List.take_append_drop]
    rw [ec]
    refine ⟨hw.env, fun r hr => ?_, ?_, fun b hb => ?_, hw.os, hw.out, hw.tape⟩
    · rcases List.mem_cons.1 hr with rfl | hr
      · exact e2
      · exact hw.own r (.tail _ hr)
    · have := hw.nodup; simpa [Res.sl, Res.blk] using this
    · refine hw.apart b ?_; simpa [Res.sl, Res.blk] using hb
end
section
variable {P : Program} {ro : Option Nat} {n : Nat} {ds : List Deferred} {fs : List (Nat × Value)} {E : Env} {L L' : List Res} {ops : Array Oper} {o : Oper}
variable {T : Act → Fam → Prop} {π : List (Nat × Nat)} {i : Nat} {js : List (Env × List Res)}
/-- A store of a struct of two cells anywhere. -/
theorem F_store2 {t : TypeId} {x y : Operand} {b off : Nat} {v0 v1 : Value} {d : TypeDesc} {TT : TypeId} {l : List Value} {ag : Bool} [ht : Ty P t d 2 ag]
    (h0 : ops[i]? = some o) (ho : o.op = .store t x y) (hx : ev fs x = some (.pointer (some ⟨b, off, none⟩))) (hy : ev fs y = some (.agg #[v0, v1])) (hone : v0.oneCell' = true) (hone2 : v1.oneCell' = true)
    (hd : o.dst = none) (hg : Goes ops fs o) (hu : Upd L (.blk b (.cells l.toArray TT (0, 0))) (.blk b (.cells ((l.set off v0).set (off + 1) v1).toArray TT (0, 0))) L') (hl : off + 2 ≤ l.length) (hj : Jok js E L')
    (h : GF n ds fs E L' (wpF P ops T (JL js) π)) : GF n ds fs E L (wpF P ops T (JL js) ((i, 4) :: π)) :=
  F_storeF (vs := [v0, v1]) h0 ho hx hy rfl (by simp [hone, hone2]) hd hg hu (by simpa using hl) (by simp [putAll]) hj h
end
section
variable {P : Program} {ro : Option Nat} {n : Nat} {ds : List Deferred} {fs : List (Nat × Value)} {E : Env} {L : List Res} {ops : Array Oper} {T : Act → Fam → Prop} {π : List (Nat × Nat)} {i : Nat} {o : Oper} {J : World → Prop}
/-- append of nothing. -/
theorem F_append0 {s x : Operand} {t e : TypeId} {d : Nat} {sz sz' : Nat} {ag ag' : Bool} {td : TypeDesc} [ht : Ty P t (.slice e) sz' ag'] [he : Ty P e td sz ag] {a a2 : Option Addr} {k c c2 m : Nat}
    (h0 : ops[i]? = some o) (ho : o.op = .call { callee := .builtin .append, args := #[s, x], argTypes := #[t, t] }) (hs : ev fs s = some (.slice a k c)) (hx : ev fs x = some (.slice a2 m c2)) (hm : m = 0) (hk : k ≤ c)
    (hd : o.dst = some d) (hn : Nat.blt d n = true) (hg : Goes ops fs o)
    (h : GF n ds ((d, .slice a k c) :: fs) E L (wpF P ops T J π)) : GF n ds fs E L (wpF P ops T J ((i, 3) :: π)) := fun a0 ha =>
  ⟨o, h0, by
    subst hm
    rw [if_pos (hg.wanted ha)]
    intro M w hw
    unfold Steps
    have e1 : (execOp a0.eval o).run P w = .ok (.value (.slice a k c)) w := by
      cases a <;> cases a2 <;> simp [execOp, ho, resolve, invoke, builtin, ha.eval hs, ha.eval hx, Result.andThen, Builtin.append_, ht.run, he.size, Builtin.lenOf, Builtin.firstCells, hk, loadCells, loadCellsFrom, storeCells]
    rw [e1]
    refine ⟨Fam.st E L, fun w h => h, hw, ?_⟩
    rw [hd]
    exact h _ (ha.put hn _)⟩
end
end Go.Proofs.Ytaoinojdijbhaaa
set_option linter.unusedSimpArgs false
set_option linter.unusedVariables false
set_option maxHeartbeats 2000000
set_option maxRecDepth 20000
namespace Go.Proofs.Ytaoinojdijbhaaa
open Go.RowKit
theorem set_prow {ts : List Row} {tl : List Value} {i : Nat} (x : Row) (h : i < ts.length) : ((prows ts ++ tl).set (i * 2) (.int .i64 x.2.2.1)).set (i * 2 + 1) (.slice x.1 x.2.2.2.length x.2.1) = prows (ts.set i x) ++ tl := by
  induction ts generalizing i with
  | nil => cases h
  | cons t ts ih =>
    cases i with
    | zero => rfl
    | succ i =>
      have e : (i + 1) * 2 = i * 2 + 1 + 1 := by omega
      rw [e]
      have h1 := ih (i := i) (by simpa using h)
      show Value.int .i64 t.2.2.1 :: Value.slice t.1 t.2.2.2.length t.2.1 :: (((prows ts ++ tl).set (i * 2) _).set (i * 2 + 1) _) = Value.int .i64 t.2.2.1 :: Value.slice t.1 t.2.2.2.length t.2.1 :: (prows (ts.set i x) ++ tl)
      rw [h1]
theorem putAll_prow {ts : List Row} {tl : List Value} {i : Nat} (x : Row) (h : i < ts.length) : putAll (prows ts ++ tl).toArray (i * 2) [.int .i64 x.2.2.1, .slice x.1 x.2.2.2.length x.2.1] = (prows (ts.set i x) ++ tl).toArray := by
  simp only [putAll, List.setIfInBounds_toArray]
  rw [set_prow x h]
section
variable (E : Env) (L : List Res)
theorem OwnGrammar_call' (gv : Value) (g : Gr) (hg : GrE E gv g) (hl : Light g) : CallS Try.prog 18 #[gv] E L (fun r E' L' => ∃ tp tc np nc pa pc rows, r = .agg #[.int .i64 g.k, .slice tp g.toks.length tc, .string (S g.sep), .slice np g.names.length nc, .int .i64 g.start, .slice pa g.prods.length pc] ∧
    SlE E' 1 tp g.toks.length (strs g.toks) ∧ SlE E' 1 np g.names.length (strs g.names) ∧ rows.map (·.2.2) = g.prods ∧ RowsE E' rows ∧ g.toks.length ≤ tc ∧ g.names.length ≤ nc ∧ L' = .sl 62 2 pa g.prods.length pc (prows rows) :: L) := by
  obtain ⟨tp, tc, np, nc, pp, pc, rfl, ht, hn, ⟨rows, hrows, hps, hre⟩, k1, k2, k3⟩ := hg
  have hlen : g.prods.length = rows.length := by rw [← hrows]; simp
  have q1 := hl.t; have q2 := hl.n; have q3 := hl.p
  refine CallS.intro (l := [_]) _ Try.func18 rfl Try.ntmps18 rfl ?_
  refine G_seq (G_region ?_)
  (refine G_boxA rfl rfl rfl rfl (.none rfl) ?_; intro b1)
  (refine G_alloc rfl rfl rfl (.none rfl) ?_; intro b2)
  refine G_end (X_then (G_seq (G_region ?_)))
  refine G_val (V_fieldAddr rfl rfl (by decide)) rfl rfl (.none rfl) ?_
  refine G_val (V_load rfl rfl (Cell.own (.tail _ (.head _)) rfl)) rfl rfl (.none rfl) ?_
  refine G_call (k := 71) (.mk rfl rfl rfl rfl) rfl rfl (.none rfl) (OwnTexts_call' _ _ _ _ _ (by assumption) (by omega)) ?_
  rintro r1 E2 L3 hE4 ⟨z5, ⟨z6, ⟨rfl, ⟨Z7, ⟨Z8, rfl⟩⟩⟩⟩⟩
  replace ht := ht.mono hE4
  replace hn := hn.mono hE4
  replace hps := hps.mono hE4
  refine G_val (V_fieldAddr rfl rfl (by decide)) rfl rfl (.none rfl) ?_
  refine G_storeAt rfl rfl rfl rfl rfl rfl (.none rfl) (.tail _ (.head _ _ _)) (Nat.le_of_ble_eq_true rfl) (by simp only [putAll, Nat.zero_add, Nat.reduceAdd, List.setIfInBounds_toArray, List.set_cons_succ, List.set_cons_zero]; rfl) ?_
  refine G_end (X_then (G_seq (G_region ?_)))
  refine G_val (V_fieldAddr rfl rfl (by decide)) rfl rfl (.none rfl) ?_
  refine G_val (V_load rfl rfl (Cell.own (.tail _ (.head _)) rfl)) rfl rfl (.none rfl) ?_
  refine G_call (k := 71) (.mk rfl rfl rfl rfl) rfl rfl (.none rfl) (OwnTexts_call' _ _ _ _ _ (by assumption) (by omega)) ?_
  rintro r9 E10 L11 hE12 ⟨z13, ⟨z14, ⟨rfl, ⟨Z15, ⟨Z16, rfl⟩⟩⟩⟩⟩
  replace Z7 := Z7.mono hE12
  replace ht := ht.mono hE12
  replace hn := hn.mono hE12
  replace hps := hps.mono hE12
  refine G_val (V_fieldAddr rfl rfl (by decide)) rfl rfl (.none rfl) ?_
  refine G_storeAt rfl rfl rfl rfl rfl rfl (.none rfl) (.tail _ (.head _ _ _)) (Nat.le_of_ble_eq_true rfl) (by simp only [putAll, Nat.zero_add, Nat.reduceAdd, List.setIfInBounds_toArray, List.set_cons_succ, List.set_cons_zero]; rfl) ?_
  refine G_end (X_then (G_seq (G_region ?_)))
  refine G_val (V_assign rfl rfl) rfl rfl (.none rfl) ?_
  refine G_end (X_then (G_seq (G_seq (G_region ?_))))
  refine G_val (V_assign rfl rfl) rfl rfl (.none rfl) ?_
  refine G_end (X_then (G_block ?_))
  replace hre := (hre.mono hE4).mono hE12
  refine G.nilSl 62 2 ?_
  refine G_loop (α := Nat × Env × Option Addr × Nat × List Row) (fun x => [(1, .pointer (some ⟨b1, 0, none⟩)), (2, .pointer (some ⟨b2, 0, none⟩)), (3, .slice x.2.2.1 x.1 x.2.2.2.1), (4, .int .i64 x.1)]) (fun x => x.2.1)
    (fun x => .sl 62 2 x.2.2.1 x.1 x.2.2.2.1 (prows x.2.2.2.2) :: .blk b2 (.cells #[.int .i64 0, .slice none 0 0, .string ⟨#[]⟩, .slice none 0 0, .int .i64 0, .slice none 0 0] 26 (0, 0)) :: .blk b1 (.cells #[.int .i64 g.k, .slice z5 g.toks.length z6, .string (S g.sep), .slice z13 g.names.length z14, .int .i64 g.start, .slice pp g.prods.length pc] 26 (0, 0)) :: L)
    (fun x => E10.Le x.2.1 ∧ x.1 ≤ rows.length ∧ x.2.2.2.2.map (·.2.2) = (rows.take x.1).map (·.2.2) ∧ RowsE x.2.1 x.2.2.2.2) (fun x => rows.length - x.1) (0, E10, none, 0, [])
    ⟨.refl _, Nat.zero_le _, rfl, fun r hr => (by cases hr)⟩ ⟨rfl, rfl, rfl, rfl, trivial⟩ rfl rfl ?_
  rintro ⟨i, E, a, ca, rs⟩ ⟨hE, hi, hrs, hrE⟩
  simp only at hE hi hrs hrE ⊢
  replace hps := hps.mono hE
  replace hre := hre.mono hE
  have hrl : rs.length = i := by have := congrArg List.length hrs; simp at this; omega
  by_cases hlt : i < rows.length
  · have hg1 := List.getElem?_eq_getElem hlt
    have hyl := prows_left hg1
    have hyr := prows_right hg1
    have hre1 := hre.get hg1
    have hp : rows[i].2.2 ∈ g.prods := by rw [← hrows]; exact List.mem_map.2 ⟨rows[i], List.getElem_mem hlt, rfl⟩
    have h8 := hl.ps _ hp
    have htk : (rows.take (i + 1)).map (·.2.2) = (rows.take i).map (·.2.2) ++ [rows[i].2.2] := by rw [List.take_succ_eq_append_getElem hlt, List.map_append]; rfl
    have hrl2 := prows_len rs
    refine G_seq (G_seq (G_region ?_))
    refine G_val (V_move rfl rfl) rfl rfl (.none rfl) ?_
    refine G_val (V_fieldAddr rfl rfl (by decide)) rfl rfl (.none rfl) ?_
    refine G_val (V_load rfl rfl (Cell.own (.tail _ (.tail _ (.head _))) rfl)) rfl rfl (.none rfl) ?_
    refine G_val (V_lenS rfl rfl) rfl rfl (.none rfl) ?_
    refine G_val (V_lss rfl rfl rfl) rfl rfl (.none rfl) ?_
    refine G_end (X_then ?_)
    refine G_cond_t rfl (decide_eq_true (by omega)) ?_
    refine G_skip (X_then (G_seq (G_block ?_)))
    refine G_drawX 16 [(0, 0), (1, 0), (2, 1), (3, 0), (4, 1), (5, 0), (6, 1), (7, 0), (8, 1), (9, 0), (10, 1), (11, 0), (12, 1), (13, 3), (14, 0), (15, 2)] mixed (by kernel_rfl) ?_
    refine F_pure rfl (fun _ _ => V_move rfl rfl) rfl rfl (.none rfl) ?_
    refine F_pure rfl (fun _ _ => V_fieldAddr rfl rfl (by decide)) rfl rfl (.none rfl) ?_
    refine F_load rfl (.tail _ (.tail _ (.head _))) (V_load rfl rfl (Cell.own (.head _) rfl)) rfl rfl (.none rfl) ?_
    refine F_pure rfl (fun _ _ => V_move rfl rfl) rfl rfl (.none rfl) ?_
    refine F_loadE rfl (V_idxAddr rfl rfl rfl (SlE.rd (by assumption)) (by omega) (by omega)) rfl rfl (.none rfl) ?_
    refine F_pure rfl (fun _ _ => V_fieldAddrX rfl rfl (by assumption) (by omega) (by decide)) rfl rfl (.none rfl) ?_
    refine F_loadE rfl (V_loadS rfl rfl (SlE.rd (by assumption)) hyl (by simp)) rfl rfl (.none rfl) ?_
    refine F_pure rfl (fun _ _ => V_fieldAddr rfl rfl (by decide)) rfl rfl (.none rfl) ?_
    refine F_load rfl (.tail _ (.tail _ (.head _))) (V_load rfl rfl (Cell.own (.head _) rfl)) rfl rfl (.none rfl) ?_
    refine F_pure rfl (fun _ _ => V_move rfl rfl) rfl rfl (.none rfl) ?_
    refine F_loadE rfl (V_idxAddr rfl rfl rfl (SlE.rd (by assumption)) (by omega) (by omega)) rfl rfl (.none rfl) ?_
    refine F_pure rfl (fun _ _ => V_fieldAddrX rfl rfl (by assumption) (by omega) (by decide)) rfl rfl (.none rfl) ?_
    refine F_loadE rfl (V_loadS rfl rfl (SlE.rd (by assumption)) (by assumption) (by simp)) rfl rfl (.none rfl) ?_
    apply F_call (k := 32) rfl (.mk rfl rfl rfl rfl) rfl rfl (.none rfl)
    · (intro L0; refine CallS.mono (OwnInts_call _ _ _ _ _ (by assumption) (by omega)) ?_; exact fun _ _ _ _ h => h)
    · (rintro L0 r E' L' ⟨z1, ⟨z2, ⟨rfl, ⟨Z3, rfl⟩⟩⟩⟩; exact ⟨rfl, ⟨_, ⟨_, ⟨rfl, ⟨(by assumption), rfl⟩⟩⟩⟩⟩)
    rintro r4 E5 hE6 ⟨z7, ⟨z8, ⟨rfl, ⟨Z9, _⟩⟩⟩⟩
    replace hps := hps.mono hE6
    replace hre1 := hre1.mono hE6
    refine F_pure rfl (fun _ _ => V_build rfl rfl (by simp [fillV, setLs, setL, Value.cells]; rfl)) rfl rfl (.none rfl) ?_
    (refine F_litZ rfl rfl rfl (by decide) (by simp [fillS, zeros, setLs, setL, Value.cells, List.range, List.range.loop]; rfl) (by rfl) rfl rfl (.none rfl) ?_; intro b35 E35 hE35 hs35)
    replace Z9 := Z9.mono hE35
    replace hps := hps.mono hE35
    replace hre1 := hre1.mono hE35
    (refine F_end (.nil _) ?_; dsimp only [List.drop])
    (refine G_append rfl rfl rfl (SlE.rd (by assumption)) (by simp [Value.oneCell']) (by omega) (by omega) rfl rfl (.none rfl) (fun _ _ => (.head _ _ _)) ?_; intro a36 c36)
    refine G_val (V_assign rfl rfl) rfl rfl (.none rfl) ?_
    refine G_end (X_block (X_then (G_region ?_)))
    refine G_val (V_move rfl rfl) rfl rfl (.none rfl) ?_
    refine G_val (V_add_i64 rfl rfl rfl (by omega) (by omega)) rfl rfl (.none rfl) ?_
    refine G_val (V_assign rfl rfl) rfl rfl (.none rfl) ?_
    refine G_end (X_then ?_)
    have hap := prows_append rs [(z7, z8, rows[i].2.2)]
    refine G_again (i + 1, E35, a36, c36, rs ++ [(z7, z8, rows[i].2.2)]) ⟨(hE.trans hE6).trans hE35, hlt, by rw [List.map_append, hrs, htk]; rfl, ?_⟩ (by simp only; omega) ⟨rfl, rfl, rfl, rfl, trivial⟩ rfl (by rw [hap]; rfl)
    intro r hr
    rcases List.mem_append.1 hr with h | h
    · exact ((hrE.mono hE6).mono hE35) r h
    · rw [List.mem_singleton.1 h]; assumption
  · have hi2 : i = g.prods.length := by omega
    have hrw : rs.map (·.2.2) = g.prods := by rw [hrs, List.take_of_length_le (by omega), hrows]
    subst hi2
    have Y1 := Z7.mono hE
    have Y2 := Z15.mono hE
    refine G_seq (G_seq (G_region ?_))
    refine G_val (V_move rfl rfl) rfl rfl (.none rfl) ?_
    refine G_val (V_fieldAddr rfl rfl (by decide)) rfl rfl (.none rfl) ?_
    refine G_val (V_load rfl rfl (Cell.own (.tail _ (.tail _ (.head _))) rfl)) rfl rfl (.none rfl) ?_
    refine G_val (V_lenS rfl rfl) rfl rfl (.none rfl) ?_
    refine G_val (V_lss rfl rfl rfl) rfl rfl (.none rfl) ?_
    refine G_end (X_then ?_)
    refine G_cond_f rfl (decide_eq_false (by omega)) ?_
    refine G_exit (X_then_exit (X_then_exit (X_block_hit (X_then (G_seq (G_region ?_))))))
    refine G_val (V_move rfl rfl) rfl rfl (.none rfl) ?_
    refine G_val (V_fieldAddr rfl rfl (by decide)) rfl rfl (.none rfl) ?_
    refine G_storeAt rfl rfl rfl rfl rfl rfl (.none rfl) (.tail _ (.tail _ (.head _ _ _))) (Nat.le_of_ble_eq_true rfl) (by simp only [putAll, Nat.zero_add, Nat.reduceAdd, List.setIfInBounds_toArray, List.set_cons_succ, List.set_cons_zero]; rfl) ?_
    refine G_end (X_then (G_seq (G_region ?_)))
    refine G_val (V_loadA rfl rfl (Cells.own (.tail _ (.tail _ (.head _)))) rfl) rfl rfl (.none rfl) ?_
    refine G_storeA rfl rfl rfl rfl (by simp [Value.oneCell']) rfl (.none rfl) (.tail _ (.head _ _ _)) rfl ?_
    refine G_end (X_then (G_ret ?_))
    refine G_leaveS (.keep _ (.drop _ (.drop _ (.nil _)))) (by exact (.cons (.cellA rfl (Cells.own (.tail _ (.head _))) rfl) (.nil))) rfl ?_ ?_
    · exact ((hE4.trans hE12).trans hE)
    exact ⟨_, ⟨_, ⟨_, ⟨_, ⟨_, ⟨_, ⟨_, ⟨(by rfl), ⟨(by assumption), ⟨(by assumption), ⟨(by ((try simp only [resVal]); (repeat' split) <;> first | rfl | (exfalso; omega) | (simp_all; done) | (simp_all; omega))), ⟨(by assumption), ⟨(by assumption), ⟨(by assumption), (by rfl)⟩⟩⟩⟩⟩⟩⟩⟩⟩⟩⟩⟩⟩⟩
end
end Go.Proofs.Ytaoinojdijbhaaa
set_option linter.unusedSimpArgs false
set_option linter.unusedVariables false
set_option maxHeartbeats 2000000
set_option maxRecDepth 20000
namespace Go.Proofs.Ytaoinojdijbhaaa
open Go.RowKit
/-- The bodies of a code's loops. -/
def loops : Code → List Code
  | .seq a b => loops a ++ loops b
  | .cond _ a b => loops a ++ loops b
  | .block _ c => loops c
  | .loop c => c :: loops c
  | .scope c => loops c
  | .rangeFunc _ _ _ b => loops b
  | _ => []
def loopAt (c : Option Code) (k : Nat) : Option Code := match c with
  | none => none
  | some b => (loops b)[k]?
theorem G_at {n : Nat} {ds : List Deferred} {fs : List (Nat × Value)} {E : Env} {L : List Res} {P : Program} {Q : Exit → Act → World → Prop} {o : Option Code} {c c' : Code} (h1 : o = some c) (h2 : o = some c') (h : G n ds fs E L (c'.wpIn (Wd none) 0 P Q)) : G n ds fs E L (c.wpIn (Wd none) 0 P Q) := by
  rw [h1] at h2
  injection h2 with h2
  rw [h2]; exact h
section
variable (E : Env) (L : List Res)
theorem more_round {c : Code} (hc : loopAt Try.f9.body 4 = some c) (Q : Exit → Act → World → Prop) (n i : Nat) (hi : i < n) (hn : n ≤ 8)
    (p1 p2 p3 p4 p5 q1 q2 q3 q4 q5 : Option Addr) (k1 k2 k3 k4 k5 l1 l2 l3 l4 l5 : Nat) (xs1 xs2 xs3 ys1 ys2 ys3 : List Bool) (xs4 xs5 ys4 ys5 : List Int)
    (s1 : SlE E 1 p1 n (bools xs1)) (s2 : SlE E 1 p2 n (bools xs2)) (s3 : SlE E 1 p3 n (bools xs3)) (s4 : SlE E 1 p4 n (i64s xs4)) (s5 : SlE E 1 p5 n (i64s xs5))
    (t1 : SlE E 1 q1 n (bools ys1)) (t2 : SlE E 1 q2 n (bools ys2)) (t3 : SlE E 1 q3 n (bools ys3)) (t4 : SlE E 1 q4 n (i64s ys4)) (t5 : SlE E 1 q5 n (i64s ys5))
    (a1 a2 a3 b1 b2 b3 : Bool) (a4 a5 b4 b5 : Int)
    (f1 : (bools xs1)[i]? = some (.bool a1)) (f2 : (bools xs2)[i]? = some (.bool a2)) (f3 : (bools xs3)[i]? = some (.bool a3)) (f4 : (i64s xs4)[i]? = some (.int .i64 a4)) (f5 : (i64s xs5)[i]? = some (.int .i64 a5))
    (g1 : (bools ys1)[i]? = some (.bool b1)) (g2 : (bools ys2)[i]? = some (.bool b2)) (g3 : (bools ys3)[i]? = some (.bool b3)) (g4 : (i64s ys4)[i]? = some (.int .i64 b4)) (g5 : (i64s ys5)[i]? = some (.int .i64 b5))
    (c1 : (a1 && !b1) = false) (c2 : (a2 && !b2) = false) (c3 : (a3 && !b3) = false) (c4 : 0 ≤ a4 → 0 ≤ b4 ∧ b4 ≤ a4) (c5 : 0 < a5 → 0 < b5 ∧ b5 ≤ a5)
    (h : G 348 [] [(7, .bool true), (9, .slice p1 n k1), (10, .slice p2 n k2), (11, .slice p3 n k3), (12, .slice p4 n k4), (13, .slice p5 n k5), (19, .slice q1 n l1), (20, .slice q2 n l2), (21, .slice q3 n l3), (22, .slice q4 n l4), (23, .slice q5 n l5), (29, .int .i64 ((i + 1 : Nat) : Int))] E L (fun a w => Q .normal a w)) :
    G 348 [] [(7, .bool true), (9, .slice p1 n k1), (10, .slice p2 n k2), (11, .slice p3 n k3), (12, .slice p4 n k4), (13, .slice p5 n k5), (19, .slice q1 n l1), (20, .slice q2 n l2), (21, .slice q3 n l3), (22, .slice q4 n l4), (23, .slice q5 n l5), (29, .int .i64 i)] E L (c.wpIn (Wd none) 0 Try.prog Q) := by
  refine G_at hc (by exact rfl) ?_
  refine G_seq (G_seq (G_region ?_))
  refine G_val (V_move rfl rfl) rfl rfl (.none rfl) ?_
  refine G_val (V_move rfl rfl) rfl rfl (.none rfl) ?_
  refine G_val (V_lenS rfl rfl) rfl rfl (.none rfl) ?_
  refine G_val (V_lss rfl rfl rfl) rfl rfl (.none rfl) ?_
  refine G_end (X_then ?_)
  refine G_cond_t rfl (decide_eq_true (by omega)) ?_
  refine G_skip (X_then (G_seq (G_block (G_seq ?_))))
  simp only [List.append_eq, List.cons_append, List.nil_append]
  refine G_draw mixed (by kernel_rfl) ?_
  refine Q_split 12 [(271, .bool false), (7, .bool true), (9, .slice p1 n k1), (10, .slice p2 n k2), (11, .slice p3 n k3), (12, .slice p4 n k4), (13, .slice p5 n k5), (19, .slice q1 n l1), (20, .slice q2 n l2), (21, .slice q3 n l3), (22, .slice q4 n l4), (23, .slice q5 n l5), (29, .int .i64 i)] ?_ ?_
  · cases a1 with
    | false =>
      refine Q_val (V_move rfl rfl) rfl rfl (.none rfl) ?_
      refine Q_val (V_move rfl rfl) rfl rfl (.none rfl) ?_
      refine Q_val (V_idxAddr rfl rfl rfl (SlE.rd s1) (by omega) (by omega)) rfl rfl (.none rfl) ?_
      refine Q_val (V_loadS rfl rfl (SlE.rd s1) f1 (by simp)) rfl rfl (.none rfl) ?_
      refine Q_val (V_move rfl rfl) rfl rfl (.none rfl) ?_
      refine Q_stay (.no rfl rfl rfl rfl) rfl rfl ?_
      refine Q_stay (.no rfl rfl rfl rfl) rfl rfl ?_
      refine Q_stay (.no rfl rfl rfl rfl) rfl rfl ?_
      refine Q_stay (.no rfl rfl rfl rfl) rfl rfl ?_
      refine Q_stay (.no rfl rfl rfl rfl) rfl rfl ?_
      refine Q_val (V_pick_f rfl rfl rfl) rfl rfl (.none rfl) ?_
      refine Q_val (V_move rfl rfl) rfl rfl (.none rfl) ?_
      exact fun a ha => ha.sub ⟨rfl, rfl, rfl, rfl, rfl, rfl, rfl, rfl, rfl, rfl, rfl, rfl, rfl, trivial⟩
    | true =>
      obtain rfl : b1 = true := by cases b1 with | true => rfl | false => cases c1
      refine Q_val (V_move rfl rfl) rfl rfl (.none rfl) ?_
      refine Q_val (V_move rfl rfl) rfl rfl (.none rfl) ?_
      refine Q_val (V_idxAddr rfl rfl rfl (SlE.rd s1) (by omega) (by omega)) rfl rfl (.none rfl) ?_
      refine Q_val (V_loadS rfl rfl (SlE.rd s1) f1 (by simp)) rfl rfl (.none rfl) ?_
      refine Q_val (V_move rfl rfl) rfl rfl (.none rfl) ?_
      refine Q_val (V_move rfl rfl) rfl rfl (.yes rfl rfl rfl rfl) ?_
      refine Q_val (V_move rfl rfl) rfl rfl (.yes rfl rfl rfl rfl) ?_
      refine Q_val (V_idxAddr rfl rfl rfl (SlE.rd t1) (by omega) (by omega)) rfl rfl (.yes rfl rfl rfl rfl) ?_
      refine Q_val (V_loadS rfl rfl (SlE.rd t1) g1 (by simp)) rfl rfl (.yes rfl rfl rfl rfl) ?_
      refine Q_val (V_not rfl rfl) rfl rfl (.yes rfl rfl rfl rfl) ?_
      refine Q_val (V_pick_t rfl rfl rfl) rfl rfl (.none rfl) ?_
      refine Q_val (V_move rfl rfl) rfl rfl (.none rfl) ?_
      exact fun a ha => ha.sub ⟨rfl, rfl, rfl, rfl, rfl, rfl, rfl, rfl, rfl, rfl, rfl, rfl, rfl, trivial⟩
  refine Q_split 13 [(284, .bool false), (7, .bool true), (9, .slice p1 n k1), (10, .slice p2 n k2), (11, .slice p3 n k3), (12, .slice p4 n k4), (13, .slice p5 n k5), (19, .slice q1 n l1), (20, .slice q2 n l2), (21, .slice q3 n l3), (22, .slice q4 n l4), (23, .slice q5 n l5), (29, .int .i64 i)] ?_ ?_
  · cases a2 with
    | false =>
      refine Q_val (V_move rfl rfl) rfl rfl (.yes rfl rfl rfl rfl) ?_
      refine Q_val (V_move rfl rfl) rfl rfl (.yes rfl rfl rfl rfl) ?_
      refine Q_val (V_idxAddr rfl rfl rfl (SlE.rd s2) (by omega) (by omega)) rfl rfl (.yes rfl rfl rfl rfl) ?_
      refine Q_val (V_loadS rfl rfl (SlE.rd s2) f2 (by simp)) rfl rfl (.yes rfl rfl rfl rfl) ?_
      refine Q_val (V_move rfl rfl) rfl rfl (.yes rfl rfl rfl rfl) ?_
      refine Q_stay (.no rfl rfl rfl rfl) rfl rfl ?_
      refine Q_stay (.no rfl rfl rfl rfl) rfl rfl ?_
      refine Q_stay (.no rfl rfl rfl rfl) rfl rfl ?_
      refine Q_stay (.no rfl rfl rfl rfl) rfl rfl ?_
      refine Q_stay (.no rfl rfl rfl rfl) rfl rfl ?_
      refine Q_val (V_pick_f rfl rfl rfl) rfl rfl (.yes rfl rfl rfl rfl) ?_
      refine Q_val (V_pick_f rfl rfl rfl) rfl rfl (.none rfl) ?_
      refine Q_val (V_move rfl rfl) rfl rfl (.none rfl) ?_
      exact fun a ha => ha.sub ⟨rfl, rfl, rfl, rfl, rfl, rfl, rfl, rfl, rfl, rfl, rfl, rfl, rfl, trivial⟩
    | true =>
      obtain rfl : b2 = true := by cases b2 with | true => rfl | false => cases c2
      refine Q_val (V_move rfl rfl) rfl rfl (.yes rfl rfl rfl rfl) ?_
      refine Q_val (V_move rfl rfl) rfl rfl (.yes rfl rfl rfl rfl) ?_
      refine Q_val (V_idxAddr rfl rfl rfl (SlE.rd s2) (by omega) (by omega)) rfl rfl (.yes rfl rfl rfl rfl) ?_
      refine Q_val (V_loadS rfl rfl (SlE.rd s2) f2 (by simp)) rfl rfl (.yes rfl rfl rfl rfl) ?_
      refine Q_val (V_move rfl rfl) rfl rfl (.yes rfl rfl rfl rfl) ?_
      refine Q_val (V_move rfl rfl) rfl rfl (.yes rfl rfl rfl rfl) ?_
      refine Q_val (V_move rfl rfl) rfl rfl (.yes rfl rfl rfl rfl) ?_
      refine Q_val (V_idxAddr rfl rfl rfl (SlE.rd t2) (by omega) (by omega)) rfl rfl (.yes rfl rfl rfl rfl) ?_
      refine Q_val (V_loadS rfl rfl (SlE.rd t2) g2 (by simp)) rfl rfl (.yes rfl rfl rfl rfl) ?_
      refine Q_val (V_not rfl rfl) rfl rfl (.yes rfl rfl rfl rfl) ?_
      refine Q_val (V_pick_t rfl rfl rfl) rfl rfl (.yes rfl rfl rfl rfl) ?_
      refine Q_val (V_pick_f rfl rfl rfl) rfl rfl (.none rfl) ?_
      refine Q_val (V_move rfl rfl) rfl rfl (.none rfl) ?_
      exact fun a ha => ha.sub ⟨rfl, rfl, rfl, rfl, rfl, rfl, rfl, rfl, rfl, rfl, rfl, rfl, rfl, trivial⟩
  refine Q_split 13 [(297, .bool false), (7, .bool true), (9, .slice p1 n k1), (10, .slice p2 n k2), (11, .slice p3 n k3), (12, .slice p4 n k4), (13, .slice p5 n k5), (19, .slice q1 n l1), (20, .slice q2 n l2), (21, .slice q3 n l3), (22, .slice q4 n l4), (23, .slice q5 n l5), (29, .int .i64 i)] ?_ ?_
  · cases a3 with
    | false =>
      refine Q_val (V_move rfl rfl) rfl rfl (.yes rfl rfl rfl rfl) ?_
      refine Q_val (V_move rfl rfl) rfl rfl (.yes rfl rfl rfl rfl) ?_
      refine Q_val (V_idxAddr rfl rfl rfl (SlE.rd s3) (by omega) (by omega)) rfl rfl (.yes rfl rfl rfl rfl) ?_
      refine Q_val (V_loadS rfl rfl (SlE.rd s3) f3 (by simp)) rfl rfl (.yes rfl rfl rfl rfl) ?_
      refine Q_val (V_move rfl rfl) rfl rfl (.yes rfl rfl rfl rfl) ?_
      refine Q_stay (.no rfl rfl rfl rfl) rfl rfl ?_
      refine Q_stay (.no rfl rfl rfl rfl) rfl rfl ?_
      refine Q_stay (.no rfl rfl rfl rfl) rfl rfl ?_
      refine Q_stay (.no rfl rfl rfl rfl) rfl rfl ?_
      refine Q_stay (.no rfl rfl rfl rfl) rfl rfl ?_
      refine Q_val (V_pick_f rfl rfl rfl) rfl rfl (.yes rfl rfl rfl rfl) ?_
      refine Q_val (V_pick_f rfl rfl rfl) rfl rfl (.none rfl) ?_
      refine Q_val (V_move rfl rfl) rfl rfl (.none rfl) ?_
      exact fun a ha => ha.sub ⟨rfl, rfl, rfl, rfl, rfl, rfl, rfl, rfl, rfl, rfl, rfl, rfl, rfl, trivial⟩
    | true =>
      obtain rfl : b3 = true := by cases b3 with | true => rfl | false => cases c3
      refine Q_val (V_move rfl rfl) rfl rfl (.yes rfl rfl rfl rfl) ?_
      refine Q_val (V_move rfl rfl) rfl rfl (.yes rfl rfl rfl rfl) ?_
      refine Q_val (V_idxAddr rfl rfl rfl (SlE.rd s3) (by omega) (by omega)) rfl rfl (.yes rfl rfl rfl rfl) ?_
      refine Q_val (V_loadS rfl rfl (SlE.rd s3) f3 (by simp)) rfl rfl (.yes rfl rfl rfl rfl) ?_
      refine Q_val (V_move rfl rfl) rfl rfl (.yes rfl rfl rfl rfl) ?_
      refine Q_val (V_move rfl rfl) rfl rfl (.yes rfl rfl rfl rfl) ?_
      refine Q_val (V_move rfl rfl) rfl rfl (.yes rfl rfl rfl rfl) ?_
      refine Q_val (V_idxAddr rfl rfl rfl (SlE.rd t3) (by omega) (by omega)) rfl rfl (.yes rfl rfl rfl rfl) ?_
      refine Q_val (V_loadS rfl rfl (SlE.rd t3) g3 (by simp)) rfl rfl (.yes rfl rfl rfl rfl) ?_
      refine Q_val (V_not rfl rfl) rfl rfl (.yes rfl rfl rfl rfl) ?_
      refine Q_val (V_pick_t rfl rfl rfl) rfl rfl (.yes rfl rfl rfl rfl) ?_
      refine Q_val (V_pick_f rfl rfl rfl) rfl rfl (.none rfl) ?_
      refine Q_val (V_move rfl rfl) rfl rfl (.none rfl) ?_
      exact fun a ha => ha.sub ⟨rfl, rfl, rfl, rfl, rfl, rfl, rfl, rfl, rfl, rfl, rfl, rfl, rfl, trivial⟩
  refine Q_split 25 [(322, .bool false), (7, .bool true), (9, .slice p1 n k1), (10, .slice p2 n k2), (11, .slice p3 n k3), (12, .slice p4 n k4), (13, .slice p5 n k5), (19, .slice q1 n l1), (20, .slice q2 n l2), (21, .slice q3 n l3), (22, .slice q4 n l4), (23, .slice q5 n l5), (29, .int .i64 i)] ?_ ?_
  · by_cases h4 : 0 ≤ a4
    · obtain ⟨d1, d2⟩ := c4 h4
      refine Q_val (V_move rfl rfl) rfl rfl (.yes rfl rfl rfl rfl) ?_
      refine Q_val (V_move rfl rfl) rfl rfl (.yes rfl rfl rfl rfl) ?_
      refine Q_val (V_idxAddr rfl rfl rfl (SlE.rd s4) (by omega) (by omega)) rfl rfl (.yes rfl rfl rfl rfl) ?_
      refine Q_val (V_loadS rfl rfl (SlE.rd s4) f4 (by simp)) rfl rfl (.yes rfl rfl rfl rfl) ?_
      refine Q_val (V_geq rfl rfl rfl) rfl rfl (.yes rfl rfl rfl rfl) ?_
      refine Q_bool_t 302 rfl (decide_eq_true (by omega)) ?_
      refine Q_val (V_move rfl rfl) rfl rfl (.yes rfl rfl rfl rfl) ?_
      refine Q_val (V_move rfl rfl) rfl rfl (.yes rfl rfl rfl rfl) ?_
      refine Q_val (V_move rfl rfl) rfl rfl (.yes rfl rfl rfl rfl) ?_
      refine Q_val (V_idxAddr rfl rfl rfl (SlE.rd t4) (by omega) (by omega)) rfl rfl (.yes rfl rfl rfl rfl) ?_
      refine Q_val (V_loadS rfl rfl (SlE.rd t4) g4 (by simp)) rfl rfl (.yes rfl rfl rfl rfl) ?_
      refine Q_val (V_move rfl rfl) rfl rfl (.yes rfl rfl rfl rfl) ?_
      refine Q_val (V_move rfl rfl) rfl rfl (.yes rfl rfl rfl rfl) ?_
      refine Q_val (V_idxAddr rfl rfl rfl (SlE.rd s4) (by omega) (by omega)) rfl rfl (.yes rfl rfl rfl rfl) ?_
      refine Q_val (V_loadS rfl rfl (SlE.rd s4) f4 (by simp)) rfl rfl (.yes rfl rfl rfl rfl) ?_
      refine Q_val (V_gtr rfl rfl rfl) rfl rfl (.yes rfl rfl rfl rfl) ?_
      refine Q_bool_f 312 rfl (decide_eq_false (by omega)) ?_
      refine Q_val (V_move rfl rfl) rfl rfl (.yes rfl rfl rfl rfl) ?_
      refine Q_val (V_move rfl rfl) rfl rfl (.yes rfl rfl rfl rfl) ?_
      refine Q_val (V_move rfl rfl) rfl rfl (.yes rfl rfl rfl rfl) ?_
      refine Q_val (V_idxAddr rfl rfl rfl (SlE.rd t4) (by omega) (by omega)) rfl rfl (.yes rfl rfl rfl rfl) ?_
      refine Q_val (V_loadS rfl rfl (SlE.rd t4) g4 (by simp)) rfl rfl (.yes rfl rfl rfl rfl) ?_
      refine Q_val (V_lss rfl rfl rfl) rfl rfl (.yes rfl rfl rfl rfl) ?_
      refine Q_bool_f 318 rfl (decide_eq_false (by omega)) ?_
      refine Q_val (V_pick_f rfl rfl rfl) rfl rfl (.yes rfl rfl rfl rfl) ?_
      refine Q_val (V_pick_t rfl rfl rfl) rfl rfl (.yes rfl rfl rfl rfl) ?_
      refine Q_val (V_pick_f rfl rfl rfl) rfl rfl (.none rfl) ?_
      refine Q_val (V_move rfl rfl) rfl rfl (.none rfl) ?_
      exact fun a ha => ha.sub ⟨rfl, rfl, rfl, rfl, rfl, rfl, rfl, rfl, rfl, rfl, rfl, rfl, rfl, trivial⟩
    · skip
      refine Q_val (V_move rfl rfl) rfl rfl (.yes rfl rfl rfl rfl) ?_
      refine Q_val (V_move rfl rfl) rfl rfl (.yes rfl rfl rfl rfl) ?_
      refine Q_val (V_idxAddr rfl rfl rfl (SlE.rd s4) (by omega) (by omega)) rfl rfl (.yes rfl rfl rfl rfl) ?_
      refine Q_val (V_loadS rfl rfl (SlE.rd s4) f4 (by simp)) rfl rfl (.yes rfl rfl rfl rfl) ?_
      refine Q_val (V_geq rfl rfl rfl) rfl rfl (.yes rfl rfl rfl rfl) ?_
      refine Q_bool_f 302 rfl (decide_eq_false (by omega)) ?_
      refine Q_val (V_move rfl rfl) rfl rfl (.yes rfl rfl rfl rfl) ?_
      refine Q_stay (.no rfl rfl rfl rfl) rfl rfl ?_
      refine Q_stay (.no rfl rfl rfl rfl) rfl rfl ?_
      refine Q_stay (.no rfl rfl rfl rfl) rfl rfl ?_
      refine Q_stay (.no rfl rfl rfl rfl) rfl rfl ?_
      refine Q_stay (.no rfl rfl rfl rfl) rfl rfl ?_
      refine Q_stay (.no rfl rfl rfl rfl) rfl rfl ?_
      refine Q_stay (.no rfl rfl rfl rfl) rfl rfl ?_
      refine Q_stay (.no rfl rfl rfl rfl) rfl rfl ?_
      refine Q_stay (.no rfl rfl rfl rfl) rfl rfl ?_
      refine Q_stay (.no rfl rfl rfl rfl) rfl rfl ?_
      refine Q_stay (.un rfl rfl rfl rfl) rfl rfl ?_
      refine Q_stay (.un rfl rfl rfl rfl) rfl rfl ?_
      refine Q_stay (.un rfl rfl rfl rfl) rfl rfl ?_
      refine Q_stay (.un rfl rfl rfl rfl) rfl rfl ?_
      refine Q_stay (.un rfl rfl rfl rfl) rfl rfl ?_
      refine Q_stay (.no rfl rfl rfl rfl) rfl rfl ?_
      refine Q_val (V_pick_f rfl rfl rfl) rfl rfl (.yes rfl rfl rfl rfl) ?_
      refine Q_val (V_pick_f rfl rfl rfl) rfl rfl (.none rfl) ?_
      refine Q_val (V_move rfl rfl) rfl rfl (.none rfl) ?_
      exact fun a ha => ha.sub ⟨rfl, rfl, rfl, rfl, rfl, rfl, rfl, rfl, rfl, rfl, rfl, rfl, rfl, trivial⟩
  refine Q_split 24 [(346, .bool false), (7, .bool true), (9, .slice p1 n k1), (10, .slice p2 n k2), (11, .slice p3 n k3), (12, .slice p4 n k4), (13, .slice p5 n k5), (19, .slice q1 n l1), (20, .slice q2 n l2), (21, .slice q3 n l3), (22, .slice q4 n l4), (23, .slice q5 n l5), (29, .int .i64 i)] ?_ ?_
  · by_cases h5 : 0 < a5
    · obtain ⟨d1, d2⟩ := c5 h5
      refine Q_val (V_move rfl rfl) rfl rfl (.yes rfl rfl rfl rfl) ?_
      refine Q_val (V_move rfl rfl) rfl rfl (.yes rfl rfl rfl rfl) ?_
      refine Q_val (V_idxAddr rfl rfl rfl (SlE.rd s5) (by omega) (by omega)) rfl rfl (.yes rfl rfl rfl rfl) ?_
      refine Q_val (V_loadS rfl rfl (SlE.rd s5) f5 (by simp)) rfl rfl (.yes rfl rfl rfl rfl) ?_
      refine Q_val (V_gtr rfl rfl rfl) rfl rfl (.yes rfl rfl rfl rfl) ?_
      refine Q_bool_t 327 rfl (decide_eq_true (by omega)) ?_
      refine Q_val (V_move rfl rfl) rfl rfl (.yes rfl rfl rfl rfl) ?_
      refine Q_val (V_move rfl rfl) rfl rfl (.yes rfl rfl rfl rfl) ?_
      refine Q_val (V_move rfl rfl) rfl rfl (.yes rfl rfl rfl rfl) ?_
      refine Q_val (V_idxAddr rfl rfl rfl (SlE.rd t5) (by omega) (by omega)) rfl rfl (.yes rfl rfl rfl rfl) ?_
      refine Q_val (V_loadS rfl rfl (SlE.rd t5) g5 (by simp)) rfl rfl (.yes rfl rfl rfl rfl) ?_
      refine Q_val (V_move rfl rfl) rfl rfl (.yes rfl rfl rfl rfl) ?_
      refine Q_val (V_move rfl rfl) rfl rfl (.yes rfl rfl rfl rfl) ?_
      refine Q_val (V_idxAddr rfl rfl rfl (SlE.rd s5) (by omega) (by omega)) rfl rfl (.yes rfl rfl rfl rfl) ?_
      refine Q_val (V_loadS rfl rfl (SlE.rd s5) f5 (by simp)) rfl rfl (.yes rfl rfl rfl rfl) ?_
      refine Q_val (V_gtr rfl rfl rfl) rfl rfl (.yes rfl rfl rfl rfl) ?_
      refine Q_bool_f 337 rfl (decide_eq_false (by omega)) ?_
      refine Q_val (V_move rfl rfl) rfl rfl (.yes rfl rfl rfl rfl) ?_
      refine Q_val (V_move rfl rfl) rfl rfl (.yes rfl rfl rfl rfl) ?_
      refine Q_val (V_move rfl rfl) rfl rfl (.yes rfl rfl rfl rfl) ?_
      refine Q_val (V_idxAddr rfl rfl rfl (SlE.rd t5) (by omega) (by omega)) rfl rfl (.yes rfl rfl rfl rfl) ?_
      refine Q_val (V_loadS rfl rfl (SlE.rd t5) g5 (by simp)) rfl rfl (.yes rfl rfl rfl rfl) ?_
      refine Q_val (V_eql rfl rfl rfl) rfl rfl (.yes rfl rfl rfl rfl) ?_
      refine Q_bool_f 343 rfl (decide_eq_false (by omega)) ?_
      refine Q_val (V_pick_f rfl rfl rfl) rfl rfl (.yes rfl rfl rfl rfl) ?_
      refine Q_val (V_pick_t rfl rfl rfl) rfl rfl (.yes rfl rfl rfl rfl) ?_
      refine Q_val (V_pick_f rfl rfl rfl) rfl rfl (.none rfl) ?_
      exact fun a ha => ha.sub ⟨rfl, rfl, rfl, rfl, rfl, rfl, rfl, rfl, rfl, rfl, rfl, rfl, rfl, trivial⟩
    · skip
      refine Q_val (V_move rfl rfl) rfl rfl (.yes rfl rfl rfl rfl) ?_
      refine Q_val (V_move rfl rfl) rfl rfl (.yes rfl rfl rfl rfl) ?_
      refine Q_val (V_idxAddr rfl rfl rfl (SlE.rd s5) (by omega) (by omega)) rfl rfl (.yes rfl rfl rfl rfl) ?_
      refine Q_val (V_loadS rfl rfl (SlE.rd s5) f5 (by simp)) rfl rfl (.yes rfl rfl rfl rfl) ?_
      refine Q_val (V_gtr rfl rfl rfl) rfl rfl (.yes rfl rfl rfl rfl) ?_
      refine Q_bool_f 327 rfl (decide_eq_false (by omega)) ?_
      refine Q_val (V_move rfl rfl) rfl rfl (.yes rfl rfl rfl rfl) ?_
      refine Q_stay (.no rfl rfl rfl rfl) rfl rfl ?_
      refine Q_stay (.no rfl rfl rfl rfl) rfl rfl ?_
      refine Q_stay (.no rfl rfl rfl rfl) rfl rfl ?_
      refine Q_stay (.no rfl rfl rfl rfl) rfl rfl ?_
      refine Q_stay (.no rfl rfl rfl rfl) rfl rfl ?_
      refine Q_stay (.no rfl rfl rfl rfl) rfl rfl ?_
      refine Q_stay (.no rfl rfl rfl rfl) rfl rfl ?_
      refine Q_stay (.no rfl rfl rfl rfl) rfl rfl ?_
      refine Q_stay (.no rfl rfl rfl rfl) rfl rfl ?_
      refine Q_stay (.no rfl rfl rfl rfl) rfl rfl ?_
      refine Q_stay (.un rfl rfl rfl rfl) rfl rfl ?_
      refine Q_stay (.un rfl rfl rfl rfl) rfl rfl ?_
      refine Q_stay (.un rfl rfl rfl rfl) rfl rfl ?_
      refine Q_stay (.un rfl rfl rfl rfl) rfl rfl ?_
      refine Q_stay (.un rfl rfl rfl rfl) rfl rfl ?_
      refine Q_stay (.no rfl rfl rfl rfl) rfl rfl ?_
      refine Q_val (V_pick_f rfl rfl rfl) rfl rfl (.yes rfl rfl rfl rfl) ?_
      refine Q_val (V_pick_f rfl rfl rfl) rfl rfl (.none rfl) ?_
      exact fun a ha => ha.sub ⟨rfl, rfl, rfl, rfl, rfl, rfl, rfl, rfl, rfl, rfl, rfl, rfl, rfl, trivial⟩
  refine Q_end ?_
  refine X_then ?_
  refine G_cond_f rfl rfl ?_
  refine G_skip (X_block (X_then (G_region ?_)))
  refine G_val (V_move rfl rfl) rfl rfl (.none rfl) ?_
  refine G_val (V_add_i64 rfl rfl rfl (by omega) (by omega)) rfl rfl (.none rfl) ?_
  refine G_val (V_assign rfl rfl) rfl rfl (.none rfl) ?_
  refine G_end ?_
  refine G.sub _ ?_ h
  exact ⟨rfl, rfl, rfl, rfl, rfl, rfl, rfl, rfl, rfl, rfl, rfl, rfl, trivial⟩
end
end Go.Proofs.Ytaoinojdijbhaaa
