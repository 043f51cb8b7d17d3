import Derived.Test.YtaoinojdijbhaaaSep19
import Derived.Test.YtaoinojdijbhaaaSep20
import Derived.Test.YtaoinojdijbhaaaSep21
import Derived.Test.YtaoinojdijbhaaaSep22
import Derived.Test.YtaoinojdijbhaaaSep23
import Derived.Test.YtaoinojdijbhaaaSep24
import Derived.Test.YtaoinojdijbhaaaInst
import Derived.Test.YtaoinojdijbhaaaD10
set_option linter.unusedSimpArgs false
set_option linter.unusedVariables false
set_option maxHeartbeats 2000000
set_option maxRecDepth 20000
namespace Go.Proofs.Ytaoinojdijbhaaa
open Go.RowKit
def firstF (l : List Bool) : Option Nat := l.findIdx? fun b => !b
theorem firstF_some {l : List Bool} {i : Nat} (hi : i < l.length) (h : l[i] = false) (hp : ∀ k, k < i → (hk : k < l.length) → l[k] = true) : firstF l = some i := by
  rw [firstF, List.findIdx?_eq_some_iff_getElem]
  exact ⟨hi, by simp [h], fun j hj => by simp [hp j hj (by omega)]⟩
theorem firstF_none {l : List Bool} (hp : ∀ k, k < l.length → (hk : k < l.length) → l[k] = true) : firstF l = none := by
  rw [firstF, List.findIdx?_eq_none_iff]
  intro x hx
  obtain ⟨k, hk, rfl⟩ := List.getElem_of_mem hx
  simp [hp k hk hk]
def redM (g : Gr) : Int × Int := if gcheck g = 0 then (match firstF (yieldsM g) with
  | some i => ((i : Int), 16)
  | none => match firstF (reachM g) with
    | some i => ((i : Int), 15)
    | none => (0, 0)) else (0, gcheck g)
def belowM (g : Gr) (m : Int) : List Bool := reachL g.prods g.names.length (16 + m)
def belowE (g : Gr) (m : Int) : Int := if gcheck g = 0 then (if m < 0 ∨ (g.names.length : Int) ≤ m then 2 else 0) else gcheck g
def belowL (g : Gr) (m : Int) : List Bool := if belowE g m = 0 then belowM g m else []
def emptyM (g : Gr) (r : List Int) : Bool × Int := if gcheck g = 0 then (if r.any (fun s => !termB g s && !ntB g s) = true then (false, 14) else (r.all (goodB false (nullM g)), 0)) else (false, gcheck g)
theorem bools_at {l : List Bool} {i : Nat} (h : i < l.length) : (bools l)[i]? = some (.bool l[i]) := by simp [bools, h]
section
variable (E : Env) (L : List Res)
theorem Below_call (gv : Value) (g : Gr) (hg : GrE E gv g) (hl : Light g) (m : Int) : CallS Try.prog 48 #[gv, .int .i64 m] E L (fun r E' L' => ∃ p c, r = .tuple #[.slice p (belowL g m).length c, .int .i64 (belowE g m)] ∧ SlE E' 1 p (belowL g m).length (bools (belowL g m)) ∧ L' = L) := by
  have hg0 := hg
  obtain ⟨tp, tc, np, nc, pp, pc, rfl, ht, hn, ⟨rows, hrows, hps, hre⟩, k1, k2, k3⟩ := hg
  have q2 := hl.n
  have hnil := @SlE.nil E 1
  refine CallS.intro (l := [_, _]) _ Try.func48 rfl Try.ntmps48 rfl ?_
  by_cases hv : gcheck g = 0
  · by_cases hm : m < 0 ∨ (g.names.length : Int) ≤ m
    · have he : belowE g m = 2 := by rw [belowE, if_pos hv, if_pos hm]
      rw [belowL, if_neg (by omega), he]
      refine G_seq (G_region ?_)
      (refine G_boxA rfl rfl rfl rfl (.none rfl) ?_; intro b2)
      refine G_val (V_assign rfl rfl) rfl rfl (.none rfl) ?_
      refine G_val (V_assign rfl rfl) rfl rfl (.none rfl) ?_
      refine G_end (X_then (G_seq (G_region ?_)))
      refine G_val (V_loadA rfl rfl (Cells.own (.head _)) rfl) rfl rfl (.none rfl) ?_
      refine G_callv (k := 67) (.mk rfl rfl rfl rfl) rfl rfl (.none rfl) (GCheck_call _ _ _ _ (by assumption) (by assumption)) ?_
      refine G_val (V_assign rfl rfl) rfl rfl (.none rfl) ?_
      refine G_end (X_then (G_seq (G_seq (G_region ?_))))
      refine G_val (V_move rfl rfl) rfl rfl (.none rfl) ?_
      refine G_val (V_eql rfl rfl rfl) rfl rfl (.none rfl) ?_
      refine G_val (V_move rfl rfl) rfl rfl (.none rfl) ?_
      refine G.bool_t 11 rfl (decide_eq_true (by omega)) ?_
      refine G_val (V_move rfl rfl) rfl rfl (.yes rfl rfl rfl rfl) ?_
      refine G_val (V_lss rfl rfl rfl) rfl rfl (.yes rfl rfl rfl rfl) ?_
      refine G_val (V_move rfl rfl) rfl rfl (.yes rfl rfl rfl rfl) ?_
      apply G_joinOr 6 14 20 rfl
      · intro H1
        dsimp only [List.take]
        simp only [Bool.and_eq_true, Bool.or_eq_true, Bool.not_eq_true', Bool.not_eq_false', Bool.and_eq_false_iff, Bool.or_eq_false_iff, Bool.not_not, decide_eq_true_eq, decide_eq_false_iff_not, ne_eq, Decidable.not_not, Bool.decide_eq_true] at H1
        refine G_stay (.no rfl rfl rfl rfl) rfl rfl ?_
        refine G_stay (.no rfl rfl rfl rfl) rfl rfl ?_
        refine G_stay (.no rfl rfl rfl rfl) rfl rfl ?_
        refine G_stay (.no rfl rfl rfl rfl) rfl rfl ?_
        refine G_stay (.no rfl rfl rfl rfl) rfl rfl ?_
        refine G_val (V_pick_t rfl rfl rfl) rfl rfl (.yes rfl rfl rfl rfl) ?_
        refine G_end ?_
        exact JQ_end 6 rfl rfl (by kernel_rfl)
      · intro H2
        dsimp only [List.take]
        simp only [Bool.and_eq_true, Bool.or_eq_true, Bool.not_eq_true', Bool.not_eq_false', Bool.and_eq_false_iff, Bool.or_eq_false_iff, Bool.not_not, decide_eq_true_eq, decide_eq_false_iff_not, ne_eq, Decidable.not_not, Bool.decide_eq_true] at H2
        refine G_val (V_move rfl rfl) rfl rfl (.yes rfl rfl rfl rfl) ?_
        refine G_val (V_fieldAddr rfl rfl (by decide)) rfl rfl (.yes rfl rfl rfl rfl) ?_
        refine G_val (V_load rfl rfl (Cell.own (.head _) rfl)) rfl rfl (.yes rfl rfl rfl rfl) ?_
        refine G_val (V_lenS rfl rfl) rfl rfl (.yes rfl rfl rfl rfl) ?_
        refine G_val (V_geq rfl rfl rfl) rfl rfl (.yes rfl rfl rfl rfl) ?_
        refine G_val (V_pick_f rfl rfl rfl) rfl rfl (.yes rfl rfl rfl rfl) ?_
        refine G_end ?_
        exact JQ_end 6 rfl rfl (by kernel_rfl)
      dsimp only [List.drop]
      refine G_val (V_pick_t rfl rfl rfl) rfl rfl (.none rfl) ?_
      refine G_end (X_then ?_)
      refine G_cond_t rfl (by simp [*]; done) ?_
      refine G_region ?_
      refine G_val (V_assign rfl rfl) rfl rfl (.none rfl) ?_
      refine G_end (X_then (G_seq (G_seq (G_region ?_))))
      refine G_val (V_move rfl rfl) rfl rfl (.none rfl) ?_
      refine G_val (V_neq rfl rfl rfl) rfl rfl (.none rfl) ?_
      refine G_end (X_then ?_)
      refine G_cond_t rfl (by kernel_rfl) ?_
      refine G_seq (G_region ?_)
      refine G_val (V_move rfl rfl) rfl rfl (.none rfl) ?_
      refine G_val (V_assign rfl rfl) rfl rfl (.none rfl) ?_
      refine G_val (V_assign rfl rfl) rfl rfl (.none rfl) ?_
      refine G_end (X_then (G_ret (X_then_ret ?_)))
      refine G_leaveS (.drop _ (.nil _)) (by exact (.cons (.tmp rfl) (.cons (.tmp rfl) (.nil)))) rfl ?_ ?_
      · exact (.refl _)
      exact ⟨_, ⟨_, ⟨rfl, ⟨(by assumption), rfl⟩⟩⟩⟩
    · have he : belowE g m = 0 := by rw [belowE, if_pos hv, if_neg hm]
      have hva := valid_of hv
      have hw := hva.wf
      have hlen : (belowM g m).length = g.names.length := reachL_len hw (by omega) (by omega)
      rw [belowL, if_pos he, he, hlen, belowM]
      refine G_seq (G_region ?_)
      (refine G_boxA rfl rfl rfl rfl (.none rfl) ?_; intro b2)
      refine G_val (V_assign rfl rfl) rfl rfl (.none rfl) ?_
      refine G_val (V_assign rfl rfl) rfl rfl (.none rfl) ?_
      refine G_end (X_then (G_seq (G_region ?_)))
      refine G_val (V_loadA rfl rfl (Cells.own (.head _)) rfl) rfl rfl (.none rfl) ?_
      refine G_callv (k := 67) (.mk rfl rfl rfl rfl) rfl rfl (.none rfl) (GCheck_call _ _ _ _ (by assumption) (by assumption)) ?_
      refine G_val (V_assign rfl rfl) rfl rfl (.none rfl) ?_
      refine G_end (X_then (G_seq (G_seq (G_region ?_))))
      refine G_val (V_move rfl rfl) rfl rfl (.none rfl) ?_
      refine G_val (V_eql rfl rfl rfl) rfl rfl (.none rfl) ?_
      refine G_val (V_move rfl rfl) rfl rfl (.none rfl) ?_
      refine G.bool_t 11 rfl (decide_eq_true (by omega)) ?_
      refine G_val (V_move rfl rfl) rfl rfl (.yes rfl rfl rfl rfl) ?_
      refine G_val (V_lss rfl rfl rfl) rfl rfl (.yes rfl rfl rfl rfl) ?_
      refine G_val (V_move rfl rfl) rfl rfl (.yes rfl rfl rfl rfl) ?_
      refine G.bool_f 14 rfl (decide_eq_false (by omega)) ?_
      refine G_val (V_move rfl rfl) rfl rfl (.yes rfl rfl rfl rfl) ?_
      refine G_val (V_fieldAddr rfl rfl (by decide)) rfl rfl (.yes rfl rfl rfl rfl) ?_
      refine G_val (V_load rfl rfl (Cell.own (.head _) rfl)) rfl rfl (.yes rfl rfl rfl rfl) ?_
      refine G_val (V_lenS rfl rfl) rfl rfl (.yes rfl rfl rfl rfl) ?_
      refine G_val (V_geq rfl rfl rfl) rfl rfl (.yes rfl rfl rfl rfl) ?_
      refine G_val (V_pick_f rfl rfl rfl) rfl rfl (.yes rfl rfl rfl rfl) ?_
      refine G_val (V_pick_t rfl rfl rfl) rfl rfl (.none rfl) ?_
      refine G_end (X_then ?_)
      refine G_cond_f rfl (decide_eq_false (by omega)) ?_
      refine G_skip (X_then (G_seq (G_seq (G_region ?_))))
      refine G_val (V_move rfl rfl) rfl rfl (.none rfl) ?_
      refine G_val (V_neq rfl rfl rfl) rfl rfl (.none rfl) ?_
      refine G_end (X_then ?_)
      refine G_cond_f rfl (decide_eq_false (by omega)) ?_
      refine G_skip (X_then (G_seq (G_region ?_)))
      refine G_val (V_loadA rfl rfl (Cells.own (.head _)) rfl) rfl rfl (.none rfl) ?_
      refine G_val (V_move rfl rfl) rfl rfl (.none rfl) ?_
      refine G_val (V_add_i64 rfl rfl rfl (by omega) (by omega)) rfl rfl (.none rfl) ?_
      refine G_call (k := 83) (.mk rfl rfl rfl rfl) rfl rfl (.none rfl) (reached_call _ _ _ _ (by assumption) (by assumption) _ (by assumption) (by omega) (by omega)) ?_
      rintro r1 E2 L3 hE4 ⟨z5, ⟨rfl, ⟨Z6, rfl⟩⟩⟩
      replace hg0 := hg0.mono hE4
      replace ht := ht.mono hE4
      replace hn := hn.mono hE4
      replace hps := hps.mono hE4
      replace hnil := hnil.mono hE4
      refine G_val (V_assign rfl rfl) rfl rfl (.none rfl) ?_
      refine G_val (V_assign rfl rfl) rfl rfl (.none rfl) ?_
      refine G_end (X_then (G_ret ?_))
      refine G_leaveS (.drop _ (.nil _)) (by exact (.cons (.tmp rfl) (.cons (.tmp rfl) (.nil)))) rfl ?_ ?_
      · exact hE4
      exact ⟨_, ⟨_, ⟨rfl, ⟨(by assumption), rfl⟩⟩⟩⟩
  · have he : belowE g m = gcheck g := by rw [belowE, if_neg hv]
    rw [belowL, if_neg (by omega), he]
    refine G_seq (G_region ?_)
    (refine G_boxA rfl rfl rfl rfl (.none rfl) ?_; intro b2)
    refine G_val (V_assign rfl rfl) rfl rfl (.none rfl) ?_
    refine G_val (V_assign rfl rfl) rfl rfl (.none rfl) ?_
    refine G_end (X_then (G_seq (G_region ?_)))
    refine G_val (V_loadA rfl rfl (Cells.own (.head _)) rfl) rfl rfl (.none rfl) ?_
    refine G_callv (k := 67) (.mk rfl rfl rfl rfl) rfl rfl (.none rfl) (GCheck_call _ _ _ _ (by assumption) (by assumption)) ?_
    refine G_val (V_assign rfl rfl) rfl rfl (.none rfl) ?_
    refine G_end (X_then (G_seq (G_seq (G_region ?_))))
    refine G_val (V_move rfl rfl) rfl rfl (.none rfl) ?_
    refine G_val (V_eql rfl rfl rfl) rfl rfl (.none rfl) ?_
    refine G_val (V_move rfl rfl) rfl rfl (.none rfl) ?_
    refine G.bool_f 11 rfl (decide_eq_false (by omega)) ?_
    refine G_stay (.no rfl rfl rfl rfl) rfl rfl ?_
    refine G_stay (.no rfl rfl rfl rfl) rfl rfl ?_
    refine G_stay (.no rfl rfl rfl rfl) rfl rfl ?_
    refine G_stay (.un rfl rfl rfl rfl) rfl rfl ?_
    refine G_stay (.un rfl rfl rfl rfl) rfl rfl ?_
    refine G_stay (.un rfl rfl rfl rfl) rfl rfl ?_
    refine G_stay (.un rfl rfl rfl rfl) rfl rfl ?_
    refine G_stay (.un rfl rfl rfl rfl) rfl rfl ?_
    refine G_stay (.no rfl rfl rfl rfl) rfl rfl ?_
    refine G_val (V_pick_f rfl rfl rfl) rfl rfl (.none rfl) ?_
    refine G_end (X_then ?_)
    refine G_cond_f rfl rfl ?_
    refine G_skip (X_then (G_seq (G_seq (G_region ?_))))
    refine G_val (V_move rfl rfl) rfl rfl (.none rfl) ?_
    refine G_val (V_neq rfl rfl rfl) rfl rfl (.none rfl) ?_
    refine G_end (X_then ?_)
    refine G_cond_t rfl (decide_eq_true (by omega)) ?_
    refine G_seq (G_region ?_)
    refine G_val (V_move rfl rfl) rfl rfl (.none rfl) ?_
    refine G_val (V_assign rfl rfl) rfl rfl (.none rfl) ?_
    refine G_val (V_assign rfl rfl) rfl rfl (.none rfl) ?_
    refine G_end (X_then (G_ret (X_then_ret ?_)))
    refine G_leaveS (.drop _ (.nil _)) (by exact (.cons (.tmp rfl) (.cons (.tmp rfl) (.nil)))) rfl ?_ ?_
    · exact (.refl _)
    exact ⟨_, ⟨_, ⟨rfl, ⟨(by assumption), rfl⟩⟩⟩⟩
theorem Reduced_call (gv : Value) (g : Gr) (hg : GrE E gv g) (hl : Light g) : CallV Try.prog 44 #[gv] E L (.tuple #[.int .i64 (redM g).1, .int .i64 (redM g).2]) := by
  have hg0 := hg
  obtain ⟨tp, tc, np, nc, pp, pc, rfl, ht, hn, ⟨rows, hrows, hps, hre⟩, k1, k2, k3⟩ := hg
  have q2 := hl.n
  refine CallS.toV (CallS.intro (l := [_]) _ Try.func44 rfl Try.ntmps44 rfl ?_)
  by_cases hv : gcheck g = 0
  · have hva := valid_of hv
    have hw := hva.wf
    have hst := hva.start
    have hy := yieldsM_len hva
    have hr := reachM_len hva
    have e := okL_pos hv (yieldsM g)
    have e2 : redM g = (match firstF (yieldsM g) with
      | some i => ((i : Int), 16)
      | none => match firstF (reachM g) with
        | some i => ((i : Int), 15)
        | none => (0, 0)) := by rw [redM, if_pos hv]
    refine G_seq (G_region ?_)
    (refine G_boxA rfl rfl rfl rfl (.none rfl) ?_; intro b1)
    refine G_val (V_assign rfl rfl) rfl rfl (.none rfl) ?_
    refine G_val (V_assign rfl rfl) rfl rfl (.none rfl) ?_
    refine G_end (X_then (G_seq (G_region ?_)))
    refine G_val (V_loadA rfl rfl (Cells.own (.head _)) rfl) rfl rfl (.none rfl) ?_
    refine G_call (k := 33) (.mk rfl rfl rfl rfl) rfl rfl (.none rfl) (Yields_call _ _ _ _ (by assumption) (by assumption)) ?_
    rintro r1 E2 L3 hE4 ⟨z5, ⟨z6, ⟨rfl, ⟨Z7, rfl⟩⟩⟩⟩
    replace hg0 := hg0.mono hE4
    replace ht := ht.mono hE4
    replace hn := hn.mono hE4
    replace hps := hps.mono hE4
    refine G_val (V_move rfl rfl) rfl rfl (.none rfl) ?_
    refine G_val (V_extract rfl rfl rfl) rfl rfl (.none rfl) ?_
    refine G_val (V_extract rfl rfl rfl) rfl rfl (.none rfl) ?_
    refine G_val (V_assign rfl rfl) rfl rfl (.none rfl) ?_
    refine G_val (V_assign rfl rfl) rfl rfl (.none rfl) ?_
    refine G_end (X_then (G_seq (G_seq (G_region ?_))))
    refine G_val (V_move rfl rfl) rfl rfl (.none rfl) ?_
    refine G_val (V_neq rfl rfl rfl) rfl rfl (.none rfl) ?_
    refine G_end (X_then ?_)
    refine G_cond_f rfl (decide_eq_false (by omega)) ?_
    refine G_skip (X_then (G_seq (G_seq (G_region ?_))))
    refine G_val (V_move rfl rfl) rfl rfl (.none rfl) ?_
    refine G_val (V_lenS rfl rfl) rfl rfl (.none rfl) ?_
    refine G_val (V_move rfl rfl) rfl rfl (.none rfl) ?_
    refine G_end (X_then (G_block ?_))
    rw [e, hy] at Z7 ⊢
    refine G_loop (α := Nat) (fun i => [(1, .pointer (some ⟨b1, 0, none⟩)), (17, .slice z5 g.names.length z6), (18, .int .i64 g.names.length), (19, .int .i64 i)]) (fun _ => E2) (fun _ => GB b1 g tp tc np nc pp pc :: L)
      (fun i => i ≤ g.names.length ∧ ∀ k, k < i → (hk : k < (yieldsM g).length) → (yieldsM g)[k] = true) (fun i => g.names.length - i) 0 ⟨Nat.zero_le _, fun k hk => by cases hk⟩ ⟨rfl, rfl, rfl, rfl, trivial⟩ rfl rfl ?_
    rintro i ⟨hi, hall⟩
    by_cases hlt : i < g.names.length
    · have hlt2 : i < (yieldsM g).length := by omega
      have hb := bools_at hlt2
      cases hc : (yieldsM g)[i] with
      | false =>
        rw [e2, firstF_some hlt2 hc hall]
        refine G_seq (G_region ?_)
        refine G_val (V_lss rfl rfl rfl) rfl rfl (.none rfl) ?_
        refine G_end (X_then (G_seq ?_))
        refine G_cond_t rfl (decide_eq_true (by omega)) ?_
        refine G_skip (X_then (G_seq (G_block (G_seq (G_region ?_)))))
        refine G_val (V_move rfl rfl) rfl rfl (.none rfl) ?_
        refine G_val (V_idxAddr rfl rfl rfl (SlE.rd (by assumption)) (by omega) (by omega)) rfl rfl (.none rfl) ?_
        refine G_val (V_loadS rfl rfl (SlE.rd (by assumption)) (by assumption) (by simp)) rfl rfl (.none rfl) ?_
        refine G_val (V_assign rfl rfl) rfl rfl (.none rfl) ?_
        refine G_val (V_assign rfl rfl) rfl rfl (.none rfl) ?_
        refine G_end (X_then (G_seq (G_region ?_)))
        refine G_val (V_move rfl rfl) rfl rfl (.none rfl) ?_
        refine G_val (V_not rfl rfl) rfl rfl (.none rfl) ?_
        refine G_end (X_then ?_)
        refine G_cond_t rfl (by simp [*]; done) ?_
        refine G_seq (G_region ?_)
        refine G_val (V_move rfl rfl) rfl rfl (.none rfl) ?_
        refine G_val (V_assign rfl rfl) rfl rfl (.none rfl) ?_
        refine G_val (V_assign rfl rfl) rfl rfl (.none rfl) ?_
        refine G_end (X_then (G_ret (X_block_ret (X_then_ret (X_then_ret (X_block_ret (X_then_ret ?_)))))))
        refine G_leaveS (.drop _ (.nil _)) (by exact (.cons (.tmp rfl) (.cons (.tmp rfl) (.nil)))) rfl ?_ ?_
        · exact hE4
        exact ⟨rfl, rfl⟩
      | true =>
        refine G_seq (G_region ?_)
        refine G_val (V_lss rfl rfl rfl) rfl rfl (.none rfl) ?_
        refine G_end (X_then (G_seq ?_))
        refine G_cond_t rfl (decide_eq_true (by omega)) ?_
        refine G_skip (X_then (G_seq (G_block (G_seq (G_region ?_)))))
        refine G_val (V_move rfl rfl) rfl rfl (.none rfl) ?_
        refine G_val (V_idxAddr rfl rfl rfl (SlE.rd (by assumption)) (by omega) (by omega)) rfl rfl (.none rfl) ?_
        refine G_val (V_loadS rfl rfl (SlE.rd (by assumption)) (by assumption) (by simp)) rfl rfl (.none rfl) ?_
        refine G_val (V_assign rfl rfl) rfl rfl (.none rfl) ?_
        refine G_val (V_assign rfl rfl) rfl rfl (.none rfl) ?_
        refine G_end (X_then (G_seq (G_region ?_)))
        refine G_val (V_move rfl rfl) rfl rfl (.none rfl) ?_
        refine G_val (V_not rfl rfl) rfl rfl (.none rfl) ?_
        refine G_end (X_then ?_)
        refine G_cond_f rfl (by simp [*]; done) ?_
        refine G_skip (X_block (X_then (G_region ?_)))
        refine G_val (V_add_i64 rfl rfl rfl (by omega) (by omega)) rfl rfl (.none rfl) ?_
        refine G_val (V_move rfl rfl) rfl rfl (.none rfl) ?_
        refine G_end (X_then ?_)
        refine G_again (i + 1) ⟨hlt, ?_⟩ (by omega) ⟨rfl, rfl, rfl, rfl, trivial⟩ rfl rfl
        intro k hk hk2
        by_cases he : k = i
        · subst he; exact hc
        · exact hall k (by omega) hk2
    · rw [firstF_none (l := yieldsM g) fun k hk hk2 => hall k (by omega) hk2] at e2
      refine G_seq (G_region ?_)
      refine G_val (V_lss rfl rfl rfl) rfl rfl (.none rfl) ?_
      refine G_end (X_then (G_seq ?_))
      refine G_cond_f rfl (decide_eq_false (by omega)) ?_
      refine G_exit (X_then_exit (X_then_exit (X_block_hit (X_then (G_seq (G_seq (G_region ?_)))))))
      refine G_val (V_loadA rfl rfl (Cells.own (.head _)) rfl) rfl rfl (.none rfl) ?_
      refine G_val (V_fieldAddr rfl rfl (by decide)) rfl rfl (.none rfl) ?_
      refine G_val (V_load rfl rfl (Cell.own (.head _) rfl)) rfl rfl (.none rfl) ?_
      refine G_call (k := 83) (.mk rfl rfl rfl rfl) rfl rfl (.none rfl) (reached_call _ _ _ _ (by assumption) (by assumption) _ (by assumption) (by omega) (by omega)) ?_
      rintro r1 E3 L4 hE5 ⟨z7, ⟨rfl, ⟨Z8, rfl⟩⟩⟩
      replace Z7 := Z7.mono hE5
      replace hg0 := hg0.mono hE5
      replace ht := ht.mono hE5
      replace hn := hn.mono hE5
      replace hps := hps.mono hE5
      refine G_val (V_lenS rfl rfl) rfl rfl (.none rfl) ?_
      refine G_val (V_move rfl rfl) rfl rfl (.none rfl) ?_
      refine G_end (X_then (G_block ?_))
      have hs2 : SlE E3 1 (some ⟨z7, 0, none⟩) g.names.length (bools (reachM g)) := by assumption
      refine G_loop (α := Nat) (fun i => [(31, .slice (some ⟨z7, 0, none⟩) g.names.length g.names.length), (32, .int .i64 g.names.length), (33, .int .i64 i)]) (fun _ => E3) (fun _ => GB b1 g tp tc np nc pp pc :: L)
        (fun i => i ≤ g.names.length ∧ ∀ k, k < i → (hk : k < (reachM g).length) → (reachM g)[k] = true) (fun i => g.names.length - i) 0 ⟨Nat.zero_le _, fun k hk => by cases hk⟩ ⟨rfl, rfl, rfl, trivial⟩ rfl rfl ?_
      rintro j ⟨hj, hjall⟩
      by_cases hjlt : j < g.names.length
      · have hlt2 : j < (reachM g).length := by omega
        have hb := bools_at hlt2
        cases hc : (reachM g)[j] with
        | false =>
          rw [e2, firstF_some hlt2 hc hjall]
          refine G_seq (G_region ?_)
          refine G_val (V_lss rfl rfl rfl) rfl rfl (.none rfl) ?_
          refine G_end (X_then (G_seq ?_))
          refine G_cond_t rfl (decide_eq_true (by omega)) ?_
          refine G_skip (X_then (G_seq (G_block (G_seq (G_region ?_)))))
          refine G_val (V_move rfl rfl) rfl rfl (.none rfl) ?_
          refine G_val (V_idxAddr rfl rfl rfl (SlE.rd (by assumption)) (by omega) (by omega)) rfl rfl (.none rfl) ?_
          refine G_val (V_loadS rfl rfl (SlE.rd (by assumption)) (by assumption) (by simp)) rfl rfl (.none rfl) ?_
          refine G_val (V_assign rfl rfl) rfl rfl (.none rfl) ?_
          refine G_val (V_assign rfl rfl) rfl rfl (.none rfl) ?_
          refine G_end (X_then (G_seq (G_region ?_)))
          refine G_val (V_move rfl rfl) rfl rfl (.none rfl) ?_
          refine G_val (V_not rfl rfl) rfl rfl (.none rfl) ?_
          refine G_end (X_then ?_)
          refine G_cond_t rfl (by simp [*]; done) ?_
          refine G_seq (G_region ?_)
          refine G_val (V_move rfl rfl) rfl rfl (.none rfl) ?_
          refine G_val (V_assign rfl rfl) rfl rfl (.none rfl) ?_
          refine G_val (V_assign rfl rfl) rfl rfl (.none rfl) ?_
          refine G_end (X_then (G_ret (X_block_ret (X_then_ret (X_then_ret (X_block_ret (X_then_ret ?_)))))))
          refine G_leaveS (.drop _ (.nil _)) (by exact (.cons (.tmp rfl) (.cons (.tmp rfl) (.nil)))) rfl ?_ ?_
          · exact (hE4.trans hE5)
          exact ⟨rfl, rfl⟩
        | true =>
          refine G_seq (G_region ?_)
          refine G_val (V_lss rfl rfl rfl) rfl rfl (.none rfl) ?_
          refine G_end (X_then (G_seq ?_))
          refine G_cond_t rfl (decide_eq_true (by omega)) ?_
          refine G_skip (X_then (G_seq (G_block (G_seq (G_region ?_)))))
          refine G_val (V_move rfl rfl) rfl rfl (.none rfl) ?_
          refine G_val (V_idxAddr rfl rfl rfl (SlE.rd (by assumption)) (by omega) (by omega)) rfl rfl (.none rfl) ?_
          refine G_val (V_loadS rfl rfl (SlE.rd (by assumption)) (by assumption) (by simp)) rfl rfl (.none rfl) ?_
          refine G_val (V_assign rfl rfl) rfl rfl (.none rfl) ?_
          refine G_val (V_assign rfl rfl) rfl rfl (.none rfl) ?_
          refine G_end (X_then (G_seq (G_region ?_)))
          refine G_val (V_move rfl rfl) rfl rfl (.none rfl) ?_
          refine G_val (V_not rfl rfl) rfl rfl (.none rfl) ?_
          refine G_end (X_then ?_)
          refine G_cond_f rfl (by simp [*]; done) ?_
          refine G_skip (X_block (X_then (G_region ?_)))
          refine G_val (V_add_i64 rfl rfl rfl (by omega) (by omega)) rfl rfl (.none rfl) ?_
          refine G_val (V_move rfl rfl) rfl rfl (.none rfl) ?_
          refine G_end (X_then ?_)
          refine G_again (j + 1) ⟨hjlt, ?_⟩ (by omega) ⟨rfl, rfl, rfl, trivial⟩ rfl rfl
          intro k hk hk2
          by_cases he : k = j
          · subst he; exact hc
          · exact hjall k (by omega) hk2
      · rw [firstF_none (l := reachM g) fun k hk hk2 => hjall k (by omega) hk2] at e2
        rw [e2]
        refine G_seq (G_region ?_)
        refine G_val (V_lss rfl rfl rfl) rfl rfl (.none rfl) ?_
        refine G_end (X_then (G_seq ?_))
        refine G_cond_f rfl (decide_eq_false (by omega)) ?_
        refine G_exit (X_then_exit (X_then_exit (X_block_hit (X_then (G_seq (G_region ?_))))))
        refine G_val (V_assign rfl rfl) rfl rfl (.none rfl) ?_
        refine G_val (V_assign rfl rfl) rfl rfl (.none rfl) ?_
        refine G_end (X_then (G_ret ?_))
        refine G_leaveS (.drop _ (.nil _)) (by exact (.cons (.tmp rfl) (.cons (.tmp rfl) (.nil)))) rfl ?_ ?_
        · exact (hE4.trans hE5)
        exact ⟨(by kernel_rfl), rfl⟩
  · have e := okL_neg hv (yieldsM g)
    rw [redM, if_neg hv]
    refine G_seq (G_region ?_)
    (refine G_boxA rfl rfl rfl rfl (.none rfl) ?_; intro b1)
    refine G_val (V_assign rfl rfl) rfl rfl (.none rfl) ?_
    refine G_val (V_assign rfl rfl) rfl rfl (.none rfl) ?_
    refine G_end (X_then (G_seq (G_region ?_)))
    refine G_val (V_loadA rfl rfl (Cells.own (.head _)) rfl) rfl rfl (.none rfl) ?_
    refine G_call (k := 33) (.mk rfl rfl rfl rfl) rfl rfl (.none rfl) (Yields_call _ _ _ _ (by assumption) (by assumption)) ?_
    rintro r1 E2 L3 hE4 ⟨z5, ⟨z6, ⟨rfl, ⟨Z7, rfl⟩⟩⟩⟩
    replace hg0 := hg0.mono hE4
    replace ht := ht.mono hE4
    replace hn := hn.mono hE4
    replace hps := hps.mono hE4
    refine G_val (V_move rfl rfl) rfl rfl (.none rfl) ?_
    refine G_val (V_extract rfl rfl rfl) rfl rfl (.none rfl) ?_
    refine G_val (V_extract rfl rfl rfl) rfl rfl (.none rfl) ?_
    refine G_val (V_assign rfl rfl) rfl rfl (.none rfl) ?_
    refine G_val (V_assign rfl rfl) rfl rfl (.none rfl) ?_
    refine G_end (X_then (G_seq (G_seq (G_region ?_))))
    refine G_val (V_move rfl rfl) rfl rfl (.none rfl) ?_
    refine G_val (V_neq rfl rfl rfl) rfl rfl (.none rfl) ?_
    refine G_end (X_then ?_)
    refine G_cond_t rfl (decide_eq_true (by omega)) ?_
    refine G_seq (G_region ?_)
    refine G_val (V_move rfl rfl) rfl rfl (.none rfl) ?_
    refine G_val (V_assign rfl rfl) rfl rfl (.none rfl) ?_
    refine G_val (V_assign rfl rfl) rfl rfl (.none rfl) ?_
    refine G_end (X_then (G_ret (X_then_ret ?_)))
    refine G_leaveS (.drop _ (.nil _)) (by exact (.cons (.tmp rfl) (.cons (.tmp rfl) (.nil)))) rfl ?_ ?_
    · exact hE4
    exact ⟨rfl, rfl⟩
end
end Go.Proofs.Ytaoinojdijbhaaa
