/-
  Rules and contracts, packed: K1, R1, H2, B1.
-/
import Derived.Test.YtimiokmgnclggaaGreatQ4
set_option maxHeartbeats 1000000
set_option linter.unusedSimpArgs false
set_option linter.unusedVariables false
set_option maxHeartbeats 2000000
set_option maxRecDepth 20000
namespace Go.Proofs.YtimiokmgnclggaaGreat
open Go.RowKit

/-! The kit's small functions: lists of numbers and of strings. -/
def i64s (l : List Int) : List Value := l.map fun n => .int .i64 n
theorem i64s_get {l : List Int} {k : Nat} {n : Int} (h : l[k]? = some n) : (i64s l)[k]? = some (.int .i64 n) := by simp [i64s, h]
def strs (l : List (List UInt8)) : List Value := l.map fun s => .string (S s)
theorem strs_get {l : List (List UInt8)} {k : Nat} {s : List UInt8} (h : l[k]? = some s) : (strs l)[k]? = some (.string (S s)) := by simp [strs, h]
theorem take_next {α : Type} {xs ys : List α} {k : Nat} (h : xs.take k = ys.take k) (hx : k < xs.length) (hy : k < ys.length) (e : xs[k] = ys[k]) : xs.take (k + 1) = ys.take (k + 1) := by
  rw [List.take_succ_eq_append_getElem hx, List.take_succ_eq_append_getElem hy, h, e]
theorem SlE.nI {E : Env} {p : Option Addr} {n : Nat} {xs : List Int} (h : SlE E 1 p n (i64s xs)) : n = xs.length := by have := h.1; simp [i64s] at this; exact this.symm
theorem SlE.nS {E : Env} {p : Option Addr} {n : Nat} {xs : List (List UInt8)} (h : SlE E 1 p n (strs xs)) : n = xs.length := by have := h.1; simp [strs] at this; exact this.symm
theorem Mod_call (E : Env) (L : List Res) (a m : Int) (ha : -9223372036854775808 ≤ a ∧ a ≤ 9223372036854775807) (hm : -9223372036854775808 ≤ m ∧ m ≤ 9223372036854775807) :
    CallV Tryz.prog 14 #[.int .i64 a, .int .i64 m] E L (.int .i64 (if m < 1 then 0 else a % m)) := by
  refine CallS.toV (CallS.intro (l := [.int .i64 a, .int .i64 m]) _ Tryz.func14 rfl Tryz.ntmps14 rfl ?_)
  by_cases h : m < 1
  · refine G_seq ?_
    refine G_region ?_
    refine Ga ?_
    refine G_end (X_then (G_seq (G_seq (G_region ?_))))
    refine Gm ?_
    refine Gv (V_lss rfl rfl rfl) ?_
    refine G_end (X_then ?_)
    refine G_cond_t rfl (decide_eq_true (by omega)) ?_
    refine G_seq (G_region ?_)
    refine Ga ?_
    refine G_end (X_then (G_ret (X_then_ret ?_)))
    refine G_leaveS (.nil _) (by exact (.cons (.tmp rfl) (.nil))) rfl ?_ ?_
    · exact (.refl _)
    exact ⟨(by (simp (discharger := omega) only [resVal, if_pos, if_neg]; first | done | rfl)), (by rfl)⟩
  have e1 : a.tmod m = if a % m = 0 then 0 else if 0 ≤ a then a % m else a % m - m := by
    rw [Int.tmod_eq_emod]
    have hp : (m : Int).natAbs = m := by omega
    split
    · rename_i h1
      rcases h1 with h1 | h1
      · simp [h1]
      · have := Int.emod_eq_zero_of_dvd h1; simp [this]
    · rename_i h1
      have h0 : ¬ 0 ≤ a := fun h2 => h1 (.inl h2)
      have h2 : a % m ≠ 0 := fun h3 => h1 (.inr (Int.dvd_of_emod_eq_zero h3))
      rw [if_neg h2, if_neg h0, hp]
  have h1 := Int.emod_nonneg a (b := m) (by omega)
  have h2 := Int.emod_lt_of_pos a (b := m) (by omega)
  by_cases h3 : a % m = 0
  · rw [if_pos h3] at e1
    refine G.spell 0 (.int .i64 a) rfl rfl ?_
    refine G_seq (G_region ?_)
    refine Ga ?_
    refine G_end (X_then (G_seq (G_seq (G_region ?_))))
    refine Gm ?_
    refine Gv (V_lss rfl rfl rfl) ?_
    refine G_end (X_then ?_)
    refine G_cond_f rfl (decide_eq_false (by omega)) ?_
    refine G_skip (X_then (G_seq (G_region ?_)))
    refine Gm ?_
    refine Gm ?_
    refine Gv (V_rem rfl rfl rfl (by omega)) ?_
    refine Ga ?_
    refine G_end (X_then (G_seq (G_seq (G_region ?_))))
    refine Gm ?_
    refine Gv (V_lss rfl rfl rfl) ?_
    refine G_end (X_then ?_)
    refine G_cond_f rfl (decide_eq_false (by omega)) ?_
    refine G_skip (X_then (G_seq (G_region ?_)))
    refine Gm ?_
    refine Ga ?_
    refine G_end (X_then (G_ret ?_))
    refine G_leaveS (.nil _) (by exact (.cons (.tmp rfl) (.nil))) rfl ?_ ?_
    · exact (.refl _)
    exact ⟨(by (simp [resVal, *]; done)), (by rfl)⟩
  · rw [if_neg h3] at e1
    rw [if_neg h]
    by_cases h4 : 0 ≤ a
    · rw [if_pos h4] at e1
      refine G_seq (G_region ?_)
      refine Ga ?_
      refine G_end (X_then (G_seq (G_seq (G_region ?_))))
      refine Gm ?_
      refine Gv (V_lss rfl rfl rfl) ?_
      refine G_end (X_then ?_)
      refine G_cond_f rfl (decide_eq_false (by omega)) ?_
      refine G_skip (X_then (G_seq (G_region ?_)))
      refine Gm ?_
      refine Gm ?_
      refine Gv (V_rem_n rfl rfl rfl (by omega) (by omega)) ?_
      refine Ga ?_
      refine G_end (X_then (G_seq (G_seq (G_region ?_))))
      refine Gm ?_
      refine Gv (V_lss rfl rfl rfl) ?_
      refine G_end (X_then ?_)
      refine G_cond_f rfl (decide_eq_false (by omega)) ?_
      refine G_skip (X_then (G_seq (G_region ?_)))
      refine Gm ?_
      refine Ga ?_
      refine G_end (X_then (G_ret ?_))
      refine G_leaveS (.nil _) (by exact (.cons (.tmp rfl) (.nil))) rfl ?_ ?_
      · exact (.refl _)
      exact ⟨rfl, rfl⟩
    · rw [if_neg h4] at e1
      rw [show a % m = a.tmod m + m by omega]
      refine G_seq (G_region ?_)
      refine Ga ?_
      refine G_end (X_then (G_seq (G_seq (G_region ?_))))
      refine Gm ?_
      refine Gv (V_lss rfl rfl rfl) ?_
      refine G_end (X_then ?_)
      refine G_cond_f rfl (decide_eq_false (by omega)) ?_
      refine G_skip (X_then (G_seq (G_region ?_)))
      refine Gm ?_
      refine Gm ?_
      refine Gv (V_rem rfl rfl rfl (by omega)) ?_
      refine Ga ?_
      refine G_end (X_then (G_seq (G_seq (G_region ?_))))
      refine Gm ?_
      refine Gv (V_lss rfl rfl rfl) ?_
      refine G_end (X_then ?_)
      refine G_cond_t rfl (decide_eq_true (by omega)) ?_
      refine G_region ?_
      refine Gm ?_
      refine Gm ?_
      refine Gv (V_add_i64 rfl rfl rfl (by omega) (by omega)) ?_
      refine Ga ?_
      refine G_end (X_then (G_seq (G_region ?_)))
      refine Gm ?_
      refine Ga ?_
      refine G_end (X_then (G_ret ?_))
      refine G_leaveS (.nil _) (by exact (.cons (.tmp rfl) (.nil))) rfl ?_ ?_
      · exact (.refl _)
      exact ⟨rfl, rfl⟩
theorem Mod_call' (E : Env) (L : List Res) (a m : Int) (ha : -9223372036854775808 ≤ a ∧ a ≤ 9223372036854775807) (hm : 1 ≤ m ∧ m ≤ 9223372036854775807) :
    CallV Tryz.prog 14 #[.int .i64 a, .int .i64 m] E L (.int .i64 (a % m)) := by
  have h := Mod_call E L a m ha ⟨by omega, hm.2⟩
  rwa [if_neg (by omega)] at h
end Go.Proofs.YtimiokmgnclggaaGreat
set_option linter.unusedSimpArgs false
set_option linter.unusedVariables false
set_option maxHeartbeats 2000000
set_option maxRecDepth 20000
namespace Go.Proofs.YtimiokmgnclggaaGreat
open Go.RowKit

/-- A token. -/
structure Tok where
  sym : Int
  text : List UInt8
  at' : Int
@[reducible] def Tok.cells (t : Tok) : List Value := [.int .i64 t.sym, .string (S t.text), .int .i64 t.at']
@[reducible] def Tok.v (t : Tok) : Value := .agg #[.int .i64 t.sym, .string (S t.text), .int .i64 t.at']
def toks (l : List Tok) : List Value := l.flatMap Tok.cells
theorem toks_append (a b : List Tok) : toks (a ++ b) = toks a ++ toks b := List.flatMap_append
theorem toks_len (l : List Tok) : (toks l).length = l.length * 3 := by
  induction l with
  | nil => rfl
  | cons t l ih => simp only [toks, List.flatMap_cons, List.length_append, List.length_cons, List.length_nil] at *; omega
theorem toks_drop (l : List Tok) (k : Nat) : (toks l).drop (k * 3) = toks (l.drop k) := by
  induction l generalizing k with
  | nil => simp [toks]
  | cons t l ih =>
    cases k with
    | zero => simp
    | succ k =>
      have e : (k + 1) * 3 = k * 3 + 3 := by omega
      rw [e]
      show (Tok.cells t ++ toks l).drop (k * 3 + 3) = _
      rw [Nat.add_comm, ← List.drop_drop]
      simpa [Tok.cells] using ih k
theorem toks_get {l : List Tok} {k : Nat} {t : Tok} (h : l[k]? = some t) : ((toks l).drop (k * 3)).take 3 = t.cells := by
  rw [toks_drop, List.drop_eq_getElem_cons (List.getElem?_eq_some_iff.1 h).1]
  have := (List.getElem?_eq_some_iff.1 h).2
  rw [this]
  simp [toks, Tok.cells]
theorem SlE.nilT {E : Env} : SlE E 3 none 0 (toks []) := SlE.nil
theorem SlE.nT {E : Env} {p : Option Addr} {n : Nat} {xs : List Tok} (h : SlE E 3 p n (toks xs)) : n = xs.length := by have := h.1; rw [toks_len] at this; omega

/-- A token that is right, and no separator. -/
def tokB (terms : Int) (t : Tok) : Bool := decide (0 ≤ t.sym) && decide (t.sym < terms) && decide (t.text.length ≤ 24) && decide (0 ≤ t.at') && decide (t.at' ≤ 1099511627776)
theorem tokB_iff {terms : Int} {t : Tok} : tokB terms t = true ↔ 0 ≤ t.sym ∧ t.sym < terms ∧ t.text.length ≤ 24 ∧ 0 ≤ t.at' ∧ t.at' ≤ 1099511627776 := by simp [tokB, and_assoc]
def tbeh (t : Tok) : Int := t.at' + (2 + t.text.length)

section
variable (E : Env) (L : List Res)
theorem ranged_call (n : Int) : CallV Tryz.prog 100 #[.int .i64 n] E L (.bool (decide (1 ≤ n) && decide (n ≤ 8))) := by
  refine CallS.toV (CallS.intro (l := [.int .i64 n]) _ Tryz.func100 rfl Tryz.ntmps100 rfl ?_)
  refine G_seq (G_region ?_)
  refine Ga ?_
  refine G_end (X_then (G_seq (G_region ?_)))
  refine Gm ?_
  refine Gv (V_geq rfl rfl rfl) ?_
  refine Gm ?_
  apply G_joinAnd 3 5 8 rfl
  · intro H1
    dsimp only [List.take]
    simp only [Bool.and_eq_true, Bool.or_eq_true, Bool.not_eq_true', Bool.not_eq_false', Bool.and_eq_false_iff, Bool.or_eq_false_iff, Bool.not_not, decide_eq_true_eq, decide_eq_false_iff_not, ne_eq, Decidable.not_not, Bool.decide_eq_true] at H1
    refine Gy (V_move rfl rfl) ?_
    refine Gy (V_leq rfl rfl rfl) ?_
    refine Gv (V_pick_t rfl rfl rfl) ?_
    refine G_end ?_
    exact JQ_end 3 rfl rfl (by kernel_rfl)
  · intro H2
    dsimp only [List.take]
    simp only [Bool.and_eq_true, Bool.or_eq_true, Bool.not_eq_true', Bool.not_eq_false', Bool.and_eq_false_iff, Bool.or_eq_false_iff, Bool.not_not, decide_eq_true_eq, decide_eq_false_iff_not, ne_eq, Decidable.not_not, Bool.decide_eq_true] at H2
    refine Gn ?_
    refine Gn ?_
    refine Gv (V_pick_f rfl rfl rfl) ?_
    refine G_end ?_
    exact JQ_end 3 rfl rfl (by kernel_rfl)
  dsimp only [List.drop]
  refine Ga ?_
  refine G_end (X_then (G_ret ?_))
  refine G_leaveS (.nil _) (by exact (.cons (.tmp rfl) (.nil))) rfl ?_ ?_
  · exact (.refl _)
  exact ⟨rfl, rfl⟩
theorem counts_call (n : Int) : CallV Tryz.prog 121 #[.int .i64 n] E L (.bool (decide (0 ≤ n) && decide (n ≤ 1099511627776))) := by
  refine CallS.toV (CallS.intro (l := [.int .i64 n]) _ Tryz.func121 rfl Tryz.ntmps121 rfl ?_)
  refine G_seq (G_region ?_)
  refine Ga ?_
  refine G_end (X_then (G_seq (G_region ?_)))
  refine Gm ?_
  refine Gv (V_geq rfl rfl rfl) ?_
  refine Gm ?_
  apply G_joinAnd 3 5 8 rfl
  · intro H1
    dsimp only [List.take]
    simp only [Bool.and_eq_true, Bool.or_eq_true, Bool.not_eq_true', Bool.not_eq_false', Bool.and_eq_false_iff, Bool.or_eq_false_iff, Bool.not_not, decide_eq_true_eq, decide_eq_false_iff_not, ne_eq, Decidable.not_not, Bool.decide_eq_true] at H1
    refine Gy (V_move rfl rfl) ?_
    refine Gy (V_leq rfl rfl rfl) ?_
    refine Gv (V_pick_t rfl rfl rfl) ?_
    refine G_end ?_
    exact JQ_end 3 rfl rfl (by kernel_rfl)
  · intro H2
    dsimp only [List.take]
    simp only [Bool.and_eq_true, Bool.or_eq_true, Bool.not_eq_true', Bool.not_eq_false', Bool.and_eq_false_iff, Bool.or_eq_false_iff, Bool.not_not, decide_eq_true_eq, decide_eq_false_iff_not, ne_eq, Decidable.not_not, Bool.decide_eq_true] at H2
    refine Gn ?_
    refine Gn ?_
    refine Gv (V_pick_f rfl rfl rfl) ?_
    refine G_end ?_
    exact JQ_end 3 rfl rfl (by kernel_rfl)
  dsimp only [List.drop]
  refine Ga ?_
  refine G_end (X_then (G_ret ?_))
  refine G_leaveS (.nil _) (by exact (.cons (.tmp rfl) (.nil))) rfl ?_ ?_
  · exact (.refl _)
  exact ⟨rfl, rfl⟩
theorem TokCheck_call (a : Int) (s : List UInt8) (b terms : Int) (h0 : 1 ≤ terms) (h1 : terms ≤ 8) (ht : tokB terms ⟨a, s, b⟩ = true) : CallV Tryz.prog 109 #[.agg #[.int .i64 a, .string (S s), .int .i64 b], .int .i64 terms] E L (.int .i64 0) := by
  refine CallS.toV (CallS.intro (l := [.agg #[.int .i64 a, .string (S s), .int .i64 b], .int .i64 terms]) _ Tryz.func109 rfl Tryz.ntmps109 rfl ?_)
  obtain ⟨h2, h3, h4, h5, h6⟩ := tokB_iff.1 ht
  simp only at h2 h3 h4 h5 h6
  have e1 : (decide (1 ≤ terms) && decide (terms ≤ 8)) = true := by simp [h0, h1]
  have e2 : (decide (0 ≤ b) && decide (b ≤ 1099511627776)) = true := by simp [h5, h6]
  refine G_seq (G_region ?_)
  (refine G_boxA rfl rfl rfl rfl (.none rfl) ?_; intro b2)
  refine Ga ?_
  refine G_end (X_then (G_seq (G_block (G_seq (G_region ?_)))))
  refine Gm ?_
  refine G_callv (k := 100) (.mk rfl rfl rfl rfl) rfl rfl (.none rfl) (ranged_call _ _ _) ?_
  refine Gv (V_not rfl rfl) ?_
  refine Ga ?_
  refine G_end (X_then ?_)
  refine G_cond_f rfl (by simp [*]; done) ?_
  refine G_seq (G_region ?_)
  refine Gv (V_fieldAddr rfl rfl (by decide)) ?_
  refine Gv (V_load rfl rfl (Cell.own (.head _) rfl)) ?_
  refine Gv (V_lss rfl rfl rfl) ?_
  refine Gm ?_
  refine G.bool_f 13 rfl (decide_eq_false (by omega)) ?_
  refine Gy (V_fieldAddr rfl rfl (by decide)) ?_
  refine Gy (V_load rfl rfl (Cell.own (.head _) rfl)) ?_
  refine Gy (V_move rfl rfl) ?_
  refine Gy (V_gtr rfl rfl rfl) ?_
  refine Gv (V_pick_f rfl rfl rfl) ?_
  refine Ga ?_
  refine G_end (X_then ?_)
  refine G_cond_f rfl (decide_eq_false (by omega)) ?_
  refine G_seq (G_region ?_)
  refine Gv (V_fieldAddr rfl rfl (by decide)) ?_
  refine Gv (V_load rfl rfl (Cell.own (.head _) rfl)) ?_
  refine Gv (V_len rfl rfl) ?_
  refine Gv (V_gtr rfl rfl rfl) ?_
  refine Ga ?_
  refine G_end (X_then ?_)
  refine G_cond_f rfl (decide_eq_false (by omega)) ?_
  refine G_seq (G_region ?_)
  refine Gv (V_fieldAddr rfl rfl (by decide)) ?_
  refine Gv (V_load rfl rfl (Cell.own (.head _) rfl)) ?_
  refine G_callv (k := 121) (.mk rfl rfl rfl rfl) rfl rfl (.none rfl) (counts_call _ _ _) ?_
  refine Gv (V_not rfl rfl) ?_
  refine Ga ?_
  refine G_end (X_then ?_)
  refine G_cond_f rfl (by simp [*]; done) ?_
  refine G_skip (X_block (X_then (G_seq (G_region ?_))))
  refine Ga ?_
  refine G_end (X_then (G_ret ?_))
  refine G_leaveS (.drop _ (.nil _)) (by exact (.cons (.tmp rfl) (.nil))) rfl ?_ ?_
  · exact (.refl _)
  exact ⟨(by kernel_rfl), rfl⟩
theorem Separates_call (a : Int) (s : List UInt8) (b terms : Int) (h0 : 1 ≤ terms) (h1 : terms ≤ 8) (ht : tokB terms ⟨a, s, b⟩ = true) : CallV Tryz.prog 110 #[.agg #[.int .i64 a, .string (S s), .int .i64 b], .int .i64 terms] E L (.bool false) := by
  refine CallS.toV (CallS.intro (l := [.agg #[.int .i64 a, .string (S s), .int .i64 b], .int .i64 terms]) _ Tryz.func110 rfl Tryz.ntmps110 rfl ?_)
  obtain ⟨h2, h3, h4, h5, h6⟩ := tokB_iff.1 ht
  simp only at h2 h3 h4 h5 h6
  have h7 : ¬ a = terms := by omega
  refine G_seq (G_region ?_)
  (refine G_boxA rfl rfl rfl rfl (.none rfl) ?_; intro b2)
  refine Ga ?_
  refine G_end (X_then (G_seq (G_region ?_)))
  refine Gv (V_loadA rfl rfl (Cells.own (.head _)) rfl) ?_
  refine Gm ?_
  refine G_callv (k := 109) (.mk rfl rfl rfl rfl) rfl rfl (.none rfl) (TokCheck_call _ _ _ _ _ _ (by assumption) (by assumption) (by assumption)) ?_
  refine Gv (V_eql rfl rfl rfl) ?_
  refine Gm ?_
  refine G.bool_t 9 rfl (by kernel_rfl) ?_
  refine Gy (V_fieldAddr rfl rfl (by decide)) ?_
  refine Gy (V_load rfl rfl (Cell.own (.head _) rfl)) ?_
  refine Gy (V_move rfl rfl) ?_
  refine Gy (V_eql rfl rfl rfl) ?_
  refine Gv (V_pick_t rfl rfl rfl) ?_
  refine Ga ?_
  refine G_end (X_then (G_ret ?_))
  refine G_leaveS (.drop _ (.nil _)) (by exact (.cons (.tmp rfl) (.nil))) rfl ?_ ?_
  · exact (.refl _)
  exact ⟨(by (simp [resVal, *]; done)), (by rfl)⟩
theorem right_call (a : Int) (s : List UInt8) (b terms : Int) (h0 : 1 ≤ terms) (h1 : terms ≤ 8) (ht : tokB terms ⟨a, s, b⟩ = true) : CallV Tryz.prog 88 #[.agg #[.int .i64 a, .string (S s), .int .i64 b], .int .i64 terms] E L (.int .i64 0) := by
  refine CallS.toV (CallS.intro (l := [.agg #[.int .i64 a, .string (S s), .int .i64 b], .int .i64 terms]) _ Tryz.func88 rfl Tryz.ntmps88 rfl ?_)
  refine G_seq (G_region ?_)
  (refine G_boxA rfl rfl rfl rfl (.none rfl) ?_; intro b2)
  refine Ga ?_
  refine G_end (X_then (G_seq (G_region ?_)))
  refine Gv (V_loadA rfl rfl (Cells.own (.head _)) rfl) ?_
  refine Gm ?_
  refine G_callv (k := 109) (.mk rfl rfl rfl rfl) rfl rfl (.none rfl) (TokCheck_call _ _ _ _ _ _ (by assumption) (by assumption) (by assumption)) ?_
  refine Ga ?_
  refine G_end (X_then (G_seq (G_seq (G_region ?_))))
  refine Gm ?_
  refine Gv (V_eql rfl rfl rfl) ?_
  refine Gm ?_
  refine G.bool_t 11 rfl (by kernel_rfl) ?_
  refine Gy (V_loadA rfl rfl (Cells.own (.head _)) rfl) ?_
  refine Gy (V_move rfl rfl) ?_
  refine G_callv (k := 110) (.mk rfl rfl rfl rfl) rfl rfl (.yes rfl rfl rfl rfl) (Separates_call _ _ _ _ _ _ (by assumption) (by assumption) (by assumption)) ?_
  refine Gv (V_pick_t rfl rfl rfl) ?_
  refine G_end (X_then ?_)
  refine G_cond_f rfl rfl ?_
  refine G_skip (X_then (G_seq (G_region ?_)))
  refine Gm ?_
  refine Ga ?_
  refine G_end (X_then (G_ret ?_))
  refine G_leaveS (.drop _ (.nil _)) (by exact (.cons (.tmp rfl) (.nil))) rfl ?_ ?_
  · exact (.refl _)
  exact ⟨(by kernel_rfl), rfl⟩
theorem TokSize_call (a : Int) (s : List UInt8) (b : Int) (hs : s.length ≤ 1000000) : CallV Tryz.prog 65 #[.agg #[.int .i64 a, .string (S s), .int .i64 b]] E L (.int .i64 (2 + s.length)) := by
  refine CallS.toV (CallS.intro (l := [.agg #[.int .i64 a, .string (S s), .int .i64 b]]) _ Tryz.func65 rfl Tryz.ntmps65 rfl ?_)
  refine G_seq (G_region ?_)
  (refine G_boxA rfl rfl rfl rfl (.none rfl) ?_; intro b1)
  refine Ga ?_
  refine G_end (X_then (G_seq (G_region ?_)))
  refine Gv (V_fieldAddr rfl rfl (by decide)) ?_
  refine Gv (V_load rfl rfl (Cell.own (.head _) rfl)) ?_
  refine Gv (V_len rfl rfl) ?_
  refine Gv (V_add_i64 rfl rfl rfl (by omega) (by omega)) ?_
  refine Ga ?_
  refine G_end (X_then (G_ret ?_))
  refine G_leaveS (.drop _ (.nil _)) (by exact (.cons (.tmp rfl) (.nil))) rfl ?_ ?_
  · exact (.refl _)
  exact ⟨rfl, rfl⟩
theorem behind_call (a : Int) (s : List UInt8) (b : Int) (hs : s.length ≤ 1000000) (hb : 0 ≤ b) (hb2 : b ≤ 1099511627776) : CallV Tryz.prog 89 #[.agg #[.int .i64 a, .string (S s), .int .i64 b]] E L (.int .i64 (b + (2 + s.length))) := by
  refine CallS.toV (CallS.intro (l := [.agg #[.int .i64 a, .string (S s), .int .i64 b]]) _ Tryz.func89 rfl Tryz.ntmps89 rfl ?_)
  refine G_seq (G_region ?_)
  (refine G_boxA rfl rfl rfl rfl (.none rfl) ?_; intro b1)
  refine Ga ?_
  refine G_end (X_then (G_seq ?_))
  refine G_draw mixed (by kernel_rfl) ?_
  refine Q_val (V_fieldAddr rfl rfl (by decide)) rfl rfl (.none rfl) ?_
  refine Q_val (V_load rfl rfl (Cell.own (.head _) rfl)) rfl rfl (.none rfl) ?_
  refine Q_val (V_loadA rfl rfl (Cells.own (.head _)) rfl) rfl rfl (.none rfl) ?_
  refine Q_callv (k := 65) (.mk rfl rfl rfl rfl) rfl rfl (.none rfl) (TokSize_call _ _ _ _ _ (by assumption)) ?_
  refine Q_val (V_add_i64 rfl rfl rfl (by omega) (by omega)) rfl rfl (.none rfl) ?_
  refine Q_val (V_assign rfl rfl) rfl rfl (.none rfl) ?_
  refine Q_end ?_
  refine X_then (G_ret ?_)
  refine G_leaveS (.drop _ (.nil _)) (by exact (.cons (.tmp rfl) (.nil))) rfl ?_ ?_
  · exact (.refl _)
  exact ⟨rfl, rfl⟩
end
end Go.Proofs.YtimiokmgnclggaaGreat
set_option linter.unusedSimpArgs false
set_option linter.unusedVariables false
set_option maxHeartbeats 2000000
set_option maxRecDepth 20000
namespace Go.Proofs.YtimiokmgnclggaaGreat
open Go.RowKit

/-! Words and names. -/
def isLet (c : Int) : Bool := (decide (c ≥ 97) && decide (c ≤ 122)) || (decide (c ≥ 65) && decide (c ≤ 90))
def isDig (c : Int) : Bool := decide (c ≥ 48) && decide (c ≤ 57)
def badAt (i : Nat) (c : Int) : Bool := !isLet c && (decide (i = 0) || (!isDig c && decide (c ≠ 95)))
def badW : Nat → List UInt8 → Bool
  | _, [] => false
  | i, c :: l => badAt i (c.toNat : Int) || badW (i + 1) l
def wordE (s : List UInt8) : Int := if s.length = 0 then 5 else if badW 0 s = true then 3 else if 12 < s.length then 4 else 0
def langW : List (List UInt8) := [[108, 111, 111, 107, 97, 104, 101, 97, 100], [116, 111, 107, 101, 110], [115, 101, 112, 97, 114, 97, 116, 111, 114], [115, 116, 97, 114, 116]]
def langB (s : List UInt8) : Bool := decide (s ∈ langW)
def nameE (s : List UInt8) : Int := if wordE s = 0 then (if langB s = true then 12 else 0) else wordE s
def smallB (s : List UInt8) : Bool := decide (nameE s = 0) && decide (97 ≤ ((s.getD 0 0).toNat : Int))
def capB (s : List UInt8) : Bool := decide (nameE s = 0) && decide (((s.getD 0 0).toNat : Int) < 97)
theorem badW_of (s : List UInt8) : ∀ (j k : Nat), (h : k < s.length) → badAt (j + k) (s[k].toNat : Int) = true → badW j s = true := by
  induction s with
  | nil => intro j k h; cases h
  | cons c l ih =>
    intro j k hk h
    simp only [badW, Bool.or_eq_true]
    cases k with
    | zero => exact .inl h
    | succ k => exact .inr (ih (j + 1) k (by simpa using hk) (by rw [show j + 1 + k = j + (k + 1) by omega]; exact h))
theorem badW_all (s : List UInt8) : ∀ (j : Nat), (∀ k, (h : k < s.length) → badAt (j + k) (s[k].toNat : Int) = false) → badW j s = false := by
  induction s with
  | nil => intro j _; rfl
  | cons c l ih =>
    intro j h
    simp only [badW, Bool.or_eq_false_iff]
    exact ⟨h 0 (by simp), ih (j + 1) fun k hk => by have := h (k + 1) (by simpa using hk); rw [show j + 1 + k = j + (k + 1) by omega]; exact this⟩

section
variable (E : Env) (L : List Res)
theorem letter_call (c : Int) : CallV Tryz.prog 127 #[.int .i32 c] E L (.bool (isLet c)) := by
  refine CallS.toV (CallS.intro (l := [.int .i32 c]) _ Tryz.func127 rfl Tryz.ntmps127 rfl ?_)
  refine G_seq (G_region ?_)
  refine Ga ?_
  refine G_end (X_then (G_seq (G_region ?_)))
  refine Gm ?_
  refine Gv (V_geq rfl rfl rfl) ?_
  refine Gm ?_
  apply G_joinAnd 3 5 8 rfl
  · intro H1
    dsimp only [List.take]
    simp only [Bool.and_eq_true, Bool.or_eq_true, Bool.not_eq_true', Bool.not_eq_false', Bool.and_eq_false_iff, Bool.or_eq_false_iff, Bool.not_not, decide_eq_true_eq, decide_eq_false_iff_not, ne_eq, Decidable.not_not, Bool.decide_eq_true] at H1
    refine Gy (V_move rfl rfl) ?_
    refine Gy (V_leq rfl rfl rfl) ?_
    refine Gv (V_pick_t rfl rfl rfl) ?_
    refine G_end ?_
    exact JQ_end 3 rfl rfl (by kernel_rfl)
  · intro H2
    dsimp only [List.take]
    simp only [Bool.and_eq_true, Bool.or_eq_true, Bool.not_eq_true', Bool.not_eq_false', Bool.and_eq_false_iff, Bool.or_eq_false_iff, Bool.not_not, decide_eq_true_eq, decide_eq_false_iff_not, ne_eq, Decidable.not_not, Bool.decide_eq_true] at H2
    refine Gn ?_
    refine Gn ?_
    refine Gv (V_pick_f rfl rfl rfl) ?_
    refine G_end ?_
    exact JQ_end 3 rfl rfl (by kernel_rfl)
  dsimp only [List.drop]
  refine Gm ?_
  apply G_joinOr 7 9 16 rfl
  · intro H3
    dsimp only [List.take]
    simp only [Bool.and_eq_true, Bool.or_eq_true, Bool.not_eq_true', Bool.not_eq_false', Bool.and_eq_false_iff, Bool.or_eq_false_iff, Bool.not_not, decide_eq_true_eq, decide_eq_false_iff_not, ne_eq, Decidable.not_not, Bool.decide_eq_true] at H3
    refine Gn ?_
    refine Gn ?_
    refine Gn ?_
    refine G_stay (.un rfl rfl rfl rfl) rfl rfl ?_
    refine G_stay (.un rfl rfl rfl rfl) rfl rfl ?_
    refine Gn ?_
    refine Gv (V_pick_t rfl rfl rfl) ?_
    refine G_end ?_
    exact JQ_end 7 rfl rfl (by kernel_rfl)
  · intro H4
    dsimp only [List.take]
    simp only [Bool.and_eq_true, Bool.or_eq_true, Bool.not_eq_true', Bool.not_eq_false', Bool.and_eq_false_iff, Bool.or_eq_false_iff, Bool.not_not, decide_eq_true_eq, decide_eq_false_iff_not, ne_eq, Decidable.not_not, Bool.decide_eq_true] at H4
    refine Gy (V_move rfl rfl) ?_
    refine Gy (V_geq rfl rfl rfl) ?_
    refine Gy (V_move rfl rfl) ?_
    apply G_joinAnd 3 12 15 rfl
    · intro H5
      dsimp only [List.take]
      simp only [Bool.and_eq_true, Bool.or_eq_true, Bool.not_eq_true', Bool.not_eq_false', Bool.and_eq_false_iff, Bool.or_eq_false_iff, Bool.not_not, decide_eq_true_eq, decide_eq_false_iff_not, ne_eq, Decidable.not_not, Bool.decide_eq_true] at H5
      refine Gy (V_move rfl rfl) ?_
      refine Gy (V_leq rfl rfl rfl) ?_
      refine Gy (V_pick_t rfl rfl rfl) ?_
      refine G_end ?_
      exact JQ_end 3 rfl rfl (by kernel_rfl)
    · intro H6
      dsimp only [List.take]
      simp only [Bool.and_eq_true, Bool.or_eq_true, Bool.not_eq_true', Bool.not_eq_false', Bool.and_eq_false_iff, Bool.or_eq_false_iff, Bool.not_not, decide_eq_true_eq, decide_eq_false_iff_not, ne_eq, Decidable.not_not, Bool.decide_eq_true] at H6
      refine Gn ?_
      refine Gn ?_
      refine Gy (V_pick_f rfl rfl rfl) ?_
      refine G_end ?_
      exact JQ_end 3 rfl rfl (by kernel_rfl)
    dsimp only [List.drop]
    refine Gv (V_pick_f rfl rfl rfl) ?_
    refine G_end ?_
    exact JQ_end 5 rfl rfl (by kernel_rfl)
  dsimp only [List.drop]
  refine Ga ?_
  refine G_end (X_then (G_ret ?_))
  refine G_leaveS (.nil _) (by exact (.cons (.tmp rfl) (.nil))) rfl ?_ ?_
  · exact (.refl _)
  exact ⟨rfl, rfl⟩
theorem digit_call (c : Int) : CallV Tryz.prog 128 #[.int .i32 c] E L (.bool (isDig c)) := by
  refine CallS.toV (CallS.intro (l := [.int .i32 c]) _ Tryz.func128 rfl Tryz.ntmps128 rfl ?_)
  refine G_seq (G_region ?_)
  refine Ga ?_
  refine G_end (X_then (G_seq (G_region ?_)))
  refine Gm ?_
  refine Gv (V_geq rfl rfl rfl) ?_
  refine Gm ?_
  apply G_joinAnd 3 5 8 rfl
  · intro H1
    dsimp only [List.take]
    simp only [Bool.and_eq_true, Bool.or_eq_true, Bool.not_eq_true', Bool.not_eq_false', Bool.and_eq_false_iff, Bool.or_eq_false_iff, Bool.not_not, decide_eq_true_eq, decide_eq_false_iff_not, ne_eq, Decidable.not_not, Bool.decide_eq_true] at H1
    refine Gy (V_move rfl rfl) ?_
    refine Gy (V_leq rfl rfl rfl) ?_
    refine Gv (V_pick_t rfl rfl rfl) ?_
    refine G_end ?_
    exact JQ_end 3 rfl rfl (by kernel_rfl)
  · intro H2
    dsimp only [List.take]
    simp only [Bool.and_eq_true, Bool.or_eq_true, Bool.not_eq_true', Bool.not_eq_false', Bool.and_eq_false_iff, Bool.or_eq_false_iff, Bool.not_not, decide_eq_true_eq, decide_eq_false_iff_not, ne_eq, Decidable.not_not, Bool.decide_eq_true] at H2
    refine Gn ?_
    refine Gn ?_
    refine Gv (V_pick_f rfl rfl rfl) ?_
    refine G_end ?_
    exact JQ_end 3 rfl rfl (by kernel_rfl)
  dsimp only [List.drop]
  refine Ga ?_
  refine G_end (X_then (G_ret ?_))
  refine G_leaveS (.nil _) (by exact (.cons (.tmp rfl) (.nil))) rfl ?_ ?_
  · exact (.refl _)
  exact ⟨rfl, rfl⟩
theorem letterR_call (c : Int) : CallV Tryz.prog 130 #[.int .u8 c] E L (.bool (isLet c)) := by
  refine CallS.toV (CallS.intro (l := [.int .u8 c]) _ Tryz.func130 rfl Tryz.ntmps130 rfl ?_)
  refine G_seq (G_region ?_)
  refine Ga ?_
  refine G_end (X_then (G_seq (G_region ?_)))
  refine Gm ?_
  refine Gv (V_geq rfl rfl rfl) ?_
  refine Gm ?_
  apply G_joinAnd 3 5 8 rfl
  · intro H1
    dsimp only [List.take]
    simp only [Bool.and_eq_true, Bool.or_eq_true, Bool.not_eq_true', Bool.not_eq_false', Bool.and_eq_false_iff, Bool.or_eq_false_iff, Bool.not_not, decide_eq_true_eq, decide_eq_false_iff_not, ne_eq, Decidable.not_not, Bool.decide_eq_true] at H1
    refine Gy (V_move rfl rfl) ?_
    refine Gy (V_leq rfl rfl rfl) ?_
    refine Gv (V_pick_t rfl rfl rfl) ?_
    refine G_end ?_
    exact JQ_end 3 rfl rfl (by kernel_rfl)
  · intro H2
    dsimp only [List.take]
    simp only [Bool.and_eq_true, Bool.or_eq_true, Bool.not_eq_true', Bool.not_eq_false', Bool.and_eq_false_iff, Bool.or_eq_false_iff, Bool.not_not, decide_eq_true_eq, decide_eq_false_iff_not, ne_eq, Decidable.not_not, Bool.decide_eq_true] at H2
    refine Gn ?_
    refine Gn ?_
    refine Gv (V_pick_f rfl rfl rfl) ?_
    refine G_end ?_
    exact JQ_end 3 rfl rfl (by kernel_rfl)
  dsimp only [List.drop]
  refine Gm ?_
  apply G_joinOr 7 9 16 rfl
  · intro H3
    dsimp only [List.take]
    simp only [Bool.and_eq_true, Bool.or_eq_true, Bool.not_eq_true', Bool.not_eq_false', Bool.and_eq_false_iff, Bool.or_eq_false_iff, Bool.not_not, decide_eq_true_eq, decide_eq_false_iff_not, ne_eq, Decidable.not_not, Bool.decide_eq_true] at H3
    refine Gn ?_
    refine Gn ?_
    refine Gn ?_
    refine G_stay (.un rfl rfl rfl rfl) rfl rfl ?_
    refine G_stay (.un rfl rfl rfl rfl) rfl rfl ?_
    refine Gn ?_
    refine Gv (V_pick_t rfl rfl rfl) ?_
    refine G_end ?_
    exact JQ_end 7 rfl rfl (by kernel_rfl)
  · intro H4
    dsimp only [List.take]
    simp only [Bool.and_eq_true, Bool.or_eq_true, Bool.not_eq_true', Bool.not_eq_false', Bool.and_eq_false_iff, Bool.or_eq_false_iff, Bool.not_not, decide_eq_true_eq, decide_eq_false_iff_not, ne_eq, Decidable.not_not, Bool.decide_eq_true] at H4
    refine Gy (V_move rfl rfl) ?_
    refine Gy (V_geq rfl rfl rfl) ?_
    refine Gy (V_move rfl rfl) ?_
    apply G_joinAnd 3 12 15 rfl
    · intro H5
      dsimp only [List.take]
      simp only [Bool.and_eq_true, Bool.or_eq_true, Bool.not_eq_true', Bool.not_eq_false', Bool.and_eq_false_iff, Bool.or_eq_false_iff, Bool.not_not, decide_eq_true_eq, decide_eq_false_iff_not, ne_eq, Decidable.not_not, Bool.decide_eq_true] at H5
      refine Gy (V_move rfl rfl) ?_
      refine Gy (V_leq rfl rfl rfl) ?_
      refine Gy (V_pick_t rfl rfl rfl) ?_
      refine G_end ?_
      exact JQ_end 3 rfl rfl (by kernel_rfl)
    · intro H6
      dsimp only [List.take]
      simp only [Bool.and_eq_true, Bool.or_eq_true, Bool.not_eq_true', Bool.not_eq_false', Bool.and_eq_false_iff, Bool.or_eq_false_iff, Bool.not_not, decide_eq_true_eq, decide_eq_false_iff_not, ne_eq, Decidable.not_not, Bool.decide_eq_true] at H6
      refine Gn ?_
      refine Gn ?_
      refine Gy (V_pick_f rfl rfl rfl) ?_
      refine G_end ?_
      exact JQ_end 3 rfl rfl (by kernel_rfl)
    dsimp only [List.drop]
    refine Gv (V_pick_f rfl rfl rfl) ?_
    refine G_end ?_
    exact JQ_end 5 rfl rfl (by kernel_rfl)
  dsimp only [List.drop]
  refine Ga ?_
  refine G_end (X_then (G_ret ?_))
  refine G_leaveS (.nil _) (by exact (.cons (.tmp rfl) (.nil))) rfl ?_ ?_
  · exact (.refl _)
  exact ⟨rfl, rfl⟩
theorem digitR_call (c : Int) : CallV Tryz.prog 131 #[.int .u8 c] E L (.bool (isDig c)) := by
  refine CallS.toV (CallS.intro (l := [.int .u8 c]) _ Tryz.func131 rfl Tryz.ntmps131 rfl ?_)
  refine G_seq (G_region ?_)
  refine Ga ?_
  refine G_end (X_then (G_seq (G_region ?_)))
  refine Gm ?_
  refine Gv (V_geq rfl rfl rfl) ?_
  refine Gm ?_
  apply G_joinAnd 3 5 8 rfl
  · intro H1
    dsimp only [List.take]
    simp only [Bool.and_eq_true, Bool.or_eq_true, Bool.not_eq_true', Bool.not_eq_false', Bool.and_eq_false_iff, Bool.or_eq_false_iff, Bool.not_not, decide_eq_true_eq, decide_eq_false_iff_not, ne_eq, Decidable.not_not, Bool.decide_eq_true] at H1
    refine Gy (V_move rfl rfl) ?_
    refine Gy (V_leq rfl rfl rfl) ?_
    refine Gv (V_pick_t rfl rfl rfl) ?_
    refine G_end ?_
    exact JQ_end 3 rfl rfl (by kernel_rfl)
  · intro H2
    dsimp only [List.take]
    simp only [Bool.and_eq_true, Bool.or_eq_true, Bool.not_eq_true', Bool.not_eq_false', Bool.and_eq_false_iff, Bool.or_eq_false_iff, Bool.not_not, decide_eq_true_eq, decide_eq_false_iff_not, ne_eq, Decidable.not_not, Bool.decide_eq_true] at H2
    refine Gn ?_
    refine Gn ?_
    refine Gv (V_pick_f rfl rfl rfl) ?_
    refine G_end ?_
    exact JQ_end 3 rfl rfl (by kernel_rfl)
  dsimp only [List.drop]
  refine Ga ?_
  refine G_end (X_then (G_ret ?_))
  refine G_leaveS (.nil _) (by exact (.cons (.tmp rfl) (.nil))) rfl ?_ ?_
  · exact (.refl _)
  exact ⟨rfl, rfl⟩
theorem Word_call (s : List UInt8) (hs : s.length ≤ 1000000) : CallV Tryz.prog 123 #[.string (S s)] E L (.int .i64 (wordE s)) := by
  refine CallS.toV (CallS.intro (l := [.string (S s)]) _ Tryz.func123 rfl Tryz.ntmps123 rfl ?_)
  cases s with
  | nil => refine G_seq ?_
           refine G_region ?_
           refine Ga ?_
           refine G_end (X_then (G_seq (G_seq (G_region ?_))))
           refine Gm ?_
           refine Gv (V_seql rfl rfl rfl) ?_
           refine G_end (X_then ?_)
           refine G_cond_t rfl (by kernel_rfl) ?_
           refine G_seq (G_region ?_)
           refine Ga ?_
           refine G_end (X_then (G_ret (X_then_ret ?_)))
           refine G_leaveS (.nil _) (by exact (.cons (.tmp rfl) (.nil))) rfl ?_ ?_
           · exact (.refl _)
           exact ⟨(by kernel_rfl), rfl⟩
  | cons c0 l0 =>
    obtain ⟨s, hs0⟩ : ∃ s, c0 :: l0 = s := ⟨_, rfl⟩
    have hne : 0 < s.length := by rw [← hs0]; simp
    have hne2 : s ≠ [] := by rw [← hs0]; simp
    rw [hs0] at hs ⊢
    refine G_seq (G_region ?_)
    refine Ga ?_
    refine G_end (X_then (G_seq (G_seq (G_region ?_))))
    refine Gm ?_
    refine Gv (V_seql rfl rfl rfl) ?_
    refine G_end (X_then ?_)
    refine G_cond_f rfl (decide_eq_false (by omega)) ?_
    refine G_skip (X_then (G_seq (G_seq (G_region ?_))))
    refine Gm ?_
    (refine G_rangeStr rfl rfl rfl rfl (.none rfl) ?_; intro b8)
    refine G_end (X_then (G_block ?_))
    refine G_loop (α := Nat) (fun _ => [(0, .string (S s)), (8, .pointer (some ⟨b8, 0, none⟩))]) (fun _ => E) (fun i => .blk b8 (.stringIter (S s) i) :: L)
      (fun i => i ≤ s.length ∧ ∀ k, k < i → (h : k < s.length) → badAt k (s[k].toNat : Int) = false) (fun i => s.length - i) 0 ⟨Nat.zero_le _, fun k hk => by omega⟩ ⟨rfl, rfl, trivial⟩ rfl rfl ?_
    rintro i ⟨hi, hall⟩
    by_cases hlt : i < s.length
    · refine G_seq ?_
      refine G_region ?_
      refine G_nextStr rfl rfl hlt rfl rfl (.none rfl) (fun _ => .head _ _ _) ?_ ?_
      · intro hasc
        obtain ⟨c, hc⟩ : ∃ c : Int, (s[i].toNat : Int) = c := ⟨_, rfl⟩
        have hbad : badAt (0 + i) (s[i].toNat : Int) = true → wordE s = 3 := fun h => by
          have := badW_of s 0 i hlt h
          rw [wordE, if_neg (by omega), if_pos this]
        rw [Nat.zero_add] at hbad
        rw [hc] at hbad ⊢
        cases hlet : isLet c with
        | true =>
          refine Gv (V_extract rfl rfl rfl) ?_
          refine G_end (X_then (G_seq ?_))
          refine G_cond_t rfl rfl ?_
          refine G_skip (X_then (G_block (G_seq (G_region ?_))))
          refine Gv (V_extract rfl rfl rfl) ?_
          refine Gv (V_extract rfl rfl rfl) ?_
          refine Ga ?_
          refine Ga ?_
          refine G_end (X_then (G_seq (G_region ?_)))
          refine Gm ?_
          refine G_callv (k := 127) (.mk rfl rfl rfl rfl) rfl rfl (.none rfl) (letter_call _ _ _) ?_
          refine Gv (V_not rfl rfl) ?_
          refine Gm ?_
          refine G.bool_f 16 rfl (by simp [*]; done) ?_
          refine Gn ?_
          refine Gn ?_
          refine Gn ?_
          refine G_stay (.un rfl rfl rfl rfl) rfl rfl ?_
          refine G_stay (.un rfl rfl rfl rfl) rfl rfl ?_
          refine G_stay (.un rfl rfl rfl rfl) rfl rfl ?_
          refine G_stay (.un rfl rfl rfl rfl) rfl rfl ?_
          refine G_stay (.un rfl rfl rfl rfl) rfl rfl ?_
          refine G_stay (.un rfl rfl rfl rfl) rfl rfl ?_
          refine G_stay (.un rfl rfl rfl rfl) rfl rfl ?_
          refine Gn ?_
          refine Gv (V_pick_f rfl rfl rfl) ?_
          refine G_end (X_then ?_)
          refine G_cond_f rfl rfl ?_
          refine G_skip (X_block (X_then ?_))
          refine G_again (i + 1) ⟨hlt, ?_⟩ (by omega) ⟨rfl, rfl, trivial⟩ rfl rfl
          intro k hk h
          by_cases hki : k = i
          · subst hki; rw [hc, badAt, hlet]; rfl
          · exact hall k (by omega) h
        | false =>
          cases hdig : isDig c with
          | true =>
            by_cases h0 : i = 0
            · rw [hbad (by rw [badAt, hlet, hdig]; simp [h0])]
              refine Gv (V_extract rfl rfl rfl) ?_
              refine G_end (X_then (G_seq ?_))
              refine G_cond_t rfl rfl ?_
              refine G_skip (X_then (G_block (G_seq (G_region ?_))))
              refine Gv (V_extract rfl rfl rfl) ?_
              refine Gv (V_extract rfl rfl rfl) ?_
              refine Ga ?_
              refine Ga ?_
              refine G_end (X_then (G_seq (G_region ?_)))
              refine Gm ?_
              refine G_callv (k := 127) (.mk rfl rfl rfl rfl) rfl rfl (.none rfl) (letter_call _ _ _) ?_
              refine Gv (V_not rfl rfl) ?_
              refine Gm ?_
              refine G.bool_t 16 rfl (by simp [*]; done) ?_
              refine Gy (V_move rfl rfl) ?_
              refine Gy (V_eql rfl rfl rfl) ?_
              refine Gy (V_move rfl rfl) ?_
              refine G.bool_t 19 rfl (decide_eq_true (by omega)) ?_
              refine Gn ?_
              refine Gn ?_
              refine Gn ?_
              refine Gn ?_
              refine G_stay (.un rfl rfl rfl rfl) rfl rfl ?_
              refine G_stay (.un rfl rfl rfl rfl) rfl rfl ?_
              refine Gn ?_
              refine Gy (V_pick_t rfl rfl rfl) ?_
              refine Gv (V_pick_t rfl rfl rfl) ?_
              refine G_end (X_then ?_)
              refine G_cond_t rfl rfl ?_
              refine G_seq (G_region ?_)
              refine Ga ?_
              refine G_end (X_then (G_ret (X_block_ret (X_then_ret (X_block_ret (X_then_ret ?_))))))
              refine G_leaveS (.drop _ (.nil _)) (by exact (.cons (.tmp rfl) (.nil))) rfl ?_ ?_
              · exact (.refl _)
              exact ⟨(by kernel_rfl), rfl⟩
            · refine Gv (V_extract rfl rfl rfl) ?_
              refine G_end (X_then (G_seq ?_))
              refine G_cond_t rfl rfl ?_
              refine G_skip (X_then (G_block (G_seq (G_region ?_))))
              refine Gv (V_extract rfl rfl rfl) ?_
              refine Gv (V_extract rfl rfl rfl) ?_
              refine Ga ?_
              refine Ga ?_
              refine G_end (X_then (G_seq (G_region ?_)))
              refine Gm ?_
              refine G_callv (k := 127) (.mk rfl rfl rfl rfl) rfl rfl (.none rfl) (letter_call _ _ _) ?_
              refine Gv (V_not rfl rfl) ?_
              refine Gm ?_
              refine G.bool_t 16 rfl (by simp [*]; done) ?_
              refine Gy (V_move rfl rfl) ?_
              refine Gy (V_eql rfl rfl rfl) ?_
              refine Gy (V_move rfl rfl) ?_
              refine G.bool_f 19 rfl (decide_eq_false (by omega)) ?_
              refine Gy (V_move rfl rfl) ?_
              refine G_callv (k := 128) (.mk rfl rfl rfl rfl) rfl rfl (.yes rfl rfl rfl rfl) (digit_call _ _ _) ?_
              refine Gy (V_not rfl rfl) ?_
              refine Gy (V_move rfl rfl) ?_
              refine G.bool_f 23 rfl (by simp [*]; done) ?_
              refine Gn ?_
              refine Gn ?_
              refine Gy (V_pick_f rfl rfl rfl) ?_
              refine Gy (V_pick_f rfl rfl rfl) ?_
              refine Gv (V_pick_t rfl rfl rfl) ?_
              refine G_end (X_then ?_)
              refine G_cond_f rfl rfl ?_
              refine G_skip (X_block (X_then ?_))
              refine G_again (i + 1) ⟨hlt, ?_⟩ (by omega) ⟨rfl, rfl, trivial⟩ rfl rfl
              intro k hk h
              by_cases hki : k = i
              · subst hki; rw [hc, badAt, hlet, hdig]; simp [h0]
              · exact hall k (by omega) h
          | false =>
            by_cases h0 : i = 0
            · rw [hbad (by rw [badAt, hlet, hdig]; simp [h0])]
              refine Gv (V_extract rfl rfl rfl) ?_
              refine G_end (X_then (G_seq ?_))
              refine G_cond_t rfl rfl ?_
              refine G_skip (X_then (G_block (G_seq (G_region ?_))))
              refine Gv (V_extract rfl rfl rfl) ?_
              refine Gv (V_extract rfl rfl rfl) ?_
              refine Ga ?_
              refine Ga ?_
              refine G_end (X_then (G_seq (G_region ?_)))
              refine Gm ?_
              refine G_callv (k := 127) (.mk rfl rfl rfl rfl) rfl rfl (.none rfl) (letter_call _ _ _) ?_
              refine Gv (V_not rfl rfl) ?_
              refine Gm ?_
              refine G.bool_t 16 rfl (by simp [*]; done) ?_
              refine Gy (V_move rfl rfl) ?_
              refine Gy (V_eql rfl rfl rfl) ?_
              refine Gy (V_move rfl rfl) ?_
              refine G.bool_t 19 rfl (decide_eq_true (by omega)) ?_
              refine Gn ?_
              refine Gn ?_
              refine Gn ?_
              refine Gn ?_
              refine G_stay (.un rfl rfl rfl rfl) rfl rfl ?_
              refine G_stay (.un rfl rfl rfl rfl) rfl rfl ?_
              refine Gn ?_
              refine Gy (V_pick_t rfl rfl rfl) ?_
              refine Gv (V_pick_t rfl rfl rfl) ?_
              refine G_end (X_then ?_)
              refine G_cond_t rfl rfl ?_
              refine G_seq (G_region ?_)
              refine Ga ?_
              refine G_end (X_then (G_ret (X_block_ret (X_then_ret (X_block_ret (X_then_ret ?_))))))
              refine G_leaveS (.drop _ (.nil _)) (by exact (.cons (.tmp rfl) (.nil))) rfl ?_ ?_
              · exact (.refl _)
              exact ⟨(by kernel_rfl), rfl⟩
            · by_cases h95 : c = 95
              · refine Gv (V_extract rfl rfl rfl) ?_
                refine G_end (X_then (G_seq ?_))
                refine G_cond_t rfl rfl ?_
                refine G_skip (X_then (G_block (G_seq (G_region ?_))))
                refine Gv (V_extract rfl rfl rfl) ?_
                refine Gv (V_extract rfl rfl rfl) ?_
                refine Ga ?_
                refine Ga ?_
                refine G_end (X_then (G_seq (G_region ?_)))
                refine Gm ?_
                refine G_callv (k := 127) (.mk rfl rfl rfl rfl) rfl rfl (.none rfl) (letter_call _ _ _) ?_
                refine Gv (V_not rfl rfl) ?_
                refine Gm ?_
                apply G_joinAnd 12 16 28 rfl
                · intro H1
                  dsimp only [List.take]
                  simp only [Bool.and_eq_true, Bool.or_eq_true, Bool.not_eq_true', Bool.not_eq_false', Bool.and_eq_false_iff, Bool.or_eq_false_iff, Bool.not_not, decide_eq_true_eq, decide_eq_false_iff_not, ne_eq, Decidable.not_not, Bool.decide_eq_true] at H1
                  refine Gy (V_move rfl rfl) ?_
                  refine Gy (V_eql rfl rfl rfl) ?_
                  refine Gy (V_move rfl rfl) ?_
                  refine G.bool_f 19 rfl (decide_eq_false (by omega)) ?_
                  refine Gy (V_move rfl rfl) ?_
                  refine G_callv (k := 128) (.mk rfl rfl rfl rfl) rfl rfl (.yes rfl rfl rfl rfl) (digit_call _ _ _) ?_
                  refine Gy (V_not rfl rfl) ?_
                  refine Gy (V_move rfl rfl) ?_
                  apply G_joinAnd 3 23 26 rfl
                  · intro H2
                    dsimp only [List.take]
                    simp only [Bool.and_eq_true, Bool.or_eq_true, Bool.not_eq_true', Bool.not_eq_false', Bool.and_eq_false_iff, Bool.or_eq_false_iff, Bool.not_not, decide_eq_true_eq, decide_eq_false_iff_not, ne_eq, Decidable.not_not, Bool.decide_eq_true] at H2
                    refine Gy (V_move rfl rfl) ?_
                    refine Gy (V_neq rfl rfl rfl) ?_
                    refine Gy (V_pick_t rfl rfl rfl) ?_
                    refine G_end ?_
                    exact JQ_end 3 rfl rfl (by kernel_rfl)
                  · intro H3
                    dsimp only [List.take]
                    simp only [Bool.and_eq_true, Bool.or_eq_true, Bool.not_eq_true', Bool.not_eq_false', Bool.and_eq_false_iff, Bool.or_eq_false_iff, Bool.not_not, decide_eq_true_eq, decide_eq_false_iff_not, ne_eq, Decidable.not_not, Bool.decide_eq_true] at H3
                    refine Gn ?_
                    refine Gn ?_
                    refine Gy (V_pick_f rfl rfl rfl) ?_
                    refine G_end ?_
                    exact JQ_end 3 rfl rfl (by kernel_rfl)
                  dsimp only [List.drop]
                  refine Gy (V_pick_f rfl rfl rfl) ?_
                  refine Gv (V_pick_t rfl rfl rfl) ?_
                  refine G_end ?_
                  exact JQ_end 11 rfl rfl (by kernel_rfl)
                · intro H4
                  dsimp only [List.take]
                  simp only [Bool.and_eq_true, Bool.or_eq_true, Bool.not_eq_true', Bool.not_eq_false', Bool.and_eq_false_iff, Bool.or_eq_false_iff, Bool.not_not, decide_eq_true_eq, decide_eq_false_iff_not, ne_eq, Decidable.not_not, Bool.decide_eq_true] at H4
                  refine Gn ?_
                  refine Gn ?_
                  refine Gn ?_
                  refine G_stay (.un rfl rfl rfl rfl) rfl rfl ?_
                  refine G_stay (.un rfl rfl rfl rfl) rfl rfl ?_
                  refine G_stay (.un rfl rfl rfl rfl) rfl rfl ?_
                  refine G_stay (.un rfl rfl rfl rfl) rfl rfl ?_
                  refine G_stay (.un rfl rfl rfl rfl) rfl rfl ?_
                  refine G_stay (.un rfl rfl rfl rfl) rfl rfl ?_
                  refine G_stay (.un rfl rfl rfl rfl) rfl rfl ?_
                  refine Gn ?_
                  refine Gv (V_pick_f rfl rfl rfl) ?_
                  refine G_end ?_
                  exact JQ_end 12 rfl rfl (by kernel_rfl)
                dsimp only [List.drop]
                refine G_end (X_then ?_)
                refine G_cond_f rfl (by simp [*]; done) ?_
                refine G_skip (X_block (X_then ?_))
                refine G_again (i + 1) ⟨hlt, ?_⟩ (by omega) ⟨rfl, rfl, trivial⟩ rfl rfl
                intro k hk h
                by_cases hki : k = i
                · subst hki; rw [hc, badAt, hlet, hdig]; simp [h0, h95]
                · exact hall k (by omega) h
              · rw [hbad (by rw [badAt, hlet, hdig]; simp [h95])]
                refine Gv (V_extract rfl rfl rfl) ?_
                refine G_end (X_then (G_seq ?_))
                refine G_cond_t rfl rfl ?_
                refine G_skip (X_then (G_block (G_seq (G_region ?_))))
                refine Gv (V_extract rfl rfl rfl) ?_
                refine Gv (V_extract rfl rfl rfl) ?_
                refine Ga ?_
                refine Ga ?_
                refine G_end (X_then (G_seq (G_region ?_)))
                refine Gm ?_
                refine G_callv (k := 127) (.mk rfl rfl rfl rfl) rfl rfl (.none rfl) (letter_call _ _ _) ?_
                refine Gv (V_not rfl rfl) ?_
                refine Gm ?_
                refine G.bool_t 16 rfl (by simp [*]; done) ?_
                refine Gy (V_move rfl rfl) ?_
                refine Gy (V_eql rfl rfl rfl) ?_
                refine Gy (V_move rfl rfl) ?_
                refine G.bool_f 19 rfl (decide_eq_false (by omega)) ?_
                refine Gy (V_move rfl rfl) ?_
                refine G_callv (k := 128) (.mk rfl rfl rfl rfl) rfl rfl (.yes rfl rfl rfl rfl) (digit_call _ _ _) ?_
                refine Gy (V_not rfl rfl) ?_
                refine Gy (V_move rfl rfl) ?_
                refine G.bool_t 23 rfl (by simp [*]; done) ?_
                refine Gy (V_move rfl rfl) ?_
                refine Gy (V_neq rfl rfl rfl) ?_
                refine Gy (V_pick_t rfl rfl rfl) ?_
                refine Gy (V_pick_f rfl rfl rfl) ?_
                refine Gv (V_pick_t rfl rfl rfl) ?_
                refine G_end (X_then ?_)
                refine G_cond_t rfl (decide_eq_true (by omega)) ?_
                refine G_seq (G_region ?_)
                refine Ga ?_
                refine G_end (X_then (G_ret (X_block_ret (X_then_ret (X_block_ret (X_then_ret ?_))))))
                refine G_leaveS (.drop _ (.nil _)) (by exact (.cons (.tmp rfl) (.nil))) rfl ?_ ?_
                · exact (.refl _)
                exact ⟨(by kernel_rfl), rfl⟩
      · intro hhigh c q hc1 hc2 hq
        obtain ⟨d, hd⟩ : ∃ d : Int, (c : Int) = d := ⟨_, rfl⟩
        have hlet : isLet d = false := by simp only [isLet, Bool.or_eq_false_iff, Bool.and_eq_false_iff, decide_eq_false_iff_not]; omega
        have hdig : isDig d = false := by simp only [isDig, Bool.and_eq_false_iff, decide_eq_false_iff_not]; omega
        have h95 : ¬ d = 95 := by omega
        have hlet' : isLet (s[i].toNat : Int) = false := by simp only [isLet, Bool.or_eq_false_iff, Bool.and_eq_false_iff, decide_eq_false_iff_not]; omega
        have hdig' : isDig (s[i].toNat : Int) = false := by simp only [isDig, Bool.and_eq_false_iff, decide_eq_false_iff_not]; omega
        have h95' : ¬ (s[i].toNat : Int) = 95 := by omega
        have hw : wordE s = 3 := by
          have := badW_of s 0 i hlt (by rw [badAt, hlet', hdig', decide_eq_true h95']; simp)
          rw [wordE, if_neg (by omega), if_pos this]
        rw [hw, hd]
        by_cases h0 : i = 0
        · refine Gv (V_extract rfl rfl rfl) ?_
          refine G_end (X_then (G_seq ?_))
          refine G_cond_t rfl rfl ?_
          refine G_skip (X_then (G_block (G_seq (G_region ?_))))
          refine Gv (V_extract rfl rfl rfl) ?_
          refine Gv (V_extract rfl rfl rfl) ?_
          refine Ga ?_
          refine Ga ?_
          refine G_end (X_then (G_seq (G_region ?_)))
          refine Gm ?_
          refine G_callv (k := 127) (.mk rfl rfl rfl rfl) rfl rfl (.none rfl) (letter_call _ _ _) ?_
          refine Gv (V_not rfl rfl) ?_
          refine Gm ?_
          refine G.bool_t 16 rfl (by simp [*]; done) ?_
          refine Gy (V_move rfl rfl) ?_
          refine Gy (V_eql rfl rfl rfl) ?_
          refine Gy (V_move rfl rfl) ?_
          refine G.bool_t 19 rfl (decide_eq_true (by omega)) ?_
          refine Gn ?_
          refine Gn ?_
          refine Gn ?_
          refine Gn ?_
          refine G_stay (.un rfl rfl rfl rfl) rfl rfl ?_
          refine G_stay (.un rfl rfl rfl rfl) rfl rfl ?_
          refine Gn ?_
          refine Gy (V_pick_t rfl rfl rfl) ?_
          refine Gv (V_pick_t rfl rfl rfl) ?_
          refine G_end (X_then ?_)
          refine G_cond_t rfl rfl ?_
          refine G_seq (G_region ?_)
          refine Ga ?_
          refine G_end (X_then (G_ret (X_block_ret (X_then_ret (X_block_ret (X_then_ret ?_))))))
          refine G_leaveS (.drop _ (.nil _)) (by exact (.cons (.tmp rfl) (.nil))) rfl ?_ ?_
          · exact (.refl _)
          exact ⟨(by kernel_rfl), rfl⟩
        · refine Gv (V_extract rfl rfl rfl) ?_
          refine G_end (X_then (G_seq ?_))
          refine G_cond_t rfl rfl ?_
          refine G_skip (X_then (G_block (G_seq (G_region ?_))))
          refine Gv (V_extract rfl rfl rfl) ?_
          refine Gv (V_extract rfl rfl rfl) ?_
          refine Ga ?_
          refine Ga ?_
          refine G_end (X_then (G_seq (G_region ?_)))
          refine Gm ?_
          refine G_callv (k := 127) (.mk rfl rfl rfl rfl) rfl rfl (.none rfl) (letter_call _ _ _) ?_
          refine Gv (V_not rfl rfl) ?_
          refine Gm ?_
          refine G.bool_t 16 rfl (by simp [*]; done) ?_
          refine Gy (V_move rfl rfl) ?_
          refine Gy (V_eql rfl rfl rfl) ?_
          refine Gy (V_move rfl rfl) ?_
          refine G.bool_f 19 rfl (decide_eq_false (by omega)) ?_
          refine Gy (V_move rfl rfl) ?_
          refine G_callv (k := 128) (.mk rfl rfl rfl rfl) rfl rfl (.yes rfl rfl rfl rfl) (digit_call _ _ _) ?_
          refine Gy (V_not rfl rfl) ?_
          refine Gy (V_move rfl rfl) ?_
          refine G.bool_t 23 rfl (by simp [*]; done) ?_
          refine Gy (V_move rfl rfl) ?_
          refine Gy (V_neq rfl rfl rfl) ?_
          refine Gy (V_pick_t rfl rfl rfl) ?_
          refine Gy (V_pick_f rfl rfl rfl) ?_
          refine Gv (V_pick_t rfl rfl rfl) ?_
          refine G_end (X_then ?_)
          refine G_cond_t rfl (decide_eq_true (by omega)) ?_
          refine G_seq (G_region ?_)
          refine Ga ?_
          refine G_end (X_then (G_ret (X_block_ret (X_then_ret (X_block_ret (X_then_ret ?_))))))
          refine G_leaveS (.drop _ (.nil _)) (by exact (.cons (.tmp rfl) (.nil))) rfl ?_ ?_
          · exact (.refl _)
          exact ⟨(by kernel_rfl), rfl⟩
    · have hil : i = s.length := by omega
      have hbw : badW 0 s = false := badW_all s 0 fun k hk => by rw [Nat.zero_add]; exact hall k (by omega) hk
      have hw : wordE s = if 12 < s.length then 4 else 0 := by rw [wordE, if_neg (by omega), hbw]; simp
      rw [hw]
      subst hil
      refine G_seq (G_region ?_)
      refine G_nextStrEnd rfl rfl (.head _) (Nat.le_refl _) rfl rfl (.none rfl) ?_
      refine Gv (V_extract rfl rfl rfl) ?_
      refine G_end (X_then (G_seq ?_))
      refine G_cond_f rfl rfl ?_
      refine G_exit (X_then_exit (X_then_exit (X_block_hit (X_then (G_seq (G_seq (G_region ?_)))))))
      refine Gm ?_
      refine Gv (V_len rfl rfl) ?_
      refine Gv (V_gtr rfl rfl rfl) ?_
      refine G_end (X_then ?_)
      refine G_cond rfl (fun H1 => ?_) (fun H1 => ?_)
      · simp only [Bool.and_eq_true, Bool.or_eq_true, Bool.not_eq_true', Bool.not_eq_false', Bool.and_eq_false_iff, Bool.or_eq_false_iff, Bool.not_not, decide_eq_true_eq, decide_eq_false_iff_not, ne_eq, Decidable.not_not, Bool.decide_eq_true] at H1
        refine G_seq (G_region ?_)
        refine Ga ?_
        refine G_end (X_then (G_ret (X_then_ret ?_)))
        refine G_leaveS (.drop _ (.nil _)) (by exact (.cons (.tmp rfl) (.nil))) rfl ?_ ?_
        · exact (.refl _)
        exact ⟨(by (simp (discharger := omega) only [resVal, if_pos, if_neg]; first | done | rfl)), (by rfl)⟩
      simp only [Bool.and_eq_true, Bool.or_eq_true, Bool.not_eq_true', Bool.not_eq_false', Bool.and_eq_false_iff, Bool.or_eq_false_iff, Bool.not_not, decide_eq_true_eq, decide_eq_false_iff_not, ne_eq, Decidable.not_not, Bool.decide_eq_true] at H1
      refine G_skip (X_then (G_seq (G_region ?_)))
      refine Ga ?_
      refine G_end (X_then (G_ret ?_))
      refine G_leaveS (.drop _ (.nil _)) (by exact (.cons (.tmp rfl) (.nil))) rfl ?_ ?_
      · exact (.refl _)
      exact ⟨(by (simp (discharger := omega) only [resVal, if_pos, if_neg]; first | done | rfl)), (by rfl)⟩
theorem WordR_call (s : List UInt8) (hs : s.length ≤ 1000000) : CallV Tryz.prog 125 #[.string (S s)] E L (.int .i64 (wordE s)) := by
  refine CallS.toV (CallS.intro (l := [.string (S s)]) _ Tryz.func125 rfl Tryz.ntmps125 rfl ?_)
  cases s with
  | nil => refine G_seq ?_
           refine G_region ?_
           refine Ga ?_
           refine G_end (X_then (G_seq (G_seq (G_region ?_))))
           refine Gm ?_
           refine Gv (V_seql rfl rfl rfl) ?_
           refine G_end (X_then ?_)
           refine G_cond_t rfl (by kernel_rfl) ?_
           refine G_seq (G_region ?_)
           refine Ga ?_
           refine G_end (X_then (G_ret (X_then_ret ?_)))
           refine G_leaveS (.nil _) (by exact (.cons (.tmp rfl) (.nil))) rfl ?_ ?_
           · exact (.refl _)
           exact ⟨(by kernel_rfl), rfl⟩
  | cons c0 l0 =>
    obtain ⟨s, hs0⟩ : ∃ s, c0 :: l0 = s := ⟨_, rfl⟩
    have hne : 0 < s.length := by rw [← hs0]; simp
    have hne2 : s ≠ [] := by rw [← hs0]; simp
    rw [hs0] at hs ⊢
    refine G_seq (G_region ?_)
    refine Ga ?_
    refine G_end (X_then (G_seq (G_seq (G_region ?_))))
    refine Gm ?_
    refine Gv (V_seql rfl rfl rfl) ?_
    refine G_end (X_then ?_)
    refine G_cond_f rfl (decide_eq_false (by omega)) ?_
    refine G_skip (X_then (G_seq (G_seq (G_region ?_))))
    refine Ga ?_
    refine G_end (X_then (G_block ?_))
    refine G_loop (α := Nat) (fun i => [(0, .string (S s)), (3, .int .i64 i)]) (fun _ => E) (fun i => L)
      (fun i => i ≤ s.length ∧ ∀ k, k < i → (h : k < s.length) → badAt k (s[k].toNat : Int) = false) (fun i => s.length - i) 0 ⟨Nat.zero_le _, fun k hk => by omega⟩ ⟨rfl, rfl, trivial⟩ rfl rfl ?_
    rintro i ⟨hi, hall⟩
    by_cases hlt : i < s.length
    · have hx := List.getElem?_eq_getElem hlt
      obtain ⟨c, hc⟩ : ∃ c : Int, (s[i].toNat : Int) = c := ⟨_, rfl⟩
      have hbad : badAt (0 + i) (s[i].toNat : Int) = true → wordE s = 3 := fun h => by
        have := badW_of s 0 i hlt h
        rw [wordE, if_neg (by omega), if_pos this]
      rw [Nat.zero_add] at hbad
      rw [hc] at hbad
      have go : badAt i c = false → ∀ k, k < i + 1 → (h : k < s.length) → badAt k (s[k].toNat : Int) = false := by
        intro hb k hk h
        by_cases hki : k = i
        · subst hki; rw [hc]; exact hb
        · exact hall k (by omega) h
      cases hlet : isLet c with
      | true =>
        refine G_seq (G_seq (G_region ?_))
        refine Gm ?_
        refine Gm ?_
        refine Gv (V_len rfl rfl) ?_
        refine Gv (V_lss rfl rfl rfl) ?_
        refine G_end (X_then ?_)
        refine G_cond_t rfl (decide_eq_true (by omega)) ?_
        refine G_skip (X_then (G_seq (G_block (G_seq (G_region ?_)))))
        refine Gm ?_
        refine Gm ?_
        refine Gv (V_sidx rfl rfl rfl (by omega) (by assumption)) ?_
        refine G_callv (k := 130) (.mk rfl rfl rfl rfl) rfl rfl (.none rfl) (letterR_call _ _ _) ?_
        refine Gv (V_not rfl rfl) ?_
        refine Gm ?_
        refine G.bool_f 17 rfl (by simp [*]; done) ?_
        refine Gn ?_
        refine Gn ?_
        refine Gn ?_
        refine G_stay (.un rfl rfl rfl rfl) rfl rfl ?_
        refine G_stay (.un rfl rfl rfl rfl) rfl rfl ?_
        refine G_stay (.un rfl rfl rfl rfl) rfl rfl ?_
        refine G_stay (.un rfl rfl rfl rfl) rfl rfl ?_
        refine G_stay (.un rfl rfl rfl rfl) rfl rfl ?_
        refine G_stay (.un rfl rfl rfl rfl) rfl rfl ?_
        refine G_stay (.un rfl rfl rfl rfl) rfl rfl ?_
        refine G_stay (.un rfl rfl rfl rfl) rfl rfl ?_
        refine G_stay (.un rfl rfl rfl rfl) rfl rfl ?_
        refine G_stay (.un rfl rfl rfl rfl) rfl rfl ?_
        refine G_stay (.un rfl rfl rfl rfl) rfl rfl ?_
        refine Gn ?_
        refine Gv (V_pick_f rfl rfl rfl) ?_
        refine G_end (X_then ?_)
        refine G_cond_f rfl rfl ?_
        refine G_skip (X_block (X_then (G_region ?_)))
        refine Gm ?_
        refine Gv (V_add_i64 rfl rfl rfl (by omega) (by omega)) ?_
        refine Ga ?_
        refine G_end (X_then ?_)
        exact G_again (i + 1) ⟨hlt, go (by rw [badAt, hlet]; rfl)⟩ (by omega) ⟨rfl, rfl, trivial⟩ rfl rfl
      | false =>
        cases hdig : isDig c with
        | true =>
          by_cases h0 : i = 0
          · rw [hbad (by rw [badAt, hlet, hdig]; simp [h0])]
            have hb : (!isLet (s[i].toNat : Int) && true) = true := by rw [hc, hlet]; rfl
            refine G_seq (G_seq (G_region ?_))
            refine Gm ?_
            refine Gm ?_
            refine Gv (V_len rfl rfl) ?_
            refine Gv (V_lss rfl rfl rfl) ?_
            refine G_end (X_then ?_)
            refine G_cond_t rfl (decide_eq_true (by omega)) ?_
            refine G_skip (X_then (G_seq (G_block (G_seq (G_region ?_)))))
            refine Gm ?_
            refine Gm ?_
            refine Gv (V_sidx rfl rfl rfl (by omega) (by assumption)) ?_
            refine G_callv (k := 130) (.mk rfl rfl rfl rfl) rfl rfl (.none rfl) (letterR_call _ _ _) ?_
            refine Gv (V_not rfl rfl) ?_
            refine Gm ?_
            apply G_joinAnd 16 17 33 rfl
            · intro H1
              dsimp only [List.take]
              simp only [Bool.and_eq_true, Bool.or_eq_true, Bool.not_eq_true', Bool.not_eq_false', Bool.and_eq_false_iff, Bool.or_eq_false_iff, Bool.not_not, decide_eq_true_eq, decide_eq_false_iff_not, ne_eq, Decidable.not_not, Bool.decide_eq_true] at H1
              refine Gy (V_move rfl rfl) ?_
              refine Gy (V_eql rfl rfl rfl) ?_
              refine Gy (V_move rfl rfl) ?_
              refine G.bool_t 20 rfl (decide_eq_true (by omega)) ?_
              refine Gn ?_
              refine Gn ?_
              refine Gn ?_
              refine Gn ?_
              refine Gn ?_
              refine Gn ?_
              refine G_stay (.un rfl rfl rfl rfl) rfl rfl ?_
              refine G_stay (.un rfl rfl rfl rfl) rfl rfl ?_
              refine G_stay (.un rfl rfl rfl rfl) rfl rfl ?_
              refine G_stay (.un rfl rfl rfl rfl) rfl rfl ?_
              refine Gn ?_
              refine Gy (V_pick_t rfl rfl rfl) ?_
              refine Gv (V_pick_t rfl rfl rfl) ?_
              refine G_end ?_
              exact JQ_end 17 rfl rfl (by kernel_rfl)
            · intro H2
              dsimp only [List.take]
              simp only [Bool.and_eq_true, Bool.or_eq_true, Bool.not_eq_true', Bool.not_eq_false', Bool.and_eq_false_iff, Bool.or_eq_false_iff, Bool.not_not, decide_eq_true_eq, decide_eq_false_iff_not, ne_eq, Decidable.not_not, Bool.decide_eq_true] at H2
              refine Gn ?_
              refine Gn ?_
              refine Gn ?_
              refine G_stay (.un rfl rfl rfl rfl) rfl rfl ?_
              refine G_stay (.un rfl rfl rfl rfl) rfl rfl ?_
              refine G_stay (.un rfl rfl rfl rfl) rfl rfl ?_
              refine G_stay (.un rfl rfl rfl rfl) rfl rfl ?_
              refine G_stay (.un rfl rfl rfl rfl) rfl rfl ?_
              refine G_stay (.un rfl rfl rfl rfl) rfl rfl ?_
              refine G_stay (.un rfl rfl rfl rfl) rfl rfl ?_
              refine G_stay (.un rfl rfl rfl rfl) rfl rfl ?_
              refine G_stay (.un rfl rfl rfl rfl) rfl rfl ?_
              refine G_stay (.un rfl rfl rfl rfl) rfl rfl ?_
              refine G_stay (.un rfl rfl rfl rfl) rfl rfl ?_
              refine Gn ?_
              refine Gv (V_pick_f rfl rfl rfl) ?_
              refine G_end ?_
              exact JQ_end 16 rfl rfl (by kernel_rfl)
            dsimp only [List.drop]
            refine G_end (X_then ?_)
            refine G_cond_t rfl (by assumption) ?_
            refine G_seq (G_region ?_)
            refine Ga ?_
            refine G_end (X_then (G_ret (X_block_ret (X_then_ret (X_then_ret (X_block_ret (X_then_ret ?_)))))))
            refine G_leaveS (.nil _) (by exact (.cons (.tmp rfl) (.nil))) rfl ?_ ?_
            · exact (.refl _)
            exact ⟨(by kernel_rfl), rfl⟩
          · have hb : badAt i c = false := by rw [badAt, hlet, hdig]; simp [h0]
            refine G_seq (G_seq (G_region ?_))
            refine Gm ?_
            refine Gm ?_
            refine Gv (V_len rfl rfl) ?_
            refine Gv (V_lss rfl rfl rfl) ?_
            refine G_end (X_then ?_)
            refine G_cond_t rfl (decide_eq_true (by omega)) ?_
            refine G_skip (X_then (G_seq (G_block (G_seq (G_region ?_)))))
            refine Gm ?_
            refine Gm ?_
            refine Gv (V_sidx rfl rfl rfl (by omega) (by assumption)) ?_
            refine G_callv (k := 130) (.mk rfl rfl rfl rfl) rfl rfl (.none rfl) (letterR_call _ _ _) ?_
            refine Gv (V_not rfl rfl) ?_
            refine Gm ?_
            refine G.bool_t 17 rfl (by simp [*]; done) ?_
            refine Gy (V_move rfl rfl) ?_
            refine Gy (V_eql rfl rfl rfl) ?_
            refine Gy (V_move rfl rfl) ?_
            refine G.bool_f 20 rfl (decide_eq_false (by omega)) ?_
            refine Gy (V_move rfl rfl) ?_
            refine Gy (V_move rfl rfl) ?_
            refine Gy (V_sidx rfl rfl rfl (by omega) (by assumption)) ?_
            refine G_callv (k := 131) (.mk rfl rfl rfl rfl) rfl rfl (.yes rfl rfl rfl rfl) (digitR_call _ _ _) ?_
            refine Gy (V_not rfl rfl) ?_
            refine Gy (V_move rfl rfl) ?_
            refine G.bool_f 26 rfl (by simp [*]; done) ?_
            refine Gn ?_
            refine Gn ?_
            refine Gn ?_
            refine Gn ?_
            refine Gy (V_pick_f rfl rfl rfl) ?_
            refine Gy (V_pick_f rfl rfl rfl) ?_
            refine Gv (V_pick_t rfl rfl rfl) ?_
            refine G_end (X_then ?_)
            refine G_cond_f rfl rfl ?_
            refine G_skip (X_block (X_then (G_region ?_)))
            refine Gm ?_
            refine Gv (V_add_i64 rfl rfl rfl (by omega) (by omega)) ?_
            refine Ga ?_
            refine G_end (X_then ?_)
            exact G_again (i + 1) ⟨hlt, go hb⟩ (by omega) ⟨rfl, rfl, trivial⟩ rfl rfl
        | false =>
          by_cases h0 : i = 0
          · rw [hbad (by rw [badAt, hlet, hdig]; simp [h0])]
            have hb : (!isLet (s[i].toNat : Int) && true) = true := by rw [hc, hlet]; rfl
            refine G_seq (G_seq (G_region ?_))
            refine Gm ?_
            refine Gm ?_
            refine Gv (V_len rfl rfl) ?_
            refine Gv (V_lss rfl rfl rfl) ?_
            refine G_end (X_then ?_)
            refine G_cond_t rfl (decide_eq_true (by omega)) ?_
            refine G_skip (X_then (G_seq (G_block (G_seq (G_region ?_)))))
            refine Gm ?_
            refine Gm ?_
            refine Gv (V_sidx rfl rfl rfl (by omega) (by assumption)) ?_
            refine G_callv (k := 130) (.mk rfl rfl rfl rfl) rfl rfl (.none rfl) (letterR_call _ _ _) ?_
            refine Gv (V_not rfl rfl) ?_
            refine Gm ?_
            apply G_joinAnd 16 17 33 rfl
            · intro H1
              dsimp only [List.take]
              simp only [Bool.and_eq_true, Bool.or_eq_true, Bool.not_eq_true', Bool.not_eq_false', Bool.and_eq_false_iff, Bool.or_eq_false_iff, Bool.not_not, decide_eq_true_eq, decide_eq_false_iff_not, ne_eq, Decidable.not_not, Bool.decide_eq_true] at H1
              refine Gy (V_move rfl rfl) ?_
              refine Gy (V_eql rfl rfl rfl) ?_
              refine Gy (V_move rfl rfl) ?_
              refine G.bool_t 20 rfl (decide_eq_true (by omega)) ?_
              refine Gn ?_
              refine Gn ?_
              refine Gn ?_
              refine Gn ?_
              refine Gn ?_
              refine Gn ?_
              refine G_stay (.un rfl rfl rfl rfl) rfl rfl ?_
              refine G_stay (.un rfl rfl rfl rfl) rfl rfl ?_
              refine G_stay (.un rfl rfl rfl rfl) rfl rfl ?_
              refine G_stay (.un rfl rfl rfl rfl) rfl rfl ?_
              refine Gn ?_
              refine Gy (V_pick_t rfl rfl rfl) ?_
              refine Gv (V_pick_t rfl rfl rfl) ?_
              refine G_end ?_
              exact JQ_end 17 rfl rfl (by kernel_rfl)
            · intro H2
              dsimp only [List.take]
              simp only [Bool.and_eq_true, Bool.or_eq_true, Bool.not_eq_true', Bool.not_eq_false', Bool.and_eq_false_iff, Bool.or_eq_false_iff, Bool.not_not, decide_eq_true_eq, decide_eq_false_iff_not, ne_eq, Decidable.not_not, Bool.decide_eq_true] at H2
              refine Gn ?_
              refine Gn ?_
              refine Gn ?_
              refine G_stay (.un rfl rfl rfl rfl) rfl rfl ?_
              refine G_stay (.un rfl rfl rfl rfl) rfl rfl ?_
              refine G_stay (.un rfl rfl rfl rfl) rfl rfl ?_
              refine G_stay (.un rfl rfl rfl rfl) rfl rfl ?_
              refine G_stay (.un rfl rfl rfl rfl) rfl rfl ?_
              refine G_stay (.un rfl rfl rfl rfl) rfl rfl ?_
              refine G_stay (.un rfl rfl rfl rfl) rfl rfl ?_
              refine G_stay (.un rfl rfl rfl rfl) rfl rfl ?_
              refine G_stay (.un rfl rfl rfl rfl) rfl rfl ?_
              refine G_stay (.un rfl rfl rfl rfl) rfl rfl ?_
              refine G_stay (.un rfl rfl rfl rfl) rfl rfl ?_
              refine Gn ?_
              refine Gv (V_pick_f rfl rfl rfl) ?_
              refine G_end ?_
              exact JQ_end 16 rfl rfl (by kernel_rfl)
            dsimp only [List.drop]
            refine G_end (X_then ?_)
            refine G_cond_t rfl (by assumption) ?_
            refine G_seq (G_region ?_)
            refine Ga ?_
            refine G_end (X_then (G_ret (X_block_ret (X_then_ret (X_then_ret (X_block_ret (X_then_ret ?_)))))))
            refine G_leaveS (.nil _) (by exact (.cons (.tmp rfl) (.nil))) rfl ?_ ?_
            · exact (.refl _)
            exact ⟨(by kernel_rfl), rfl⟩
          · by_cases h95 : c = 95
            · have hb : badAt i c = false := by rw [badAt, hlet, hdig]; simp [h0, h95]
              refine G_seq (G_seq (G_region ?_))
              refine Gm ?_
              refine Gm ?_
              refine Gv (V_len rfl rfl) ?_
              refine Gv (V_lss rfl rfl rfl) ?_
              refine G_end (X_then ?_)
              refine G_cond_t rfl (decide_eq_true (by omega)) ?_
              refine G_skip (X_then (G_seq (G_block (G_seq (G_region ?_)))))
              refine Gm ?_
              refine Gm ?_
              refine Gv (V_sidx rfl rfl rfl (by omega) (by assumption)) ?_
              refine G_callv (k := 130) (.mk rfl rfl rfl rfl) rfl rfl (.none rfl) (letterR_call _ _ _) ?_
              refine Gv (V_not rfl rfl) ?_
              refine Gm ?_
              apply G_joinAnd 16 17 33 rfl
              · intro H1
                dsimp only [List.take]
                simp only [Bool.and_eq_true, Bool.or_eq_true, Bool.not_eq_true', Bool.not_eq_false', Bool.and_eq_false_iff, Bool.or_eq_false_iff, Bool.not_not, decide_eq_true_eq, decide_eq_false_iff_not, ne_eq, Decidable.not_not, Bool.decide_eq_true] at H1
                refine Gy (V_move rfl rfl) ?_
                refine Gy (V_eql rfl rfl rfl) ?_
                refine Gy (V_move rfl rfl) ?_
                refine G.bool_f 20 rfl (decide_eq_false (by omega)) ?_
                refine Gy (V_move rfl rfl) ?_
                refine Gy (V_move rfl rfl) ?_
                refine Gy (V_sidx rfl rfl rfl (by omega) (by assumption)) ?_
                refine G_callv (k := 131) (.mk rfl rfl rfl rfl) rfl rfl (.yes rfl rfl rfl rfl) (digitR_call _ _ _) ?_
                refine Gy (V_not rfl rfl) ?_
                refine Gy (V_move rfl rfl) ?_
                apply G_joinAnd 5 26 31 rfl
                · intro H2
                  dsimp only [List.take]
                  simp only [Bool.and_eq_true, Bool.or_eq_true, Bool.not_eq_true', Bool.not_eq_false', Bool.and_eq_false_iff, Bool.or_eq_false_iff, Bool.not_not, decide_eq_true_eq, decide_eq_false_iff_not, ne_eq, Decidable.not_not, Bool.decide_eq_true] at H2
                  refine Gy (V_move rfl rfl) ?_
                  refine Gy (V_move rfl rfl) ?_
                  refine Gy (V_sidx rfl rfl rfl (by omega) (by assumption)) ?_
                  refine Gy (V_neq rfl rfl rfl) ?_
                  refine Gy (V_pick_t rfl rfl rfl) ?_
                  refine G_end ?_
                  exact JQ_end 5 rfl rfl (by kernel_rfl)
                · intro H3
                  dsimp only [List.take]
                  simp only [Bool.and_eq_true, Bool.or_eq_true, Bool.not_eq_true', Bool.not_eq_false', Bool.and_eq_false_iff, Bool.or_eq_false_iff, Bool.not_not, decide_eq_true_eq, decide_eq_false_iff_not, ne_eq, Decidable.not_not, Bool.decide_eq_true] at H3
                  refine Gn ?_
                  refine Gn ?_
                  refine Gn ?_
                  refine Gn ?_
                  refine Gy (V_pick_f rfl rfl rfl) ?_
                  refine G_end ?_
                  exact JQ_end 5 rfl rfl (by kernel_rfl)
                dsimp only [List.drop]
                refine Gy (V_pick_f rfl rfl rfl) ?_
                refine Gv (V_pick_t rfl rfl rfl) ?_
                refine G_end ?_
                exact JQ_end 13 rfl rfl (by kernel_rfl)
              · intro H4
                dsimp only [List.take]
                simp only [Bool.and_eq_true, Bool.or_eq_true, Bool.not_eq_true', Bool.not_eq_false', Bool.and_eq_false_iff, Bool.or_eq_false_iff, Bool.not_not, decide_eq_true_eq, decide_eq_false_iff_not, ne_eq, Decidable.not_not, Bool.decide_eq_true] at H4
                refine Gn ?_
                refine Gn ?_
                refine Gn ?_
                refine G_stay (.un rfl rfl rfl rfl) rfl rfl ?_
                refine G_stay (.un rfl rfl rfl rfl) rfl rfl ?_
                refine G_stay (.un rfl rfl rfl rfl) rfl rfl ?_
                refine G_stay (.un rfl rfl rfl rfl) rfl rfl ?_
                refine G_stay (.un rfl rfl rfl rfl) rfl rfl ?_
                refine G_stay (.un rfl rfl rfl rfl) rfl rfl ?_
                refine G_stay (.un rfl rfl rfl rfl) rfl rfl ?_
                refine G_stay (.un rfl rfl rfl rfl) rfl rfl ?_
                refine G_stay (.un rfl rfl rfl rfl) rfl rfl ?_
                refine G_stay (.un rfl rfl rfl rfl) rfl rfl ?_
                refine G_stay (.un rfl rfl rfl rfl) rfl rfl ?_
                refine Gn ?_
                refine Gv (V_pick_f rfl rfl rfl) ?_
                refine G_end ?_
                exact JQ_end 16 rfl rfl (by kernel_rfl)
              dsimp only [List.drop]
              refine G_end (X_then ?_)
              refine G_cond_f rfl (by simp [*]; done) ?_
              refine G_skip (X_block (X_then (G_region ?_)))
              refine Gm ?_
              refine Gv (V_add_i64 rfl rfl rfl (by omega) (by omega)) ?_
              refine Ga ?_
              refine G_end (X_then ?_)
              exact G_again (i + 1) ⟨hlt, go hb⟩ (by omega) ⟨rfl, rfl, trivial⟩ rfl rfl
            · rw [hbad (by rw [badAt, hlet, hdig]; simp [h95])]
              refine G_seq (G_seq (G_region ?_))
              refine Gm ?_
              refine Gm ?_
              refine Gv (V_len rfl rfl) ?_
              refine Gv (V_lss rfl rfl rfl) ?_
              refine G_end (X_then ?_)
              refine G_cond_t rfl (decide_eq_true (by omega)) ?_
              refine G_skip (X_then (G_seq (G_block (G_seq (G_region ?_)))))
              refine Gm ?_
              refine Gm ?_
              refine Gv (V_sidx rfl rfl rfl (by omega) (by assumption)) ?_
              refine G_callv (k := 130) (.mk rfl rfl rfl rfl) rfl rfl (.none rfl) (letterR_call _ _ _) ?_
              refine Gv (V_not rfl rfl) ?_
              refine Gm ?_
              refine G.bool_t 17 rfl (by simp [*]; done) ?_
              refine Gy (V_move rfl rfl) ?_
              refine Gy (V_eql rfl rfl rfl) ?_
              refine Gy (V_move rfl rfl) ?_
              refine G.bool_f 20 rfl (decide_eq_false (by omega)) ?_
              refine Gy (V_move rfl rfl) ?_
              refine Gy (V_move rfl rfl) ?_
              refine Gy (V_sidx rfl rfl rfl (by omega) (by assumption)) ?_
              refine G_callv (k := 131) (.mk rfl rfl rfl rfl) rfl rfl (.yes rfl rfl rfl rfl) (digitR_call _ _ _) ?_
              refine Gy (V_not rfl rfl) ?_
              refine Gy (V_move rfl rfl) ?_
              refine G.bool_t 26 rfl (by simp [*]; done) ?_
              refine Gy (V_move rfl rfl) ?_
              refine Gy (V_move rfl rfl) ?_
              refine Gy (V_sidx rfl rfl rfl (by omega) (by assumption)) ?_
              refine Gy (V_neq rfl rfl rfl) ?_
              refine Gy (V_pick_t rfl rfl rfl) ?_
              refine Gy (V_pick_f rfl rfl rfl) ?_
              refine Gv (V_pick_t rfl rfl rfl) ?_
              refine G_end (X_then ?_)
              refine G_cond_t rfl (decide_eq_true (by omega)) ?_
              refine G_seq (G_region ?_)
              refine Ga ?_
              refine G_end (X_then (G_ret (X_block_ret (X_then_ret (X_then_ret (X_block_ret (X_then_ret ?_)))))))
              refine G_leaveS (.nil _) (by exact (.cons (.tmp rfl) (.nil))) rfl ?_ ?_
              · exact (.refl _)
              exact ⟨(by kernel_rfl), rfl⟩
    · have hil : i = s.length := by omega
      have hbw : badW 0 s = false := badW_all s 0 fun k hk => by rw [Nat.zero_add]; exact hall k (by omega) hk
      have hw : wordE s = if 12 < s.length then 4 else 0 := by rw [wordE, if_neg (by omega), hbw]; simp
      rw [hw]
      subst hil
      refine G_seq (G_seq (G_region ?_))
      refine Gm ?_
      refine Gm ?_
      refine Gv (V_len rfl rfl) ?_
      refine Gv (V_lss rfl rfl rfl) ?_
      refine G_end (X_then ?_)
      refine G_cond_f rfl (decide_eq_false (by omega)) ?_
      refine G_exit (X_then_exit (X_then_exit (X_block_hit (X_then (G_seq (G_seq (G_region ?_)))))))
      refine Gm ?_
      refine Gv (V_len rfl rfl) ?_
      refine Gv (V_gtr rfl rfl rfl) ?_
      refine G_end (X_then ?_)
      refine G_cond rfl (fun H1 => ?_) (fun H1 => ?_)
      · simp only [Bool.and_eq_true, Bool.or_eq_true, Bool.not_eq_true', Bool.not_eq_false', Bool.and_eq_false_iff, Bool.or_eq_false_iff, Bool.not_not, decide_eq_true_eq, decide_eq_false_iff_not, ne_eq, Decidable.not_not, Bool.decide_eq_true] at H1
        refine G_seq (G_region ?_)
        refine Ga ?_
        refine G_end (X_then (G_ret (X_then_ret ?_)))
        refine G_leaveS (.nil _) (by exact (.cons (.tmp rfl) (.nil))) rfl ?_ ?_
        · exact (.refl _)
        exact ⟨(by (simp (discharger := omega) only [resVal, if_pos, if_neg]; first | done | rfl)), (by rfl)⟩
      simp only [Bool.and_eq_true, Bool.or_eq_true, Bool.not_eq_true', Bool.not_eq_false', Bool.and_eq_false_iff, Bool.or_eq_false_iff, Bool.not_not, decide_eq_true_eq, decide_eq_false_iff_not, ne_eq, Decidable.not_not, Bool.decide_eq_true] at H1
      refine G_skip (X_then (G_seq (G_region ?_)))
      refine Ga ?_
      refine G_end (X_then (G_ret ?_))
      refine G_leaveS (.nil _) (by exact (.cons (.tmp rfl) (.nil))) rfl ?_ ?_
      · exact (.refl _)
      exact ⟨(by (simp (discharger := omega) only [resVal, if_pos, if_neg]; first | done | rfl)), (by rfl)⟩
theorem IndexS_call (p : Option Addr) (n c : Nat) (l : List (List UInt8)) (hl : SlE E 1 p n (strs l)) (hn : n ≤ 1000000) (s : List UInt8) :
    CallS Tryz.prog 132 #[.slice p n c, .string (S s)] E L (fun r E' L' => ∃ i : Int, r = .int .i64 i ∧ (0 ≤ i ↔ s ∈ l) ∧ L' = L) := by
  have e1 := hl.nS
  subst e1
  refine CallS.intro (l := [.slice p l.length c, .string (S s)]) _ Tryz.func132 rfl Tryz.ntmps132 rfl ?_
  refine G_seq (G_region ?_)
  refine Ga ?_
  refine G_end (X_then (G_seq (G_seq (G_region ?_))))
  refine Gm ?_
  refine Gv (V_lenS rfl rfl) ?_
  refine Gm ?_
  refine G_end (X_then (G_block ?_))
  refine G_loop (α := Nat) (fun i => [(0, .slice p l.length c), (1, .string (S s)), (7, .int .i64 l.length), (8, .int .i64 i)]) (fun _ => E) (fun i => L)
    (fun i => i ≤ l.length ∧ s ∉ l.take i) (fun i => l.length - i) 0 ⟨Nat.zero_le _, by simp⟩ ⟨rfl, rfl, rfl, rfl, trivial⟩ rfl rfl ?_
  rintro i ⟨hi, hall⟩
  by_cases hlt : i < l.length
  · have hx := strs_get (List.getElem?_eq_getElem hlt)
    by_cases he : s = l[i]
    · have hmem : (0 : Int) ≤ (i : Int) ↔ s ∈ l := ⟨fun _ => by rw [he]; exact List.getElem_mem hlt, fun _ => by omega⟩
      refine G_seq (G_region ?_)
      refine Gv (V_lss rfl rfl rfl) ?_
      refine G_end (X_then (G_seq ?_))
      refine G_cond_t rfl (decide_eq_true (by omega)) ?_
      refine G_skip (X_then (G_seq (G_block (G_seq (G_region ?_)))))
      refine Gm ?_
      refine Ga ?_
      refine G_end (X_then (G_seq (G_region ?_)))
      refine Gm ?_
      refine Gm ?_
      refine Gm ?_
      refine Gv (V_idxAddr rfl rfl rfl (SlE.rd (by assumption)) (by omega) (by omega)) ?_
      refine Gv (V_loadS rfl rfl (SlE.rd (by assumption)) (by assumption) (by simp)) ?_
      refine Gv (V_seql rfl rfl rfl) ?_
      refine G_end (X_then ?_)
      refine G_cond_t rfl (decide_eq_true (by omega)) ?_
      refine G_seq (G_region ?_)
      refine Gm ?_
      refine Ga ?_
      refine G_end (X_then (G_ret (X_block_ret (X_then_ret (X_then_ret (X_block_ret (X_then_ret ?_)))))))
      refine G_leaveS (.nil _) (by exact (.cons (.tmp rfl) (.nil))) rfl ?_ ?_
      · exact (.refl _)
      exact ⟨_, ⟨rfl, ⟨(by assumption), rfl⟩⟩⟩
    · refine G_seq ?_
      refine G_region ?_
      refine Gv (V_lss rfl rfl rfl) ?_
      refine G_end (X_then (G_seq ?_))
      refine G_cond_t rfl (decide_eq_true (by omega)) ?_
      refine G_skip (X_then (G_seq (G_block (G_seq (G_region ?_)))))
      refine Gm ?_
      refine Ga ?_
      refine G_end (X_then (G_seq (G_region ?_)))
      refine Gm ?_
      refine Gm ?_
      refine Gm ?_
      refine Gv (V_idxAddr rfl rfl rfl (SlE.rd (by assumption)) (by omega) (by omega)) ?_
      refine Gv (V_loadS rfl rfl (SlE.rd (by assumption)) (by assumption) (by simp)) ?_
      refine Gv (V_seql rfl rfl rfl) ?_
      refine G_end (X_then ?_)
      refine G_cond_f rfl (decide_eq_false (by omega)) ?_
      refine G_skip (X_block (X_then (G_region ?_)))
      refine Gv (V_add_i64 rfl rfl rfl (by omega) (by omega)) ?_
      refine Gm ?_
      refine G_end (X_then ?_)
      refine G_again (i + 1) ⟨hlt, ?_⟩ (by omega) ⟨rfl, rfl, rfl, rfl, trivial⟩ rfl rfl
      rw [List.take_succ_eq_append_getElem hlt]
      simp only [List.mem_append, List.mem_singleton, not_or]
      exact ⟨hall, he⟩
  · have hmem : (0 : Int) ≤ -1 ↔ s ∈ l := ⟨fun h => by omega, fun h => by rw [List.take_of_length_le (by omega)] at hall; exact absurd h hall⟩
    refine G_seq (G_region ?_)
    refine Gv (V_lss rfl rfl rfl) ?_
    refine G_end (X_then (G_seq ?_))
    refine G_cond_f rfl (decide_eq_false (by omega)) ?_
    refine G_exit (X_then_exit (X_then_exit (X_block_hit (X_then (G_seq (G_region ?_))))))
    refine Ga ?_
    refine G_end (X_then (G_ret ?_))
    refine G_leaveS (.nil _) (by exact (.cons (.tmp rfl) (.nil))) rfl ?_ ?_
    · exact (.refl _)
    exact ⟨_, ⟨rfl, ⟨(by assumption), rfl⟩⟩⟩
theorem Contains_call (p : Option Addr) (n c : Nat) (l : List (List UInt8)) (hl : SlE E 1 p n (strs l)) (hn : n ≤ 1000000) (s : List UInt8) :
    CallS Tryz.prog 129 #[.slice p n c, .string (S s)] E L (fun r E' L' => r = .bool (decide (s ∈ l)) ∧ L' = L) := by
  refine CallS.intro (l := [.slice p n c, .string (S s)]) _ Tryz.func129 rfl Tryz.ntmps129 rfl ?_
  refine G_seq (G_region ?_)
  refine Ga ?_
  refine G_end (X_then (G_seq (G_region ?_)))
  refine Gm ?_
  refine Gm ?_
  refine G_call (k := 132) (.mk rfl rfl rfl rfl) rfl rfl (.none rfl) (IndexS_call _ _ _ _ _ _ (by assumption) (by assumption) _) ?_
  rintro r1 E2 L3 hE4 ⟨z5, ⟨rfl, ⟨Z6, rfl⟩⟩⟩
  replace hl := hl.mono hE4
  refine Gv (V_geq rfl rfl rfl) ?_
  refine Ga ?_
  refine G_end (X_then (G_ret ?_))
  refine G_leaveS (.nil _) (by exact (.cons (.tmp rfl) (.nil))) rfl ?_ ?_
  · exact hE4
  exact ⟨(by (simp [resVal, *]; done)), (by rfl)⟩
theorem Language_call (s : List UInt8) : CallV Tryz.prog 124 #[.string (S s)] E L (.bool (langB s)) := by
  refine CallS.toV (CallS.intro (l := [.string (S s)]) _ Tryz.func124 rfl Tryz.ntmps124 rfl ?_)
  refine G_seq (G_region ?_)
  refine Ga ?_
  refine G_end (X_then (G_seq (G_region ?_)))
  refine Gv (V_buildArr rfl rfl (by simp [fillS, setLs, setL, Value.cells]; rfl)) ?_
  (refine G_alloc rfl rfl rfl (.none rfl) ?_; intro b3)
  refine G_storeA rfl rfl rfl rfl (by simp [Value.oneCell']) rfl (.none rfl) (.head _ _ _) rfl ?_
  refine G_end (X_then (G_seq (G_region ?_)))
  refine Gv (V_slArr rfl rfl) ?_
  refine Gm ?_
  refine G.freezeB (.head _ _) (k := 4) (sz := 1) rfl ?_
  intro E1 hE1 hs1
  replace hs1 : SlE E1 1 (some ⟨b3, 0, none⟩) 4 (strs langW) := hs1
  refine G_call (k := 129) (.mk rfl rfl rfl rfl) rfl rfl (.none rfl) (Contains_call _ _ _ _ _ _ (by assumption) (by omega) _) ?_
  rintro r1 E2 L3 hE4 ⟨rfl, rfl⟩
  replace hs1 := hs1.mono hE4
  refine Ga ?_
  refine G_end (X_then (G_ret ?_))
  refine G_leaveS (.nil _) (by exact (.cons (.tmp rfl) (.nil))) rfl ?_ ?_
  · exact (hE1.trans hE4)
  exact ⟨rfl, rfl⟩
theorem LanguageR_call (s : List UInt8) : CallV Tryz.prog 126 #[.string (S s)] E L (.bool (langB s)) := by
  refine CallS.toV (CallS.intro (l := [.string (S s)]) _ Tryz.func126 rfl Tryz.ntmps126 rfl ?_)
  have e : langB s = (decide (s = [108, 111, 111, 107, 97, 104, 101, 97, 100]) || decide (s = [116, 111, 107, 101, 110]) || decide (s = [115, 101, 112, 97, 114, 97, 116, 111, 114]) || decide (s = [115, 116, 97, 114, 116])) := by
    rw [Bool.eq_iff_iff]
    simp [langB, langW, or_assoc]
  rw [e]
  refine G_seq (G_region ?_)
  refine Ga ?_
  refine G_end (X_then (G_seq (G_region ?_)))
  refine Gm ?_
  refine Gv (V_seql rfl rfl rfl) ?_
  refine Gm ?_
  apply G_joinOr 3 5 8 rfl
  · intro H1
    dsimp only [List.take]
    simp only [Bool.and_eq_true, Bool.or_eq_true, Bool.not_eq_true', Bool.not_eq_false', Bool.and_eq_false_iff, Bool.or_eq_false_iff, Bool.not_not, decide_eq_true_eq, decide_eq_false_iff_not, ne_eq, Decidable.not_not, Bool.decide_eq_true] at H1
    refine Gn ?_
    refine Gn ?_
    refine Gv (V_pick_t rfl rfl rfl) ?_
    refine G_end ?_
    exact JQ_end 3 rfl rfl (by kernel_rfl)
  · intro H2
    dsimp only [List.take]
    simp only [Bool.and_eq_true, Bool.or_eq_true, Bool.not_eq_true', Bool.not_eq_false', Bool.and_eq_false_iff, Bool.or_eq_false_iff, Bool.not_not, decide_eq_true_eq, decide_eq_false_iff_not, ne_eq, Decidable.not_not, Bool.decide_eq_true] at H2
    refine Gy (V_move rfl rfl) ?_
    refine Gy (V_seql rfl rfl rfl) ?_
    refine Gv (V_pick_f rfl rfl rfl) ?_
    refine G_end ?_
    exact JQ_end 3 rfl rfl (by kernel_rfl)
  dsimp only [List.drop]
  refine Gm ?_
  apply G_joinOr 3 9 12 rfl
  · intro H3
    dsimp only [List.take]
    simp only [Bool.and_eq_true, Bool.or_eq_true, Bool.not_eq_true', Bool.not_eq_false', Bool.and_eq_false_iff, Bool.or_eq_false_iff, Bool.not_not, decide_eq_true_eq, decide_eq_false_iff_not, ne_eq, Decidable.not_not, Bool.decide_eq_true] at H3
    refine Gn ?_
    refine Gn ?_
    refine Gv (V_pick_t rfl rfl rfl) ?_
    refine G_end ?_
    exact JQ_end 3 rfl rfl (by kernel_rfl)
  · intro H4
    dsimp only [List.take]
    simp only [Bool.and_eq_true, Bool.or_eq_true, Bool.not_eq_true', Bool.not_eq_false', Bool.and_eq_false_iff, Bool.or_eq_false_iff, Bool.not_not, decide_eq_true_eq, decide_eq_false_iff_not, ne_eq, Decidable.not_not, Bool.decide_eq_true] at H4
    refine Gy (V_move rfl rfl) ?_
    refine Gy (V_seql rfl rfl rfl) ?_
    refine Gv (V_pick_f rfl rfl rfl) ?_
    refine G_end ?_
    exact JQ_end 3 rfl rfl (by kernel_rfl)
  dsimp only [List.drop]
  refine Gm ?_
  apply G_joinOr 3 13 16 rfl
  · intro H5
    dsimp only [List.take]
    simp only [Bool.and_eq_true, Bool.or_eq_true, Bool.not_eq_true', Bool.not_eq_false', Bool.and_eq_false_iff, Bool.or_eq_false_iff, Bool.not_not, decide_eq_true_eq, decide_eq_false_iff_not, ne_eq, Decidable.not_not, Bool.decide_eq_true] at H5
    refine Gn ?_
    refine Gn ?_
    refine Gv (V_pick_t rfl rfl rfl) ?_
    refine G_end ?_
    exact JQ_end 3 rfl rfl (by kernel_rfl)
  · intro H6
    dsimp only [List.take]
    simp only [Bool.and_eq_true, Bool.or_eq_true, Bool.not_eq_true', Bool.not_eq_false', Bool.and_eq_false_iff, Bool.or_eq_false_iff, Bool.not_not, decide_eq_true_eq, decide_eq_false_iff_not, ne_eq, Decidable.not_not, Bool.decide_eq_true] at H6
    refine Gy (V_move rfl rfl) ?_
    refine Gy (V_seql rfl rfl rfl) ?_
    refine Gv (V_pick_f rfl rfl rfl) ?_
    refine G_end ?_
    exact JQ_end 3 rfl rfl (by kernel_rfl)
  dsimp only [List.drop]
  refine Ga ?_
  refine G_end (X_then (G_ret ?_))
  refine G_leaveS (.nil _) (by exact (.cons (.tmp rfl) (.nil))) rfl ?_ ?_
  · exact (.refl _)
  exact ⟨rfl, rfl⟩
theorem NCheck_call (s : List UInt8) (hs : s.length ≤ 1000000) : CallV Tryz.prog 112 #[.string (S s)] E L (.int .i64 (nameE s)) := by
  refine CallS.toV (CallS.intro (l := [.string (S s)]) _ Tryz.func112 rfl Tryz.ntmps112 rfl ?_)
  refine G_seq (G_region ?_)
  refine Ga ?_
  refine G_end (X_then (G_seq (G_region ?_)))
  refine Gm ?_
  refine G_callv (k := 123) (.mk rfl rfl rfl rfl) rfl rfl (.none rfl) (Word_call _ _ _ (by assumption)) ?_
  refine Ga ?_
  refine G_end (X_then (G_seq (G_seq (G_region ?_))))
  refine Gm ?_
  refine Gv (V_eql rfl rfl rfl) ?_
  refine Gm ?_
  apply G_joinAnd 3 8 11 rfl
  · intro H1
    dsimp only [List.take]
    simp only [Bool.and_eq_true, Bool.or_eq_true, Bool.not_eq_true', Bool.not_eq_false', Bool.and_eq_false_iff, Bool.or_eq_false_iff, Bool.not_not, decide_eq_true_eq, decide_eq_false_iff_not, ne_eq, Decidable.not_not, Bool.decide_eq_true] at H1
    refine Gy (V_move rfl rfl) ?_
    refine G_callv (k := 124) (.mk rfl rfl rfl rfl) rfl rfl (.yes rfl rfl rfl rfl) (Language_call _ _ _) ?_
    refine Gv (V_pick_t rfl rfl rfl) ?_
    refine G_end ?_
    exact JQ_end 3 rfl rfl (by kernel_rfl)
  · intro H2
    dsimp only [List.take]
    simp only [Bool.and_eq_true, Bool.or_eq_true, Bool.not_eq_true', Bool.not_eq_false', Bool.and_eq_false_iff, Bool.or_eq_false_iff, Bool.not_not, decide_eq_true_eq, decide_eq_false_iff_not, ne_eq, Decidable.not_not, Bool.decide_eq_true] at H2
    refine Gn ?_
    refine Gn ?_
    refine Gv (V_pick_f rfl rfl rfl) ?_
    refine G_end ?_
    exact JQ_end 3 rfl rfl (by kernel_rfl)
  dsimp only [List.drop]
  refine G_end (X_then ?_)
  refine G_cond rfl (fun H3 => ?_) (fun H3 => ?_)
  · simp only [Bool.and_eq_true, Bool.or_eq_true, Bool.not_eq_true', Bool.not_eq_false', Bool.and_eq_false_iff, Bool.or_eq_false_iff, Bool.not_not, decide_eq_true_eq, decide_eq_false_iff_not, ne_eq, Decidable.not_not, Bool.decide_eq_true] at H3
    refine G_region ?_
    refine Ga ?_
    refine G_end (X_then (G_seq (G_region ?_)))
    refine Gm ?_
    refine Ga ?_
    refine G_end (X_then (G_ret ?_))
    refine G_leaveS (.nil _) (by exact (.cons (.tmp rfl) (.nil))) rfl ?_ ?_
    · exact (.refl _)
    exact ⟨(by (simp [resVal, nameE, *]; done)), (by rfl)⟩
  simp only [Bool.and_eq_true, Bool.or_eq_true, Bool.not_eq_true', Bool.not_eq_false', Bool.and_eq_false_iff, Bool.or_eq_false_iff, Bool.not_not, decide_eq_true_eq, decide_eq_false_iff_not, ne_eq, Decidable.not_not, Bool.decide_eq_true] at H3
  refine G_skip (X_then (G_seq (G_region ?_)))
  refine Gm ?_
  refine Ga ?_
  refine G_end (X_then (G_ret ?_))
  refine G_leaveS (.nil _) (by exact (.cons (.tmp rfl) (.nil))) rfl ?_ ?_
  · exact (.refl _)
  exact ⟨(by ((try simp only [resVal, nameE]); (repeat' split) <;> first | rfl | (exfalso; omega) | (simp_all; done) | (simp_all; omega))), (by rfl)⟩
theorem NCheckR_call (s : List UInt8) (hs : s.length ≤ 1000000) : CallV Tryz.prog 120 #[.string (S s)] E L (.int .i64 (nameE s)) := by
  refine CallS.toV (CallS.intro (l := [.string (S s)]) _ Tryz.func120 rfl Tryz.ntmps120 rfl ?_)
  refine G_seq (G_region ?_)
  refine Ga ?_
  refine G_end (X_then (G_seq (G_region ?_)))
  refine Gm ?_
  refine G_callv (k := 125) (.mk rfl rfl rfl rfl) rfl rfl (.none rfl) (WordR_call _ _ _ (by assumption)) ?_
  refine Ga ?_
  refine G_end (X_then (G_seq (G_seq (G_region ?_))))
  refine Gm ?_
  refine Gv (V_eql rfl rfl rfl) ?_
  refine Gm ?_
  apply G_joinAnd 3 8 11 rfl
  · intro H1
    dsimp only [List.take]
    simp only [Bool.and_eq_true, Bool.or_eq_true, Bool.not_eq_true', Bool.not_eq_false', Bool.and_eq_false_iff, Bool.or_eq_false_iff, Bool.not_not, decide_eq_true_eq, decide_eq_false_iff_not, ne_eq, Decidable.not_not, Bool.decide_eq_true] at H1
    refine Gy (V_move rfl rfl) ?_
    refine G_callv (k := 126) (.mk rfl rfl rfl rfl) rfl rfl (.yes rfl rfl rfl rfl) (LanguageR_call _ _ _) ?_
    refine Gv (V_pick_t rfl rfl rfl) ?_
    refine G_end ?_
    exact JQ_end 3 rfl rfl (by kernel_rfl)
  · intro H2
    dsimp only [List.take]
    simp only [Bool.and_eq_true, Bool.or_eq_true, Bool.not_eq_true', Bool.not_eq_false', Bool.and_eq_false_iff, Bool.or_eq_false_iff, Bool.not_not, decide_eq_true_eq, decide_eq_false_iff_not, ne_eq, Decidable.not_not, Bool.decide_eq_true] at H2
    refine Gn ?_
    refine Gn ?_
    refine Gv (V_pick_f rfl rfl rfl) ?_
    refine G_end ?_
    exact JQ_end 3 rfl rfl (by kernel_rfl)
  dsimp only [List.drop]
  refine G_end (X_then ?_)
  refine G_cond rfl (fun H3 => ?_) (fun H3 => ?_)
  · simp only [Bool.and_eq_true, Bool.or_eq_true, Bool.not_eq_true', Bool.not_eq_false', Bool.and_eq_false_iff, Bool.or_eq_false_iff, Bool.not_not, decide_eq_true_eq, decide_eq_false_iff_not, ne_eq, Decidable.not_not, Bool.decide_eq_true] at H3
    refine G_region ?_
    refine Ga ?_
    refine G_end (X_then (G_seq (G_region ?_)))
    refine Gm ?_
    refine Ga ?_
    refine G_end (X_then (G_ret ?_))
    refine G_leaveS (.nil _) (by exact (.cons (.tmp rfl) (.nil))) rfl ?_ ?_
    · exact (.refl _)
    exact ⟨(by (simp [resVal, nameE, *]; done)), (by rfl)⟩
  simp only [Bool.and_eq_true, Bool.or_eq_true, Bool.not_eq_true', Bool.not_eq_false', Bool.and_eq_false_iff, Bool.or_eq_false_iff, Bool.not_not, decide_eq_true_eq, decide_eq_false_iff_not, ne_eq, Decidable.not_not, Bool.decide_eq_true] at H3
  refine G_skip (X_then (G_seq (G_region ?_)))
  refine Gm ?_
  refine Ga ?_
  refine G_end (X_then (G_ret ?_))
  refine G_leaveS (.nil _) (by exact (.cons (.tmp rfl) (.nil))) rfl ?_ ?_
  · exact (.refl _)
  exact ⟨(by ((try simp only [resVal, nameE]); (repeat' split) <;> first | rfl | (exfalso; omega) | (simp_all; done) | (simp_all; omega))), (by rfl)⟩
end
theorem nameE_first {s : List UInt8} (h : nameE s = 0) : ∃ c l, s = c :: l ∧ isLet (c.toNat : Int) = true := by
  unfold nameE at h
  split at h
  · rename_i h1
    unfold wordE at h1
    split at h1
    · cases h1
    · rename_i h2
      split at h1
      · cases h1
      · rename_i h3
        cases s with
        | nil => simp at h2
        | cons c l =>
          refine ⟨c, l, rfl, ?_⟩
          simp only [badW, Bool.or_eq_true, not_or, Bool.not_eq_true] at h3
          have := h3.1
          simp only [badAt, decide_true, Bool.true_or, Bool.and_true, Bool.not_eq_false'] at this
          exact this
  · contradiction
section
variable (E : Env) (L : List Res)
theorem Small_call (s : List UInt8) (hs : s.length ≤ 1000000) : CallV Tryz.prog 91 #[.string (S s)] E L (.bool (smallB s)) := by
  refine CallS.toV (CallS.intro (l := [.string (S s)]) _ Tryz.func91 rfl Tryz.ntmps91 rfl ?_)
  by_cases h : nameE s = 0
  · obtain ⟨c, l, rfl, hc⟩ := nameE_first h
    have hx : (c :: l)[Int.toNat 0]? = some c := rfl
    refine G_seq (G_region ?_)
    refine Ga ?_
    refine G_end (X_then (G_seq (G_region ?_)))
    refine Gm ?_
    refine G_callv (k := 112) (.mk rfl rfl rfl rfl) rfl rfl (.none rfl) (NCheck_call _ _ _ (by assumption)) ?_
    refine Gv (V_eql rfl rfl rfl) ?_
    refine Gm ?_
    refine G.bool_t 6 rfl (decide_eq_true (by omega)) ?_
    refine Gy (V_move rfl rfl) ?_
    refine Gy (V_sidx rfl rfl rfl (by omega) (by assumption)) ?_
    refine Gy (V_geq rfl rfl rfl) ?_
    refine Gv (V_pick_t rfl rfl rfl) ?_
    refine Ga ?_
    refine G_end (X_then (G_ret ?_))
    refine G_leaveS (.nil _) (by exact (.cons (.tmp rfl) (.nil))) rfl ?_ ?_
    · exact (.refl _)
    exact ⟨(by (simp [resVal, smallB, *]; done)), (by rfl)⟩
  · refine G_seq ?_
    refine G_region ?_
    refine Ga ?_
    refine G_end (X_then (G_seq (G_region ?_)))
    refine Gm ?_
    refine G_callv (k := 112) (.mk rfl rfl rfl rfl) rfl rfl (.none rfl) (NCheck_call _ _ _ (by assumption)) ?_
    refine Gv (V_eql rfl rfl rfl) ?_
    refine Gm ?_
    refine G.bool_f 6 rfl (decide_eq_false (by omega)) ?_
    refine Gn ?_
    refine Gn ?_
    refine Gn ?_
    refine Gv (V_pick_f rfl rfl rfl) ?_
    refine Ga ?_
    refine G_end (X_then (G_ret ?_))
    refine G_leaveS (.nil _) (by exact (.cons (.tmp rfl) (.nil))) rfl ?_ ?_
    · exact (.refl _)
    exact ⟨(by (simp [resVal, smallB, *]; done)), (by rfl)⟩
theorem SmallR_call (s : List UInt8) (hs : s.length ≤ 1000000) : CallV Tryz.prog 107 #[.string (S s)] E L (.bool (smallB s)) := by
  refine CallS.toV (CallS.intro (l := [.string (S s)]) _ Tryz.func107 rfl Tryz.ntmps107 rfl ?_)
  by_cases h : nameE s = 0
  · obtain ⟨c, l, rfl, hc⟩ := nameE_first h
    have hx : (c :: l)[Int.toNat 0]? = some c := rfl
    simp only [isLet, Bool.or_eq_true, Bool.and_eq_true, decide_eq_true_eq] at hc
    by_cases h1 : (97 : Int) ≤ c.toNat
    · have : smallB (c :: l) = true := by simp [smallB, h]; omega
      rw [this]
      refine G_seq (G_region ?_)
      refine Ga ?_
      refine G_end (X_then (G_seq (G_region ?_)))
      refine Gm ?_
      refine G_callv (k := 120) (.mk rfl rfl rfl rfl) rfl rfl (.none rfl) (NCheckR_call _ _ _ (by assumption)) ?_
      refine Gv (V_eql rfl rfl rfl) ?_
      refine Gm ?_
      refine G.bool_t 6 rfl (decide_eq_true (by omega)) ?_
      refine Gy (V_move rfl rfl) ?_
      refine Gy (V_sidx rfl rfl rfl (by omega) (by assumption)) ?_
      refine Gy (V_geq rfl rfl rfl) ?_
      refine Gv (V_pick_t rfl rfl rfl) ?_
      refine Gm ?_
      refine G.bool_t 11 rfl (decide_eq_true (by omega)) ?_
      refine Gy (V_move rfl rfl) ?_
      refine Gy (V_sidx rfl rfl rfl (by omega) (by assumption)) ?_
      refine Gy (V_leq rfl rfl rfl) ?_
      refine Gv (V_pick_t rfl rfl rfl) ?_
      refine Ga ?_
      refine G_end (X_then (G_ret ?_))
      refine G_leaveS (.nil _) (by exact (.cons (.tmp rfl) (.nil))) rfl ?_ ?_
      · exact (.refl _)
      exact ⟨(by ((try simp only [resVal]); (repeat' split) <;> first | rfl | (exfalso; omega) | (simp_all; done) | (simp_all; omega))), (by rfl)⟩
    · have : smallB (c :: l) = false := by simp [smallB, h]; omega
      rw [this]
      refine G_seq (G_region ?_)
      refine Ga ?_
      refine G_end (X_then (G_seq (G_region ?_)))
      refine Gm ?_
      refine G_callv (k := 120) (.mk rfl rfl rfl rfl) rfl rfl (.none rfl) (NCheckR_call _ _ _ (by assumption)) ?_
      refine Gv (V_eql rfl rfl rfl) ?_
      refine Gm ?_
      refine G.bool_t 6 rfl (decide_eq_true (by omega)) ?_
      refine Gy (V_move rfl rfl) ?_
      refine Gy (V_sidx rfl rfl rfl (by omega) (by assumption)) ?_
      refine Gy (V_geq rfl rfl rfl) ?_
      refine Gv (V_pick_t rfl rfl rfl) ?_
      refine Gm ?_
      refine G.bool_f 11 rfl (decide_eq_false (by omega)) ?_
      refine Gn ?_
      refine Gn ?_
      refine Gn ?_
      refine Gv (V_pick_f rfl rfl rfl) ?_
      refine Ga ?_
      refine G_end (X_then (G_ret ?_))
      refine G_leaveS (.nil _) (by exact (.cons (.tmp rfl) (.nil))) rfl ?_ ?_
      · exact (.refl _)
      exact ⟨(by kernel_rfl), rfl⟩
  · refine G_seq ?_
    refine G_region ?_
    refine Ga ?_
    refine G_end (X_then (G_seq (G_region ?_)))
    refine Gm ?_
    refine G_callv (k := 120) (.mk rfl rfl rfl rfl) rfl rfl (.none rfl) (NCheckR_call _ _ _ (by assumption)) ?_
    refine Gv (V_eql rfl rfl rfl) ?_
    refine Gm ?_
    refine G.bool_f 6 rfl (decide_eq_false (by omega)) ?_
    refine Gn ?_
    refine Gn ?_
    refine Gn ?_
    refine Gv (V_pick_f rfl rfl rfl) ?_
    refine Gm ?_
    refine Gn ?_
    refine Gn ?_
    refine Gn ?_
    refine Gv (V_pick_f rfl rfl rfl) ?_
    refine Ga ?_
    refine G_end (X_then (G_ret ?_))
    refine G_leaveS (.nil _) (by exact (.cons (.tmp rfl) (.nil))) rfl ?_ ?_
    · exact (.refl _)
    exact ⟨(by (simp [resVal, smallB, *]; done)), (by rfl)⟩
theorem Capital_call (s : List UInt8) (hs : s.length ≤ 1000000) : CallV Tryz.prog 92 #[.string (S s)] E L (.bool (capB s)) := by
  refine CallS.toV (CallS.intro (l := [.string (S s)]) _ Tryz.func92 rfl Tryz.ntmps92 rfl ?_)
  by_cases h : nameE s = 0
  · obtain ⟨c, l, rfl, hc⟩ := nameE_first h
    have hx : (c :: l)[Int.toNat 0]? = some c := rfl
    refine G_seq (G_region ?_)
    refine Ga ?_
    refine G_end (X_then (G_seq (G_region ?_)))
    refine Gm ?_
    refine G_callv (k := 112) (.mk rfl rfl rfl rfl) rfl rfl (.none rfl) (NCheck_call _ _ _ (by assumption)) ?_
    refine Gv (V_eql rfl rfl rfl) ?_
    refine Gm ?_
    refine G.bool_t 6 rfl (decide_eq_true (by omega)) ?_
    refine Gy (V_move rfl rfl) ?_
    refine Gy (V_sidx rfl rfl rfl (by omega) (by assumption)) ?_
    refine Gy (V_lss rfl rfl rfl) ?_
    refine Gv (V_pick_t rfl rfl rfl) ?_
    refine Ga ?_
    refine G_end (X_then (G_ret ?_))
    refine G_leaveS (.nil _) (by exact (.cons (.tmp rfl) (.nil))) rfl ?_ ?_
    · exact (.refl _)
    exact ⟨(by (simp [resVal, capB, *]; done)), (by rfl)⟩
  · refine G_seq ?_
    refine G_region ?_
    refine Ga ?_
    refine G_end (X_then (G_seq (G_region ?_)))
    refine Gm ?_
    refine G_callv (k := 112) (.mk rfl rfl rfl rfl) rfl rfl (.none rfl) (NCheck_call _ _ _ (by assumption)) ?_
    refine Gv (V_eql rfl rfl rfl) ?_
    refine Gm ?_
    refine G.bool_f 6 rfl (decide_eq_false (by omega)) ?_
    refine Gn ?_
    refine Gn ?_
    refine Gn ?_
    refine Gv (V_pick_f rfl rfl rfl) ?_
    refine Ga ?_
    refine G_end (X_then (G_ret ?_))
    refine G_leaveS (.nil _) (by exact (.cons (.tmp rfl) (.nil))) rfl ?_ ?_
    · exact (.refl _)
    exact ⟨(by (simp [resVal, capB, *]; done)), (by rfl)⟩
theorem CapitalR_call (s : List UInt8) (hs : s.length ≤ 1000000) : CallV Tryz.prog 106 #[.string (S s)] E L (.bool (capB s)) := by
  refine CallS.toV (CallS.intro (l := [.string (S s)]) _ Tryz.func106 rfl Tryz.ntmps106 rfl ?_)
  by_cases h : nameE s = 0
  · obtain ⟨c, l, rfl, hc⟩ := nameE_first h
    have hx : (c :: l)[Int.toNat 0]? = some c := rfl
    simp only [isLet, Bool.or_eq_true, Bool.and_eq_true, decide_eq_true_eq] at hc
    by_cases h1 : (97 : Int) ≤ c.toNat
    · have : capB (c :: l) = false := by simp [capB, h]; omega
      rw [this]
      refine G_seq (G_region ?_)
      refine Ga ?_
      refine G_end (X_then (G_seq (G_region ?_)))
      refine Gm ?_
      refine G_callv (k := 120) (.mk rfl rfl rfl rfl) rfl rfl (.none rfl) (NCheckR_call _ _ _ (by assumption)) ?_
      refine Gv (V_eql rfl rfl rfl) ?_
      refine Gm ?_
      refine G.bool_t 6 rfl (decide_eq_true (by omega)) ?_
      refine Gy (V_move rfl rfl) ?_
      refine Gy (V_sidx rfl rfl rfl (by omega) (by assumption)) ?_
      refine Gy (V_geq rfl rfl rfl) ?_
      refine Gv (V_pick_t rfl rfl rfl) ?_
      refine Gm ?_
      refine G.bool_t 11 rfl (decide_eq_true (by omega)) ?_
      refine Gy (V_move rfl rfl) ?_
      refine Gy (V_sidx rfl rfl rfl (by omega) (by assumption)) ?_
      refine Gy (V_leq rfl rfl rfl) ?_
      refine Gv (V_pick_t rfl rfl rfl) ?_
      refine Ga ?_
      refine G_end (X_then (G_ret ?_))
      refine G_leaveS (.nil _) (by exact (.cons (.tmp rfl) (.nil))) rfl ?_ ?_
      · exact (.refl _)
      exact ⟨(by ((try simp only [resVal]); (repeat' split) <;> first | rfl | (exfalso; omega) | (simp_all; done) | (simp_all; omega))), (by rfl)⟩
    · have : capB (c :: l) = true := by simp [capB, h]; omega
      rw [this]
      refine G_seq (G_region ?_)
      refine Ga ?_
      refine G_end (X_then (G_seq (G_region ?_)))
      refine Gm ?_
      refine G_callv (k := 120) (.mk rfl rfl rfl rfl) rfl rfl (.none rfl) (NCheckR_call _ _ _ (by assumption)) ?_
      refine Gv (V_eql rfl rfl rfl) ?_
      refine Gm ?_
      refine G.bool_t 6 rfl (decide_eq_true (by omega)) ?_
      refine Gy (V_move rfl rfl) ?_
      refine Gy (V_sidx rfl rfl rfl (by omega) (by assumption)) ?_
      refine Gy (V_geq rfl rfl rfl) ?_
      refine Gv (V_pick_t rfl rfl rfl) ?_
      refine Gm ?_
      refine G.bool_t 11 rfl (decide_eq_true (by omega)) ?_
      refine Gy (V_move rfl rfl) ?_
      refine Gy (V_sidx rfl rfl rfl (by omega) (by assumption)) ?_
      refine Gy (V_leq rfl rfl rfl) ?_
      refine Gv (V_pick_t rfl rfl rfl) ?_
      refine Ga ?_
      refine G_end (X_then (G_ret ?_))
      refine G_leaveS (.nil _) (by exact (.cons (.tmp rfl) (.nil))) rfl ?_ ?_
      · exact (.refl _)
      exact ⟨(by ((try simp only [resVal]); (repeat' split) <;> first | rfl | (exfalso; omega) | (simp_all; done) | (simp_all; omega))), (by rfl)⟩
  · refine G_seq ?_
    refine G_region ?_
    refine Ga ?_
    refine G_end (X_then (G_seq (G_region ?_)))
    refine Gm ?_
    refine G_callv (k := 120) (.mk rfl rfl rfl rfl) rfl rfl (.none rfl) (NCheckR_call _ _ _ (by assumption)) ?_
    refine Gv (V_eql rfl rfl rfl) ?_
    refine Gm ?_
    refine G.bool_f 6 rfl (decide_eq_false (by omega)) ?_
    refine Gn ?_
    refine Gn ?_
    refine Gn ?_
    refine Gv (V_pick_f rfl rfl rfl) ?_
    refine Gm ?_
    refine Gn ?_
    refine Gn ?_
    refine Gn ?_
    refine Gv (V_pick_f rfl rfl rfl) ?_
    refine Ga ?_
    refine G_end (X_then (G_ret ?_))
    refine G_leaveS (.nil _) (by exact (.cons (.tmp rfl) (.nil))) rfl ?_ ?_
    · exact (.refl _)
    exact ⟨(by (simp [resVal, capB, *]; done)), (by rfl)⟩
end
end Go.Proofs.YtimiokmgnclggaaGreat
set_option linter.unusedSimpArgs false
set_option linter.unusedVariables false
set_option maxHeartbeats 2000000
set_option maxRecDepth 20000
namespace Go.Proofs.YtimiokmgnclggaaGreat
open Go.RowKit
/-! Lexemes of a text, as the reference finds them: the classes of bytes, where a text begins. -/
def isBl (c : Int) : Bool := decide (c = 32) || decide (c = 9) || decide (c = 10) || decide (c = 13)
def isSg (c : Int) : Bool := decide (c = 61) || decide (c = 124) || decide (c = 59) || decide (c = 44)
def isWc (c : UInt8) : Bool := isLet c.toNat || isDig c.toNat || decide ((c.toNat : Int) = 95)
def isDg (c : UInt8) : Bool := isDig c.toNat
def isB8 (c : UInt8) : Bool := isBl c.toNat
/-- How many elements a list begins with for which something holds. -/
def wl (p : UInt8 → Bool) (l : List UInt8) : Nat := (l.takeWhile p).length
theorem wl_cons (p : UInt8 → Bool) (c : UInt8) (l : List UInt8) : wl p (c :: l) = if p c = true then wl p l + 1 else 0 := by
  unfold wl
  rw [List.takeWhile_cons]
  split <;> simp
theorem wl_le (p : UInt8 → Bool) (l : List UInt8) : wl p l ≤ l.length := by
  unfold wl
  exact (List.takeWhile_sublist p).length_le
theorem wl_yes (p : UInt8 → Bool) : ∀ (l : List UInt8) (m : Nat), m ≤ wl p l → (h : m < l.length) → p l[m] = true → m < wl p l := by
  intro l
  induction l with
  | nil => intro m _ h; cases h
  | cons c l ih =>
    intro m hm h hp
    rw [wl_cons] at hm ⊢
    cases m with
    | zero =>
      have : p c = true := hp
      rw [if_pos this]
      omega
    | succ m =>
      split at hm
      · rename_i hc
        rw [if_pos hc]
        have := ih m (by omega) (by simpa using h) (by simpa using hp)
        omega
      · omega
theorem wl_no (p : UInt8 → Bool) : ∀ (l : List UInt8) (m : Nat), m ≤ wl p l → (h : m < l.length) → p l[m] = false → m = wl p l := by
  intro l
  induction l with
  | nil => intro m _ h; cases h
  | cons c l ih =>
    intro m hm h hp
    rw [wl_cons] at hm ⊢
    cases m with
    | zero =>
      have : p c = false := hp
      rw [if_neg (by rw [this]; decide)]
    | succ m =>
      split at hm
      · rename_i hc
        rw [if_pos hc]
        have := ih m (by omega) (by simpa using h) (by simpa using hp)
        omega
      · omega
def badNx : Option UInt8 → Bool
  | some d => isLet d.toNat || decide ((d.toNat : Int) = 95)
  | none => false
/-- The lexeme with which a text begins; kind 0 if there is none. -/
def begL : List UInt8 → Int × List UInt8
  | [] => (0, [])
  | c :: r =>
    if isSg c.toNat = true then (3, [c])
    else if isLet c.toNat = true then (1, (c :: r).take (1 + wl isWc r))
    else if isDig c.toNat = true then
      (if (((c.toNat : Int) = 48) ∧ 0 < wl isDg r) ∨ badNx r[wl isDg r]? = true then (0, []) else (2, (c :: r).take (1 + wl isDg r)))
    else (0, [])
section
variable (E : Env) (L : List Res)
theorem blank4_call (c : Int) : CallV Tryz.prog 116 #[.int .u8 c] E L (.bool (isBl c)) := by
  refine CallS.toV (CallS.intro (l := [_]) _ Tryz.func116 rfl Tryz.ntmps116 rfl ?_)
  refine G_seq (G_region ?_)
  refine Ga ?_
  refine G_end (X_then (G_seq (G_region ?_)))
  refine Gm ?_
  refine Gv (V_eql rfl rfl rfl) ?_
  refine Gm ?_
  apply G_joinOr 3 5 8 rfl
  · intro H1
    dsimp only [List.take]
    simp only [Bool.and_eq_true, Bool.or_eq_true, Bool.not_eq_true', Bool.not_eq_false', Bool.and_eq_false_iff, Bool.or_eq_false_iff, Bool.not_not, decide_eq_true_eq, decide_eq_false_iff_not, ne_eq, Decidable.not_not, Bool.decide_eq_true] at H1
    refine Gn ?_
    refine Gn ?_
    refine Gv (V_pick_t rfl rfl rfl) ?_
    refine G_end ?_
    exact JQ_end 3 rfl rfl (by kernel_rfl)
  · intro H2
    dsimp only [List.take]
    simp only [Bool.and_eq_true, Bool.or_eq_true, Bool.not_eq_true', Bool.not_eq_false', Bool.and_eq_false_iff, Bool.or_eq_false_iff, Bool.not_not, decide_eq_true_eq, decide_eq_false_iff_not, ne_eq, Decidable.not_not, Bool.decide_eq_true] at H2
    refine Gy (V_move rfl rfl) ?_
    refine Gy (V_eql rfl rfl rfl) ?_
    refine Gv (V_pick_f rfl rfl rfl) ?_
    refine G_end ?_
    exact JQ_end 3 rfl rfl (by kernel_rfl)
  dsimp only [List.drop]
  refine Gm ?_
  apply G_joinOr 3 9 12 rfl
  · intro H3
    dsimp only [List.take]
    simp only [Bool.and_eq_true, Bool.or_eq_true, Bool.not_eq_true', Bool.not_eq_false', Bool.and_eq_false_iff, Bool.or_eq_false_iff, Bool.not_not, decide_eq_true_eq, decide_eq_false_iff_not, ne_eq, Decidable.not_not, Bool.decide_eq_true] at H3
    refine Gn ?_
    refine Gn ?_
    refine Gv (V_pick_t rfl rfl rfl) ?_
    refine G_end ?_
    exact JQ_end 3 rfl rfl (by kernel_rfl)
  · intro H4
    dsimp only [List.take]
    simp only [Bool.and_eq_true, Bool.or_eq_true, Bool.not_eq_true', Bool.not_eq_false', Bool.and_eq_false_iff, Bool.or_eq_false_iff, Bool.not_not, decide_eq_true_eq, decide_eq_false_iff_not, ne_eq, Decidable.not_not, Bool.decide_eq_true] at H4
    refine Gy (V_move rfl rfl) ?_
    refine Gy (V_eql rfl rfl rfl) ?_
    refine Gv (V_pick_f rfl rfl rfl) ?_
    refine G_end ?_
    exact JQ_end 3 rfl rfl (by kernel_rfl)
  dsimp only [List.drop]
  refine Gm ?_
  apply G_joinOr 3 13 16 rfl
  · intro H5
    dsimp only [List.take]
    simp only [Bool.and_eq_true, Bool.or_eq_true, Bool.not_eq_true', Bool.not_eq_false', Bool.and_eq_false_iff, Bool.or_eq_false_iff, Bool.not_not, decide_eq_true_eq, decide_eq_false_iff_not, ne_eq, Decidable.not_not, Bool.decide_eq_true] at H5
    refine Gn ?_
    refine Gn ?_
    refine Gv (V_pick_t rfl rfl rfl) ?_
    refine G_end ?_
    exact JQ_end 3 rfl rfl (by kernel_rfl)
  · intro H6
    dsimp only [List.take]
    simp only [Bool.and_eq_true, Bool.or_eq_true, Bool.not_eq_true', Bool.not_eq_false', Bool.and_eq_false_iff, Bool.or_eq_false_iff, Bool.not_not, decide_eq_true_eq, decide_eq_false_iff_not, ne_eq, Decidable.not_not, Bool.decide_eq_true] at H6
    refine Gy (V_move rfl rfl) ?_
    refine Gy (V_eql rfl rfl rfl) ?_
    refine Gv (V_pick_f rfl rfl rfl) ?_
    refine G_end ?_
    exact JQ_end 3 rfl rfl (by kernel_rfl)
  dsimp only [List.drop]
  refine Ga ?_
  refine G_end (X_then (G_ret ?_))
  refine G_leaveS (.nil _) (by exact (.cons (.tmp rfl) (.nil))) rfl ?_ ?_
  · exact (.refl _)
  exact ⟨rfl, rfl⟩
theorem sign4_call (c : Int) : CallV Tryz.prog 117 #[.int .u8 c] E L (.bool (isSg c)) := by
  refine CallS.toV (CallS.intro (l := [_]) _ Tryz.func117 rfl Tryz.ntmps117 rfl ?_)
  refine G_seq (G_region ?_)
  refine Ga ?_
  refine G_end (X_then (G_seq (G_region ?_)))
  refine Gm ?_
  refine Gv (V_eql rfl rfl rfl) ?_
  refine Gm ?_
  apply G_joinOr 3 5 8 rfl
  · intro H1
    dsimp only [List.take]
    simp only [Bool.and_eq_true, Bool.or_eq_true, Bool.not_eq_true', Bool.not_eq_false', Bool.and_eq_false_iff, Bool.or_eq_false_iff, Bool.not_not, decide_eq_true_eq, decide_eq_false_iff_not, ne_eq, Decidable.not_not, Bool.decide_eq_true] at H1
    refine Gn ?_
    refine Gn ?_
    refine Gv (V_pick_t rfl rfl rfl) ?_
    refine G_end ?_
    exact JQ_end 3 rfl rfl (by kernel_rfl)
  · intro H2
    dsimp only [List.take]
    simp only [Bool.and_eq_true, Bool.or_eq_true, Bool.not_eq_true', Bool.not_eq_false', Bool.and_eq_false_iff, Bool.or_eq_false_iff, Bool.not_not, decide_eq_true_eq, decide_eq_false_iff_not, ne_eq, Decidable.not_not, Bool.decide_eq_true] at H2
    refine Gy (V_move rfl rfl) ?_
    refine Gy (V_eql rfl rfl rfl) ?_
    refine Gv (V_pick_f rfl rfl rfl) ?_
    refine G_end ?_
    exact JQ_end 3 rfl rfl (by kernel_rfl)
  dsimp only [List.drop]
  refine Gm ?_
  apply G_joinOr 3 9 12 rfl
  · intro H3
    dsimp only [List.take]
    simp only [Bool.and_eq_true, Bool.or_eq_true, Bool.not_eq_true', Bool.not_eq_false', Bool.and_eq_false_iff, Bool.or_eq_false_iff, Bool.not_not, decide_eq_true_eq, decide_eq_false_iff_not, ne_eq, Decidable.not_not, Bool.decide_eq_true] at H3
    refine Gn ?_
    refine Gn ?_
    refine Gv (V_pick_t rfl rfl rfl) ?_
    refine G_end ?_
    exact JQ_end 3 rfl rfl (by kernel_rfl)
  · intro H4
    dsimp only [List.take]
    simp only [Bool.and_eq_true, Bool.or_eq_true, Bool.not_eq_true', Bool.not_eq_false', Bool.and_eq_false_iff, Bool.or_eq_false_iff, Bool.not_not, decide_eq_true_eq, decide_eq_false_iff_not, ne_eq, Decidable.not_not, Bool.decide_eq_true] at H4
    refine Gy (V_move rfl rfl) ?_
    refine Gy (V_eql rfl rfl rfl) ?_
    refine Gv (V_pick_f rfl rfl rfl) ?_
    refine G_end ?_
    exact JQ_end 3 rfl rfl (by kernel_rfl)
  dsimp only [List.drop]
  refine Gm ?_
  apply G_joinOr 3 13 16 rfl
  · intro H5
    dsimp only [List.take]
    simp only [Bool.and_eq_true, Bool.or_eq_true, Bool.not_eq_true', Bool.not_eq_false', Bool.and_eq_false_iff, Bool.or_eq_false_iff, Bool.not_not, decide_eq_true_eq, decide_eq_false_iff_not, ne_eq, Decidable.not_not, Bool.decide_eq_true] at H5
    refine Gn ?_
    refine Gn ?_
    refine Gv (V_pick_t rfl rfl rfl) ?_
    refine G_end ?_
    exact JQ_end 3 rfl rfl (by kernel_rfl)
  · intro H6
    dsimp only [List.take]
    simp only [Bool.and_eq_true, Bool.or_eq_true, Bool.not_eq_true', Bool.not_eq_false', Bool.and_eq_false_iff, Bool.or_eq_false_iff, Bool.not_not, decide_eq_true_eq, decide_eq_false_iff_not, ne_eq, Decidable.not_not, Bool.decide_eq_true] at H6
    refine Gy (V_move rfl rfl) ?_
    refine Gy (V_eql rfl rfl rfl) ?_
    refine Gv (V_pick_f rfl rfl rfl) ?_
    refine G_end ?_
    exact JQ_end 3 rfl rfl (by kernel_rfl)
  dsimp only [List.drop]
  refine Ga ?_
  refine G_end (X_then (G_ret ?_))
  refine G_leaveS (.nil _) (by exact (.cons (.tmp rfl) (.nil))) rfl ?_ ?_
  · exact (.refl _)
  exact ⟨rfl, rfl⟩
theorem letter4_call (c : Int) : CallV Tryz.prog 118 #[.int .u8 c] E L (.bool (isLet c)) := by
  refine CallS.toV (CallS.intro (l := [_]) _ Tryz.func118 rfl Tryz.ntmps118 rfl ?_)
  refine G_seq (G_region ?_)
  refine Ga ?_
  refine G_end (X_then (G_seq (G_region ?_)))
  refine Gm ?_
  refine Gv (V_geq rfl rfl rfl) ?_
  refine Gm ?_
  apply G_joinAnd 3 5 8 rfl
  · intro H1
    dsimp only [List.take]
    simp only [Bool.and_eq_true, Bool.or_eq_true, Bool.not_eq_true', Bool.not_eq_false', Bool.and_eq_false_iff, Bool.or_eq_false_iff, Bool.not_not, decide_eq_true_eq, decide_eq_false_iff_not, ne_eq, Decidable.not_not, Bool.decide_eq_true] at H1
    refine Gy (V_move rfl rfl) ?_
    refine Gy (V_leq rfl rfl rfl) ?_
    refine Gv (V_pick_t rfl rfl rfl) ?_
    refine G_end ?_
    exact JQ_end 3 rfl rfl (by kernel_rfl)
  · intro H2
    dsimp only [List.take]
    simp only [Bool.and_eq_true, Bool.or_eq_true, Bool.not_eq_true', Bool.not_eq_false', Bool.and_eq_false_iff, Bool.or_eq_false_iff, Bool.not_not, decide_eq_true_eq, decide_eq_false_iff_not, ne_eq, Decidable.not_not, Bool.decide_eq_true] at H2
    refine Gn ?_
    refine Gn ?_
    refine Gv (V_pick_f rfl rfl rfl) ?_
    refine G_end ?_
    exact JQ_end 3 rfl rfl (by kernel_rfl)
  dsimp only [List.drop]
  refine Gm ?_
  apply G_joinOr 7 9 16 rfl
  · intro H3
    dsimp only [List.take]
    simp only [Bool.and_eq_true, Bool.or_eq_true, Bool.not_eq_true', Bool.not_eq_false', Bool.and_eq_false_iff, Bool.or_eq_false_iff, Bool.not_not, decide_eq_true_eq, decide_eq_false_iff_not, ne_eq, Decidable.not_not, Bool.decide_eq_true] at H3
    refine Gn ?_
    refine Gn ?_
    refine Gn ?_
    refine G_stay (.un rfl rfl rfl rfl) rfl rfl ?_
    refine G_stay (.un rfl rfl rfl rfl) rfl rfl ?_
    refine Gn ?_
    refine Gv (V_pick_t rfl rfl rfl) ?_
    refine G_end ?_
    exact JQ_end 7 rfl rfl (by kernel_rfl)
  · intro H4
    dsimp only [List.take]
    simp only [Bool.and_eq_true, Bool.or_eq_true, Bool.not_eq_true', Bool.not_eq_false', Bool.and_eq_false_iff, Bool.or_eq_false_iff, Bool.not_not, decide_eq_true_eq, decide_eq_false_iff_not, ne_eq, Decidable.not_not, Bool.decide_eq_true] at H4
    refine Gy (V_move rfl rfl) ?_
    refine Gy (V_geq rfl rfl rfl) ?_
    refine Gy (V_move rfl rfl) ?_
    apply G_joinAnd 3 12 15 rfl
    · intro H5
      dsimp only [List.take]
      simp only [Bool.and_eq_true, Bool.or_eq_true, Bool.not_eq_true', Bool.not_eq_false', Bool.and_eq_false_iff, Bool.or_eq_false_iff, Bool.not_not, decide_eq_true_eq, decide_eq_false_iff_not, ne_eq, Decidable.not_not, Bool.decide_eq_true] at H5
      refine Gy (V_move rfl rfl) ?_
      refine Gy (V_leq rfl rfl rfl) ?_
      refine Gy (V_pick_t rfl rfl rfl) ?_
      refine G_end ?_
      exact JQ_end 3 rfl rfl (by kernel_rfl)
    · intro H6
      dsimp only [List.take]
      simp only [Bool.and_eq_true, Bool.or_eq_true, Bool.not_eq_true', Bool.not_eq_false', Bool.and_eq_false_iff, Bool.or_eq_false_iff, Bool.not_not, decide_eq_true_eq, decide_eq_false_iff_not, ne_eq, Decidable.not_not, Bool.decide_eq_true] at H6
      refine Gn ?_
      refine Gn ?_
      refine Gy (V_pick_f rfl rfl rfl) ?_
      refine G_end ?_
      exact JQ_end 3 rfl rfl (by kernel_rfl)
    dsimp only [List.drop]
    refine Gv (V_pick_f rfl rfl rfl) ?_
    refine G_end ?_
    exact JQ_end 5 rfl rfl (by kernel_rfl)
  dsimp only [List.drop]
  refine Ga ?_
  refine G_end (X_then (G_ret ?_))
  refine G_leaveS (.nil _) (by exact (.cons (.tmp rfl) (.nil))) rfl ?_ ?_
  · exact (.refl _)
  exact ⟨rfl, rfl⟩
theorem digit4_call (c : Int) : CallV Tryz.prog 119 #[.int .u8 c] E L (.bool (isDig c)) := by
  refine CallS.toV (CallS.intro (l := [_]) _ Tryz.func119 rfl Tryz.ntmps119 rfl ?_)
  refine G_seq (G_region ?_)
  refine Ga ?_
  refine G_end (X_then (G_seq (G_region ?_)))
  refine Gm ?_
  refine Gv (V_geq rfl rfl rfl) ?_
  refine Gm ?_
  apply G_joinAnd 3 5 8 rfl
  · intro H1
    dsimp only [List.take]
    simp only [Bool.and_eq_true, Bool.or_eq_true, Bool.not_eq_true', Bool.not_eq_false', Bool.and_eq_false_iff, Bool.or_eq_false_iff, Bool.not_not, decide_eq_true_eq, decide_eq_false_iff_not, ne_eq, Decidable.not_not, Bool.decide_eq_true] at H1
    refine Gy (V_move rfl rfl) ?_
    refine Gy (V_leq rfl rfl rfl) ?_
    refine Gv (V_pick_t rfl rfl rfl) ?_
    refine G_end ?_
    exact JQ_end 3 rfl rfl (by kernel_rfl)
  · intro H2
    dsimp only [List.take]
    simp only [Bool.and_eq_true, Bool.or_eq_true, Bool.not_eq_true', Bool.not_eq_false', Bool.and_eq_false_iff, Bool.or_eq_false_iff, Bool.not_not, decide_eq_true_eq, decide_eq_false_iff_not, ne_eq, Decidable.not_not, Bool.decide_eq_true] at H2
    refine Gn ?_
    refine Gn ?_
    refine Gv (V_pick_f rfl rfl rfl) ?_
    refine G_end ?_
    exact JQ_end 3 rfl rfl (by kernel_rfl)
  dsimp only [List.drop]
  refine Ga ?_
  refine G_end (X_then (G_ret ?_))
  refine G_leaveS (.nil _) (by exact (.cons (.tmp rfl) (.nil))) rfl ?_ ?_
  · exact (.refl _)
  exact ⟨rfl, rfl⟩
theorem begSign_call (c : UInt8) (r : List UInt8) (h : isSg c.toNat = true) (hn : r.length ≤ 1000000) : CallV Tryz.prog 103 #[.string (S (c :: r))] E L (.agg #[.int .i64 3, .string (S [c]), .int .i64 0]) := by
  have hg : (c :: r)[(0 : Int).toNat]? = some c := rfl
  have hlen : (c :: r).length = r.length + 1 := rfl
  refine CallS.toV (CallS.intro (l := [_]) _ Tryz.func103 rfl Tryz.ntmps103 rfl ?_)
  refine G_seq (G_region ?_)
  (refine G_alloc rfl rfl rfl (.none rfl) ?_; intro b2)
  refine G_end (X_then (G_seq (G_region ?_)))
  refine Ga ?_
  refine G_end (X_then (G_seq (G_block (G_seq (G_region ?_)))))
  refine Gm ?_
  refine Gv (V_sidx rfl rfl rfl (by omega) (by assumption)) ?_
  refine G_callv (k := 117) (.mk rfl rfl rfl rfl) rfl rfl (.none rfl) (sign4_call _ _ _) ?_
  refine Ga ?_
  refine G_end (X_then ?_)
  refine G_cond_t rfl (by assumption) ?_
  refine G_seq (G_region ?_)
  refine Gm ?_
  refine Gv (V_front rfl rfl rfl (by omega) (by omega)) ?_
  refine Gv (V_build rfl rfl (by simp [fillV, setLs, setL, Value.cells]; rfl)) ?_
  refine G_storeA rfl rfl rfl rfl (by simp [Value.oneCell']) rfl (.none rfl) (.head _ _ _) rfl ?_
  refine G_end (X_then (G_ret (X_block_ret (X_then_ret ?_))))
  refine G_leaveS (.drop _ (.nil _)) (by exact (.cons (.cellA rfl (Cells.own (.head _)) rfl) (.nil))) rfl ?_ ?_
  · exact (.refl _)
  exact ⟨rfl, rfl⟩
theorem begWord_call (c : UInt8) (r : List UInt8) (h0 : isSg c.toNat = false) (h : isLet c.toNat = true) (hn : r.length ≤ 1000000) : CallV Tryz.prog 103 #[.string (S (c :: r))] E L (.agg #[.int .i64 1, .string (S ((c :: r).take (1 + wl isWc r))), .int .i64 0]) := by
  have hg : (c :: r)[(0 : Int).toNat]? = some c := rfl
  have hlen : (c :: r).length = r.length + 1 := rfl
  have hle := wl_le isWc r
  refine CallS.toV (CallS.intro (l := [_]) _ Tryz.func103 rfl Tryz.ntmps103 rfl ?_)
  refine G_seq (G_region ?_)
  (refine G_alloc rfl rfl rfl (.none rfl) ?_; intro b2)
  refine G_end (X_then (G_seq (G_region ?_)))
  refine Ga ?_
  refine G_end (X_then (G_seq (G_block (G_seq (G_region ?_)))))
  refine Gm ?_
  refine Gv (V_sidx rfl rfl rfl (by omega) (by assumption)) ?_
  refine G_callv (k := 117) (.mk rfl rfl rfl rfl) rfl rfl (.none rfl) (sign4_call _ _ _) ?_
  refine Ga ?_
  refine G_end (X_then ?_)
  refine G_cond_f rfl (by assumption) ?_
  refine G_seq (G_region ?_)
  refine Gm ?_
  refine Gv (V_sidx rfl rfl rfl (by omega) (by assumption)) ?_
  refine G_callv (k := 118) (.mk rfl rfl rfl rfl) rfl rfl (.none rfl) (letter4_call _ _ _) ?_
  refine Ga ?_
  refine G_end (X_then ?_)
  refine G_cond_t rfl (by assumption) ?_
  refine G_seq (G_block ?_)
  refine G_loop (α := Nat) (fun m => [(0, .string (S (c :: r))), (2, .pointer (some ⟨b2, 0, none⟩)), (3, .int .i64 (1 + m : Nat))]) (fun _ => E) (fun _ => .blk b2 (.cells #[.int .i64 0, .string (S []), .int .i64 0] 92 (0, 0)) :: L)
    (fun m => m ≤ wl isWc r) (fun m => r.length - m) 0 (Nat.zero_le _) ⟨rfl, rfl, rfl, trivial⟩ rfl rfl ?_
  intro m hm
  by_cases hlt : m < r.length
  · have hg1 : (c :: r)[((1 + m : Nat) : Int).toNat]? = some r[m] := by
      rw [Int.toNat_natCast, show 1 + m = m + 1 by omega, List.getElem?_cons_succ]
      exact List.getElem?_eq_getElem hlt
    have yes := wl_yes isWc r m hm hlt
    have no := wl_no isWc r m hm hlt
    cases h1 : isLet r[m].toNat with
    | true =>
      have := yes (by simp [isWc, h1])
      refine G_seq (G_seq (G_region ?_))
      refine Gm ?_
      refine Gm ?_
      refine Gv (V_len rfl rfl) ?_
      refine Gv (V_lss rfl rfl rfl) ?_
      refine Gm ?_
      refine G.bool_t 19 rfl (decide_eq_true (by omega)) ?_
      refine Gy (V_move rfl rfl) ?_
      refine Gy (V_move rfl rfl) ?_
      refine Gy (V_sidx rfl rfl rfl (by omega) (by assumption)) ?_
      refine G_callv (k := 118) (.mk rfl rfl rfl rfl) rfl rfl (.yes rfl rfl rfl rfl) (letter4_call _ _ _) ?_
      refine Gy (V_move rfl rfl) ?_
      refine G.bool_t 24 rfl (by assumption) ?_
      refine Gn ?_
      refine Gn ?_
      refine Gn ?_
      refine Gn ?_
      refine Gy (V_pick_t rfl rfl rfl) ?_
      refine Gy (V_move rfl rfl) ?_
      refine Gn ?_
      refine Gn ?_
      refine Gn ?_
      refine Gn ?_
      refine Gy (V_pick_t rfl rfl rfl) ?_
      refine Gv (V_pick_t rfl rfl rfl) ?_
      refine G_end (X_then ?_)
      refine G_cond_t rfl rfl ?_
      refine G_skip (X_then (G_block (G_region ?_)))
      refine Gm ?_
      refine Gv (V_add_i64 rfl rfl rfl (by omega) (by omega)) ?_
      refine Ga ?_
      refine G_end (X_block (X_then ?_))
      exact G_again (m + 1) (by omega) (by omega) ⟨rfl, rfl, rfl, trivial⟩ rfl rfl
    | false =>
      cases h2 : isDig r[m].toNat with
      | true =>
        have := yes (by simp [isWc, h2])
        refine G_seq (G_seq (G_region ?_))
        refine Gm ?_
        refine Gm ?_
        refine Gv (V_len rfl rfl) ?_
        refine Gv (V_lss rfl rfl rfl) ?_
        refine Gm ?_
        refine G.bool_t 19 rfl (decide_eq_true (by omega)) ?_
        refine Gy (V_move rfl rfl) ?_
        refine Gy (V_move rfl rfl) ?_
        refine Gy (V_sidx rfl rfl rfl (by omega) (by assumption)) ?_
        refine G_callv (k := 118) (.mk rfl rfl rfl rfl) rfl rfl (.yes rfl rfl rfl rfl) (letter4_call _ _ _) ?_
        refine Gy (V_move rfl rfl) ?_
        refine G.bool_f 24 rfl (by assumption) ?_
        refine Gy (V_move rfl rfl) ?_
        refine Gy (V_move rfl rfl) ?_
        refine Gy (V_sidx rfl rfl rfl (by omega) (by assumption)) ?_
        refine G_callv (k := 119) (.mk rfl rfl rfl rfl) rfl rfl (.yes rfl rfl rfl rfl) (digit4_call _ _ _) ?_
        refine Gy (V_pick_f rfl rfl rfl) ?_
        refine Gy (V_move rfl rfl) ?_
        refine G.bool_t 30 rfl (by assumption) ?_
        refine Gn ?_
        refine Gn ?_
        refine Gn ?_
        refine Gn ?_
        refine Gy (V_pick_t rfl rfl rfl) ?_
        refine Gv (V_pick_t rfl rfl rfl) ?_
        refine G_end (X_then ?_)
        refine G_cond_t rfl rfl ?_
        refine G_skip (X_then (G_block (G_region ?_)))
        refine Gm ?_
        refine Gv (V_add_i64 rfl rfl rfl (by omega) (by omega)) ?_
        refine Ga ?_
        refine G_end (X_block (X_then ?_))
        exact G_again (m + 1) (by omega) (by omega) ⟨rfl, rfl, rfl, trivial⟩ rfl rfl
      | false =>
        by_cases h3 : (r[m].toNat : Int) = 95
        · have := yes (by simp [isWc, h3])
          refine G_seq (G_seq (G_region ?_))
          refine Gm ?_
          refine Gm ?_
          refine Gv (V_len rfl rfl) ?_
          refine Gv (V_lss rfl rfl rfl) ?_
          refine Gm ?_
          refine G.bool_t 19 rfl (decide_eq_true (by omega)) ?_
          refine Gy (V_move rfl rfl) ?_
          refine Gy (V_move rfl rfl) ?_
          refine Gy (V_sidx rfl rfl rfl (by omega) (by assumption)) ?_
          refine G_callv (k := 118) (.mk rfl rfl rfl rfl) rfl rfl (.yes rfl rfl rfl rfl) (letter4_call _ _ _) ?_
          refine Gy (V_move rfl rfl) ?_
          refine G.bool_f 24 rfl (by assumption) ?_
          refine Gy (V_move rfl rfl) ?_
          refine Gy (V_move rfl rfl) ?_
          refine Gy (V_sidx rfl rfl rfl (by omega) (by assumption)) ?_
          refine G_callv (k := 119) (.mk rfl rfl rfl rfl) rfl rfl (.yes rfl rfl rfl rfl) (digit4_call _ _ _) ?_
          refine Gy (V_pick_f rfl rfl rfl) ?_
          refine Gy (V_move rfl rfl) ?_
          refine G.bool_f 30 rfl (by assumption) ?_
          refine Gy (V_move rfl rfl) ?_
          refine Gy (V_move rfl rfl) ?_
          refine Gy (V_sidx rfl rfl rfl (by omega) (by assumption)) ?_
          refine Gy (V_eql rfl rfl rfl) ?_
          refine Gy (V_pick_f rfl rfl rfl) ?_
          refine Gv (V_pick_t rfl rfl rfl) ?_
          refine G_end (X_then ?_)
          refine G_cond_t rfl (decide_eq_true (by omega)) ?_
          refine G_skip (X_then (G_block (G_region ?_)))
          refine Gm ?_
          refine Gv (V_add_i64 rfl rfl rfl (by omega) (by omega)) ?_
          refine Ga ?_
          refine G_end (X_block (X_then ?_))
          exact G_again (m + 1) (by omega) (by omega) ⟨rfl, rfl, rfl, trivial⟩ rfl rfl
        · have hend := no (by simp [isWc, h1, h2]; omega)
          rw [← hend]
          refine G_seq (G_seq (G_region ?_))
          refine Gm ?_
          refine Gm ?_
          refine Gv (V_len rfl rfl) ?_
          refine Gv (V_lss rfl rfl rfl) ?_
          refine Gm ?_
          refine G.bool_t 19 rfl (decide_eq_true (by omega)) ?_
          refine Gy (V_move rfl rfl) ?_
          refine Gy (V_move rfl rfl) ?_
          refine Gy (V_sidx rfl rfl rfl (by omega) (by assumption)) ?_
          refine G_callv (k := 118) (.mk rfl rfl rfl rfl) rfl rfl (.yes rfl rfl rfl rfl) (letter4_call _ _ _) ?_
          refine Gy (V_move rfl rfl) ?_
          refine G.bool_f 24 rfl (by assumption) ?_
          refine Gy (V_move rfl rfl) ?_
          refine Gy (V_move rfl rfl) ?_
          refine Gy (V_sidx rfl rfl rfl (by omega) (by assumption)) ?_
          refine G_callv (k := 119) (.mk rfl rfl rfl rfl) rfl rfl (.yes rfl rfl rfl rfl) (digit4_call _ _ _) ?_
          refine Gy (V_pick_f rfl rfl rfl) ?_
          refine Gy (V_move rfl rfl) ?_
          refine G.bool_f 30 rfl (by assumption) ?_
          refine Gy (V_move rfl rfl) ?_
          refine Gy (V_move rfl rfl) ?_
          refine Gy (V_sidx rfl rfl rfl (by omega) (by assumption)) ?_
          refine Gy (V_eql rfl rfl rfl) ?_
          refine Gy (V_pick_f rfl rfl rfl) ?_
          refine Gv (V_pick_t rfl rfl rfl) ?_
          refine G_end (X_then ?_)
          refine G_cond_f rfl (decide_eq_false (by omega)) ?_
          refine G_exit (X_then_exit (X_then_exit (X_block_hit (X_then (G_seq (G_region ?_))))))
          refine Gm ?_
          refine Gm ?_
          refine Gv (V_front rfl rfl rfl (by omega) (by omega)) ?_
          refine Gv (V_build rfl rfl (by simp [fillV, setLs, setL, Value.cells]; rfl)) ?_
          refine G_storeA rfl rfl rfl rfl (by simp [Value.oneCell']) rfl (.none rfl) (.head _ _ _) rfl ?_
          refine G_end (X_then (G_ret (X_block_ret (X_then_ret ?_))))
          refine G_leaveS (.drop _ (.nil _)) (by exact (.cons (.cellA rfl (Cells.own (.head _)) rfl) (.nil))) rfl ?_ ?_
          · exact (.refl _)
          exact ⟨rfl, rfl⟩
  · have hend : m = wl isWc r := by omega
    rw [← hend]
    refine G_seq (G_seq (G_region ?_))
    refine Gm ?_
    refine Gm ?_
    refine Gv (V_len rfl rfl) ?_
    refine Gv (V_lss rfl rfl rfl) ?_
    refine Gm ?_
    refine G.bool_f 19 rfl (decide_eq_false (by omega)) ?_
    refine Gn ?_
    refine Gn ?_
    refine Gn ?_
    refine Gn ?_
    refine Gn ?_
    refine G_stay (.un rfl rfl rfl rfl) rfl rfl ?_
    refine G_stay (.un rfl rfl rfl rfl) rfl rfl ?_
    refine G_stay (.un rfl rfl rfl rfl) rfl rfl ?_
    refine G_stay (.un rfl rfl rfl rfl) rfl rfl ?_
    refine Gn ?_
    refine Gn ?_
    refine G_stay (.un rfl rfl rfl rfl) rfl rfl ?_
    refine G_stay (.un rfl rfl rfl rfl) rfl rfl ?_
    refine G_stay (.un rfl rfl rfl rfl) rfl rfl ?_
    refine G_stay (.un rfl rfl rfl rfl) rfl rfl ?_
    refine Gn ?_
    refine Gv (V_pick_f rfl rfl rfl) ?_
    refine G_end (X_then ?_)
    refine G_cond_f rfl rfl ?_
    refine G_exit (X_then_exit (X_then_exit (X_block_hit (X_then (G_seq (G_region ?_))))))
    refine Gm ?_
    refine Gm ?_
    refine Gv (V_front rfl rfl rfl (by omega) (by omega)) ?_
    refine Gv (V_build rfl rfl (by simp [fillV, setLs, setL, Value.cells]; rfl)) ?_
    refine G_storeA rfl rfl rfl rfl (by simp [Value.oneCell']) rfl (.none rfl) (.head _ _ _) rfl ?_
    refine G_end (X_then (G_ret (X_block_ret (X_then_ret ?_))))
    refine G_leaveS (.drop _ (.nil _)) (by exact (.cons (.cellA rfl (Cells.own (.head _)) rfl) (.nil))) rfl ?_ ?_
    · exact (.refl _)
    exact ⟨rfl, rfl⟩
end
end Go.Proofs.YtimiokmgnclggaaGreat
