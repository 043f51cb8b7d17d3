/-
  Rules and contracts, packed: H1, H2, H3, H4, H5, H6, H7.
-/
import Derived.Test.YtaibabmladgldaaGreatDoorQ4
set_option maxHeartbeats 1000000
set_option linter.unusedSimpArgs false
set_option linter.unusedVariables false
set_option maxHeartbeats 2000000
set_option maxRecDepth 20000
namespace Go.Proofs.YtaibabmladgldaaGreatDoor
open Go.RowKit

/-! Grammars as plain data, and how they lie in memory. -/
abbrev Pr := Int × List Int
structure Gr where
  k : Int
  toks : List (List UInt8)
  sep : List UInt8
  names : List (List UInt8)
  start : Int
  prods : List Pr
/-- A production, where its right side lies. -/
abbrev Row := Option Addr × Nat × Pr
def prow (x : Row) : List Value := [.int .i64 x.2.2.1, .slice x.1 x.2.2.2.length x.2.1]
def prows (rows : List Row) : List Value := rows.flatMap prow
theorem prows_len (rows : List Row) : (prows rows).length = rows.length * 2 := by
  induction rows with
  | nil => rfl
  | cons x l ih => simp only [prows, List.flatMap_cons, List.length_append, prow, List.length_cons, List.length_nil] at *; omega
theorem prows_append (a b : List Row) : prows (a ++ b) = prows a ++ prows b := List.flatMap_append
theorem prows_drop (l : List Row) (k : Nat) : (prows l).drop (k * 2) = prows (l.drop k) := by
  induction l generalizing k with
  | nil => simp [prows]
  | cons t l ih =>
    cases k with
    | zero => simp
    | succ k =>
      have e : (k + 1) * 2 = k * 2 + 2 := by omega
      rw [e]
      show (prow t ++ prows l).drop (k * 2 + 2) = _
      rw [Nat.add_comm, ← List.drop_drop]
      simpa [prow] using ih k
theorem prows_get {l : List Row} {k : Nat} {x : Row} (h : l[k]? = some x) : ((prows l).drop (k * 2)).take 2 = [.int .i64 x.2.2.1, .slice x.1 x.2.2.2.length x.2.1] := by
  rw [prows_drop, List.drop_eq_getElem_cons (List.getElem?_eq_some_iff.1 h).1]
  have := (List.getElem?_eq_some_iff.1 h).2
  rw [this]
  simp [prows, prow]
theorem prows_left {l : List Row} {k : Nat} {x : Row} (h : l[k]? = some x) : (prows l)[k * 2]? = some (.int .i64 x.2.2.1) := by
  have := prows_get h
  have h2 : (((prows l).drop (k * 2)).take 2)[0]? = some (.int .i64 x.2.2.1) := by rw [this]; rfl
  simpa [List.getElem?_take, List.getElem?_drop] using h2
theorem prows_right {l : List Row} {k : Nat} {x : Row} (h : l[k]? = some x) : (prows l)[k * 2 + 1]? = some (.slice x.1 x.2.2.2.length x.2.1) := by
  have := prows_get h
  have h2 : (((prows l).drop (k * 2)).take 2)[1]? = some (.slice x.1 x.2.2.2.length x.2.1) := by rw [this]; rfl
  simpa [List.getElem?_take, List.getElem?_drop] using h2
/-- The right sides of the rows lie in E. -/
def RowsE (E : Env) (rows : List Row) : Prop := ∀ r, r ∈ rows → SlE E 1 r.1 r.2.2.2.length (i64s r.2.2.2) ∧ r.2.2.2.length ≤ r.2.1
theorem RowsE.mono {E E' : Env} {rows : List Row} (h : RowsE E rows) (hE : E.Le E') : RowsE E' rows := fun r hr => ⟨(h r hr).1.mono hE, (h r hr).2⟩
theorem RowsE.get {E : Env} {rows : List Row} (h : RowsE E rows) {k : Nat} {x : Row} (hx : rows[k]? = some x) : SlE E 1 x.1 x.2.2.2.length (i64s x.2.2.2) := (h x (List.mem_of_getElem? hx)).1
theorem RowsE.cap {E : Env} {rows : List Row} (h : RowsE E rows) {k : Nat} {x : Row} (hx : rows[k]? = some x) : x.2.2.2.length ≤ x.2.1 := (h x (List.mem_of_getElem? hx)).2
def PsE (E : Env) (a : Option Addr) (n : Nat) (ps : List Pr) : Prop := ∃ rows : List Row, rows.map (·.2.2) = ps ∧ SlE E 2 a n (prows rows) ∧ RowsE E rows
theorem PsE.mono {E E' : Env} {a : Option Addr} {n : Nat} {ps : List Pr} (h : PsE E a n ps) (hE : E.Le E') : PsE E' a n ps := by
  obtain ⟨rows, h1, h2, h3⟩ := h
  exact ⟨rows, h1, h2.mono hE, h3.mono hE⟩
theorem SlE.nR {E : Env} {a : Option Addr} {n : Nat} {rows : List Row} (h : SlE E 2 a n (prows rows)) : n = rows.length := by have := h.1; rw [prows_len] at this; omega
theorem PsE.len {E : Env} {a : Option Addr} {n : Nat} {ps : List Pr} (h : PsE E a n ps) : n = ps.length := by
  obtain ⟨rows, rfl, h2, _⟩ := h
  rw [List.length_map]; exact h2.nR
/-- A grammar as a value. -/
def GrE (E : Env) (v : Value) (g : Gr) : Prop := ∃ tp tc np nc pp pc, v = .agg #[.int .i64 g.k, .slice tp g.toks.length tc, .string (S g.sep), .slice np g.names.length nc, .int .i64 g.start, .slice pp g.prods.length pc] ∧
  SlE E 1 tp g.toks.length (strs g.toks) ∧ SlE E 1 np g.names.length (strs g.names) ∧ PsE E pp g.prods.length g.prods ∧ g.toks.length ≤ tc ∧ g.names.length ≤ nc ∧ g.prods.length ≤ pc
theorem GrE.mono {E E' : Env} {v : Value} {g : Gr} (h : GrE E v g) (hE : E.Le E') : GrE E' v g := by
  obtain ⟨tp, tc, np, nc, pp, pc, h0, h1, h2, h3, h4⟩ := h
  exact ⟨tp, tc, np, nc, pp, pc, h0, h1.mono hE, h2.mono hE, h3.mono hE, h4⟩
theorem GrE.mk {E : Env} {g : Gr} {tp np pp : Option Addr} {tc nc pc : Nat} (h1 : SlE E 1 tp g.toks.length (strs g.toks)) (h2 : SlE E 1 np g.names.length (strs g.names)) (h3 : PsE E pp g.prods.length g.prods) (h4 : g.toks.length ≤ tc) (h5 : g.names.length ≤ nc) (h6 : g.prods.length ≤ pc) :
    GrE E (.agg #[.int .i64 g.k, .slice tp g.toks.length tc, .string (S g.sep), .slice np g.names.length nc, .int .i64 g.start, .slice pp g.prods.length pc]) g := ⟨tp, tc, np, nc, pp, pc, rfl, h1, h2, h3, h4, h5, h6⟩
/-- A light grammar. -/
structure Light (g : Gr) : Prop where
  t : g.toks.length ≤ 10
  n : g.names.length ≤ 10
  p : g.prods.length ≤ 30
  sep : g.sep.length ≤ 40
  ts : ∀ s, s ∈ g.toks → s.length ≤ 40
  ns : ∀ s, s ∈ g.names → s.length ≤ 40
  ps : ∀ p, p ∈ g.prods → p.2.length ≤ 8
def lightB (g : Gr) : Bool := decide (g.toks.length ≤ 10) && decide (g.names.length ≤ 10) && decide (g.prods.length ≤ 30) && decide (g.sep.length ≤ 40) && g.toks.all (fun s => decide (s.length ≤ 40)) && g.names.all (fun s => decide (s.length ≤ 40)) && g.prods.all (fun p => decide (p.2.length ≤ 8))
theorem lightB_iff {g : Gr} : lightB g = true ↔ Light g := by
  simp only [lightB, Bool.and_eq_true, decide_eq_true_eq, List.all_eq_true]
  exact ⟨fun ⟨⟨⟨⟨⟨⟨h1, h2⟩, h3⟩, h4⟩, h5⟩, h6⟩, h7⟩ => ⟨h1, h2, h3, h4, h5, h6, h7⟩, fun ⟨h1, h2, h3, h4, h5, h6, h7⟩ => ⟨⟨⟨⟨⟨⟨h1, h2⟩, h3⟩, h4⟩, h5⟩, h6⟩, h7⟩⟩
end Go.Proofs.YtaibabmladgldaaGreatDoor
set_option linter.unusedSimpArgs false
set_option linter.unusedVariables false
set_option maxHeartbeats 2000000
set_option maxRecDepth 20000
namespace Go.Proofs.YtaibabmladgldaaGreatDoor
open Go.RowKit

/-! Words and names. -/
def isLet (c : Int) : Bool := (decide (c ≥ 97) && decide (c ≤ 122)) || (decide (c ≥ 65) && decide (c ≤ 90))
def isDig (c : Int) : Bool := decide (c ≥ 48) && decide (c ≤ 57)
def badAt (i : Nat) (c : Int) : Bool := !isLet c && (decide (i = 0) || (!isDig c && decide (c ≠ 95)))
def badW : Nat → List UInt8 → Bool
  | _, [] => false
  | i, c :: l => badAt i (c.toNat : Int) || badW (i + 1) l
def wordE (s : List UInt8) : Int := if s.length = 0 then 5 else if badW 0 s = true then 3 else if 12 < s.length then 4 else 0
def langW : List (List UInt8) := [[108, 111, 111, 107, 97, 104, 101, 97, 100], [116, 111, 107, 101, 110], [115, 101, 112, 97, 114, 97, 116, 111, 114], [115, 116, 97, 114, 116]]
def langB (s : List UInt8) : Bool := decide (s ∈ langW)
def nameE (s : List UInt8) : Int := if wordE s = 0 then (if langB s = true then 12 else 0) else wordE s
def smallB (s : List UInt8) : Bool := decide (nameE s = 0) && decide (97 ≤ ((s.getD 0 0).toNat : Int))
def capB (s : List UInt8) : Bool := decide (nameE s = 0) && decide (((s.getD 0 0).toNat : Int) < 97)
theorem badW_of (s : List UInt8) : ∀ (j k : Nat), (h : k < s.length) → badAt (j + k) (s[k].toNat : Int) = true → badW j s = true := by
  induction s with
  | nil => intro j k h; cases h
  | cons c l ih =>
    intro j k hk h
    simp only [badW, Bool.or_eq_true]
    cases k with
    | zero => exact .inl h
    | succ k => exact .inr (ih (j + 1) k (by simpa using hk) (by rw [show j + 1 + k = j + (k + 1) by omega]; exact h))
theorem badW_all (s : List UInt8) : ∀ (j : Nat), (∀ k, (h : k < s.length) → badAt (j + k) (s[k].toNat : Int) = false) → badW j s = false := by
  induction s with
  | nil => intro j _; rfl
  | cons c l ih =>
    intro j h
    simp only [badW, Bool.or_eq_false_iff]
    exact ⟨h 0 (by simp), ih (j + 1) fun k hk => by have := h (k + 1) (by simpa using hk); rw [show j + 1 + k = j + (k + 1) by omega]; exact this⟩

section
variable (E : Env) (L : List Res)
theorem letter_call (c : Int) : CallV Tryz.prog 109 #[.int .i32 c] E L (.bool (isLet c)) := by
  refine CallS.toV (CallS.intro (l := [.int .i32 c]) _ Tryz.func109 rfl Tryz.ntmps109 rfl ?_)
  refine G_seq (G_region ?_)
  refine Ga ?_
  refine G_end (X_then (G_seq (G_region ?_)))
  refine Gm ?_
  refine Gv (V_geq rfl rfl rfl) ?_
  refine Gm ?_
  apply G_joinAnd 3 5 8 rfl
  · intro H1
    dsimp only [List.take]
    simp only [Bool.and_eq_true, Bool.or_eq_true, Bool.not_eq_true', Bool.not_eq_false', Bool.and_eq_false_iff, Bool.or_eq_false_iff, Bool.not_not, decide_eq_true_eq, decide_eq_false_iff_not, ne_eq, Decidable.not_not, Bool.decide_eq_true] at H1
    refine Gy (V_move rfl rfl) ?_
    refine Gy (V_leq rfl rfl rfl) ?_
    refine Gv (V_pick_t rfl rfl rfl) ?_
    refine G_end ?_
    exact JQ_end 3 rfl rfl (by kernel_rfl)
  · intro H2
    dsimp only [List.take]
    simp only [Bool.and_eq_true, Bool.or_eq_true, Bool.not_eq_true', Bool.not_eq_false', Bool.and_eq_false_iff, Bool.or_eq_false_iff, Bool.not_not, decide_eq_true_eq, decide_eq_false_iff_not, ne_eq, Decidable.not_not, Bool.decide_eq_true] at H2
    refine Gn ?_
    refine Gn ?_
    refine Gv (V_pick_f rfl rfl rfl) ?_
    refine G_end ?_
    exact JQ_end 3 rfl rfl (by kernel_rfl)
  dsimp only [List.drop]
  refine Gm ?_
  apply G_joinOr 7 9 16 rfl
  · intro H3
    dsimp only [List.take]
    simp only [Bool.and_eq_true, Bool.or_eq_true, Bool.not_eq_true', Bool.not_eq_false', Bool.and_eq_false_iff, Bool.or_eq_false_iff, Bool.not_not, decide_eq_true_eq, decide_eq_false_iff_not, ne_eq, Decidable.not_not, Bool.decide_eq_true] at H3
    refine Gn ?_
    refine Gn ?_
    refine Gn ?_
    refine G_stay (.un rfl rfl rfl rfl) rfl rfl ?_
    refine G_stay (.un rfl rfl rfl rfl) rfl rfl ?_
    refine Gn ?_
    refine Gv (V_pick_t rfl rfl rfl) ?_
    refine G_end ?_
    exact JQ_end 7 rfl rfl (by kernel_rfl)
  · intro H4
    dsimp only [List.take]
    simp only [Bool.and_eq_true, Bool.or_eq_true, Bool.not_eq_true', Bool.not_eq_false', Bool.and_eq_false_iff, Bool.or_eq_false_iff, Bool.not_not, decide_eq_true_eq, decide_eq_false_iff_not, ne_eq, Decidable.not_not, Bool.decide_eq_true] at H4
    refine Gy (V_move rfl rfl) ?_
    refine Gy (V_geq rfl rfl rfl) ?_
    refine Gy (V_move rfl rfl) ?_
    apply G_joinAnd 3 12 15 rfl
    · intro H5
      dsimp only [List.take]
      simp only [Bool.and_eq_true, Bool.or_eq_true, Bool.not_eq_true', Bool.not_eq_false', Bool.and_eq_false_iff, Bool.or_eq_false_iff, Bool.not_not, decide_eq_true_eq, decide_eq_false_iff_not, ne_eq, Decidable.not_not, Bool.decide_eq_true] at H5
      refine Gy (V_move rfl rfl) ?_
      refine Gy (V_leq rfl rfl rfl) ?_
      refine Gy (V_pick_t rfl rfl rfl) ?_
      refine G_end ?_
      exact JQ_end 3 rfl rfl (by kernel_rfl)
    · intro H6
      dsimp only [List.take]
      simp only [Bool.and_eq_true, Bool.or_eq_true, Bool.not_eq_true', Bool.not_eq_false', Bool.and_eq_false_iff, Bool.or_eq_false_iff, Bool.not_not, decide_eq_true_eq, decide_eq_false_iff_not, ne_eq, Decidable.not_not, Bool.decide_eq_true] at H6
      refine Gn ?_
      refine Gn ?_
      refine Gy (V_pick_f rfl rfl rfl) ?_
      refine G_end ?_
      exact JQ_end 3 rfl rfl (by kernel_rfl)
    dsimp only [List.drop]
    refine Gv (V_pick_f rfl rfl rfl) ?_
    refine G_end ?_
    exact JQ_end 5 rfl rfl (by kernel_rfl)
  dsimp only [List.drop]
  refine Ga ?_
  refine G_end (X_then (G_ret ?_))
  refine G_leaveS (.nil _) (by exact (.cons (.tmp rfl) (.nil))) rfl ?_ ?_
  · exact (.refl _)
  exact ⟨rfl, rfl⟩
theorem digit_call (c : Int) : CallV Tryz.prog 110 #[.int .i32 c] E L (.bool (isDig c)) := by
  refine CallS.toV (CallS.intro (l := [.int .i32 c]) _ Tryz.func110 rfl Tryz.ntmps110 rfl ?_)
  refine G_seq (G_region ?_)
  refine Ga ?_
  refine G_end (X_then (G_seq (G_region ?_)))
  refine Gm ?_
  refine Gv (V_geq rfl rfl rfl) ?_
  refine Gm ?_
  apply G_joinAnd 3 5 8 rfl
  · intro H1
    dsimp only [List.take]
    simp only [Bool.and_eq_true, Bool.or_eq_true, Bool.not_eq_true', Bool.not_eq_false', Bool.and_eq_false_iff, Bool.or_eq_false_iff, Bool.not_not, decide_eq_true_eq, decide_eq_false_iff_not, ne_eq, Decidable.not_not, Bool.decide_eq_true] at H1
    refine Gy (V_move rfl rfl) ?_
    refine Gy (V_leq rfl rfl rfl) ?_
    refine Gv (V_pick_t rfl rfl rfl) ?_
    refine G_end ?_
    exact JQ_end 3 rfl rfl (by kernel_rfl)
  · intro H2
    dsimp only [List.take]
    simp only [Bool.and_eq_true, Bool.or_eq_true, Bool.not_eq_true', Bool.not_eq_false', Bool.and_eq_false_iff, Bool.or_eq_false_iff, Bool.not_not, decide_eq_true_eq, decide_eq_false_iff_not, ne_eq, Decidable.not_not, Bool.decide_eq_true] at H2
    refine Gn ?_
    refine Gn ?_
    refine Gv (V_pick_f rfl rfl rfl) ?_
    refine G_end ?_
    exact JQ_end 3 rfl rfl (by kernel_rfl)
  dsimp only [List.drop]
  refine Ga ?_
  refine G_end (X_then (G_ret ?_))
  refine G_leaveS (.nil _) (by exact (.cons (.tmp rfl) (.nil))) rfl ?_ ?_
  · exact (.refl _)
  exact ⟨rfl, rfl⟩
theorem Word_call (s : List UInt8) (hs : s.length ≤ 1000000) : CallV Tryz.prog 100 #[.string (S s)] E L (.int .i64 (wordE s)) := by
  refine CallS.toV (CallS.intro (l := [.string (S s)]) _ Tryz.func100 rfl Tryz.ntmps100 rfl ?_)
  cases s with
  | nil => refine G_seq ?_
           refine G_region ?_
           refine Ga ?_
           refine G_end (X_then (G_seq (G_seq (G_region ?_))))
           refine Gm ?_
           refine Gv (V_seql rfl rfl rfl) ?_
           refine G_end (X_then ?_)
           refine G_cond_t rfl (by kernel_rfl) ?_
           refine G_seq (G_region ?_)
           refine Ga ?_
           refine G_end (X_then (G_ret (X_then_ret ?_)))
           refine G_leaveS (.nil _) (by exact (.cons (.tmp rfl) (.nil))) rfl ?_ ?_
           · exact (.refl _)
           exact ⟨(by kernel_rfl), rfl⟩
  | cons c0 l0 =>
    obtain ⟨s, hs0⟩ : ∃ s, c0 :: l0 = s := ⟨_, rfl⟩
    have hne : 0 < s.length := by rw [← hs0]; simp
    have hne2 : s ≠ [] := by rw [← hs0]; simp
    rw [hs0] at hs ⊢
    refine G_seq (G_region ?_)
    refine Ga ?_
    refine G_end (X_then (G_seq (G_seq (G_region ?_))))
    refine Gm ?_
    refine Gv (V_seql rfl rfl rfl) ?_
    refine G_end (X_then ?_)
    refine G_cond_f rfl (decide_eq_false (by omega)) ?_
    refine G_skip (X_then (G_seq (G_seq (G_region ?_))))
    refine Gm ?_
    (refine G_rangeStr rfl rfl rfl rfl (.none rfl) ?_; intro b8)
    refine G_end (X_then (G_block ?_))
    refine G_loop (α := Nat) (fun _ => [(0, .string (S s)), (8, .pointer (some ⟨b8, 0, none⟩))]) (fun _ => E) (fun i => .blk b8 (.stringIter (S s) i) :: L)
      (fun i => i ≤ s.length ∧ ∀ k, k < i → (h : k < s.length) → badAt k (s[k].toNat : Int) = false) (fun i => s.length - i) 0 ⟨Nat.zero_le _, fun k hk => by omega⟩ ⟨rfl, rfl, trivial⟩ rfl rfl ?_
    rintro i ⟨hi, hall⟩
    by_cases hlt : i < s.length
    · refine G_seq ?_
      refine G_region ?_
      refine G_nextStr rfl rfl hlt rfl rfl (.none rfl) (fun _ => .head _ _ _) ?_ ?_
      · intro hasc
        obtain ⟨c, hc⟩ : ∃ c : Int, (s[i].toNat : Int) = c := ⟨_, rfl⟩
        have hbad : badAt (0 + i) (s[i].toNat : Int) = true → wordE s = 3 := fun h => by
          have := badW_of s 0 i hlt h
          rw [wordE, if_neg (by omega), if_pos this]
        rw [Nat.zero_add] at hbad
        rw [hc] at hbad ⊢
        cases hlet : isLet c with
        | true =>
          refine Gv (V_extract rfl rfl rfl) ?_
          refine G_end (X_then (G_seq ?_))
          refine G_cond_t rfl rfl ?_
          refine G_skip (X_then (G_block (G_seq (G_region ?_))))
          refine Gv (V_extract rfl rfl rfl) ?_
          refine Gv (V_extract rfl rfl rfl) ?_
          refine Ga ?_
          refine Ga ?_
          refine G_end (X_then (G_seq (G_region ?_)))
          refine Gm ?_
          refine G_callv (k := 109) (.mk rfl rfl rfl rfl) rfl rfl (.none rfl) (letter_call _ _ _) ?_
          refine Gv (V_not rfl rfl) ?_
          refine Gm ?_
          refine G.bool_f 16 rfl (by simp [*]; done) ?_
          refine Gn ?_
          refine Gn ?_
          refine Gn ?_
          refine G_stay (.un rfl rfl rfl rfl) rfl rfl ?_
          refine G_stay (.un rfl rfl rfl rfl) rfl rfl ?_
          refine G_stay (.un rfl rfl rfl rfl) rfl rfl ?_
          refine G_stay (.un rfl rfl rfl rfl) rfl rfl ?_
          refine G_stay (.un rfl rfl rfl rfl) rfl rfl ?_
          refine G_stay (.un rfl rfl rfl rfl) rfl rfl ?_
          refine G_stay (.un rfl rfl rfl rfl) rfl rfl ?_
          refine Gn ?_
          refine Gv (V_pick_f rfl rfl rfl) ?_
          refine G_end (X_then ?_)
          refine G_cond_f rfl rfl ?_
          refine G_skip (X_block (X_then ?_))
          refine G_again (i + 1) ⟨hlt, ?_⟩ (by omega) ⟨rfl, rfl, trivial⟩ rfl rfl
          intro k hk h
          by_cases hki : k = i
          · subst hki; rw [hc, badAt, hlet]; rfl
          · exact hall k (by omega) h
        | false =>
          cases hdig : isDig c with
          | true =>
            by_cases h0 : i = 0
            · rw [hbad (by rw [badAt, hlet, hdig]; simp [h0])]
              refine Gv (V_extract rfl rfl rfl) ?_
              refine G_end (X_then (G_seq ?_))
              refine G_cond_t rfl rfl ?_
              refine G_skip (X_then (G_block (G_seq (G_region ?_))))
              refine Gv (V_extract rfl rfl rfl) ?_
              refine Gv (V_extract rfl rfl rfl) ?_
              refine Ga ?_
              refine Ga ?_
              refine G_end (X_then (G_seq (G_region ?_)))
              refine Gm ?_
              refine G_callv (k := 109) (.mk rfl rfl rfl rfl) rfl rfl (.none rfl) (letter_call _ _ _) ?_
              refine Gv (V_not rfl rfl) ?_
              refine Gm ?_
              refine G.bool_t 16 rfl (by simp [*]; done) ?_
              refine Gy (V_move rfl rfl) ?_
              refine Gy (V_eql rfl rfl rfl) ?_
              refine Gy (V_move rfl rfl) ?_
              refine G.bool_t 19 rfl (decide_eq_true (by omega)) ?_
              refine Gn ?_
              refine Gn ?_
              refine Gn ?_
              refine Gn ?_
              refine G_stay (.un rfl rfl rfl rfl) rfl rfl ?_
              refine G_stay (.un rfl rfl rfl rfl) rfl rfl ?_
              refine Gn ?_
              refine Gy (V_pick_t rfl rfl rfl) ?_
              refine Gv (V_pick_t rfl rfl rfl) ?_
              refine G_end (X_then ?_)
              refine G_cond_t rfl rfl ?_
              refine G_seq (G_region ?_)
              refine Ga ?_
              refine G_end (X_then (G_ret (X_block_ret (X_then_ret (X_block_ret (X_then_ret ?_))))))
              refine G_leaveS (.drop _ (.nil _)) (by exact (.cons (.tmp rfl) (.nil))) rfl ?_ ?_
              · exact (.refl _)
              exact ⟨(by kernel_rfl), rfl⟩
            · refine Gv (V_extract rfl rfl rfl) ?_
              refine G_end (X_then (G_seq ?_))
              refine G_cond_t rfl rfl ?_
              refine G_skip (X_then (G_block (G_seq (G_region ?_))))
              refine Gv (V_extract rfl rfl rfl) ?_
              refine Gv (V_extract rfl rfl rfl) ?_
              refine Ga ?_
              refine Ga ?_
              refine G_end (X_then (G_seq (G_region ?_)))
              refine Gm ?_
              refine G_callv (k := 109) (.mk rfl rfl rfl rfl) rfl rfl (.none rfl) (letter_call _ _ _) ?_
              refine Gv (V_not rfl rfl) ?_
              refine Gm ?_
              refine G.bool_t 16 rfl (by simp [*]; done) ?_
              refine Gy (V_move rfl rfl) ?_
              refine Gy (V_eql rfl rfl rfl) ?_
              refine Gy (V_move rfl rfl) ?_
              refine G.bool_f 19 rfl (decide_eq_false (by omega)) ?_
              refine Gy (V_move rfl rfl) ?_
              refine G_callv (k := 110) (.mk rfl rfl rfl rfl) rfl rfl (.yes rfl rfl rfl rfl) (digit_call _ _ _) ?_
              refine Gy (V_not rfl rfl) ?_
              refine Gy (V_move rfl rfl) ?_
              refine G.bool_f 23 rfl (by simp [*]; done) ?_
              refine Gn ?_
              refine Gn ?_
              refine Gy (V_pick_f rfl rfl rfl) ?_
              refine Gy (V_pick_f rfl rfl rfl) ?_
              refine Gv (V_pick_t rfl rfl rfl) ?_
              refine G_end (X_then ?_)
              refine G_cond_f rfl rfl ?_
              refine G_skip (X_block (X_then ?_))
              refine G_again (i + 1) ⟨hlt, ?_⟩ (by omega) ⟨rfl, rfl, trivial⟩ rfl rfl
              intro k hk h
              by_cases hki : k = i
              · subst hki; rw [hc, badAt, hlet, hdig]; simp [h0]
              · exact hall k (by omega) h
          | false =>
            by_cases h0 : i = 0
            · rw [hbad (by rw [badAt, hlet, hdig]; simp [h0])]
              refine Gv (V_extract rfl rfl rfl) ?_
              refine G_end (X_then (G_seq ?_))
              refine G_cond_t rfl rfl ?_
              refine G_skip (X_then (G_block (G_seq (G_region ?_))))
              refine Gv (V_extract rfl rfl rfl) ?_
              refine Gv (V_extract rfl rfl rfl) ?_
              refine Ga ?_
              refine Ga ?_
              refine G_end (X_then (G_seq (G_region ?_)))
              refine Gm ?_
              refine G_callv (k := 109) (.mk rfl rfl rfl rfl) rfl rfl (.none rfl) (letter_call _ _ _) ?_
              refine Gv (V_not rfl rfl) ?_
              refine Gm ?_
              refine G.bool_t 16 rfl (by simp [*]; done) ?_
              refine Gy (V_move rfl rfl) ?_
              refine Gy (V_eql rfl rfl rfl) ?_
              refine Gy (V_move rfl rfl) ?_
              refine G.bool_t 19 rfl (decide_eq_true (by omega)) ?_
              refine Gn ?_
              refine Gn ?_
              refine Gn ?_
              refine Gn ?_
              refine G_stay (.un rfl rfl rfl rfl) rfl rfl ?_
              refine G_stay (.un rfl rfl rfl rfl) rfl rfl ?_
              refine Gn ?_
              refine Gy (V_pick_t rfl rfl rfl) ?_
              refine Gv (V_pick_t rfl rfl rfl) ?_
              refine G_end (X_then ?_)
              refine G_cond_t rfl rfl ?_
              refine G_seq (G_region ?_)
              refine Ga ?_
              refine G_end (X_then (G_ret (X_block_ret (X_then_ret (X_block_ret (X_then_ret ?_))))))
              refine G_leaveS (.drop _ (.nil _)) (by exact (.cons (.tmp rfl) (.nil))) rfl ?_ ?_
              · exact (.refl _)
              exact ⟨(by kernel_rfl), rfl⟩
            · by_cases h95 : c = 95
              · refine Gv (V_extract rfl rfl rfl) ?_
                refine G_end (X_then (G_seq ?_))
                refine G_cond_t rfl rfl ?_
                refine G_skip (X_then (G_block (G_seq (G_region ?_))))
                refine Gv (V_extract rfl rfl rfl) ?_
                refine Gv (V_extract rfl rfl rfl) ?_
                refine Ga ?_
                refine Ga ?_
                refine G_end (X_then (G_seq (G_region ?_)))
                refine Gm ?_
                refine G_callv (k := 109) (.mk rfl rfl rfl rfl) rfl rfl (.none rfl) (letter_call _ _ _) ?_
                refine Gv (V_not rfl rfl) ?_
                refine Gm ?_
                apply G_joinAnd 12 16 28 rfl
                · intro H1
                  dsimp only [List.take]
                  simp only [Bool.and_eq_true, Bool.or_eq_true, Bool.not_eq_true', Bool.not_eq_false', Bool.and_eq_false_iff, Bool.or_eq_false_iff, Bool.not_not, decide_eq_true_eq, decide_eq_false_iff_not, ne_eq, Decidable.not_not, Bool.decide_eq_true] at H1
                  refine Gy (V_move rfl rfl) ?_
                  refine Gy (V_eql rfl rfl rfl) ?_
                  refine Gy (V_move rfl rfl) ?_
                  refine G.bool_f 19 rfl (decide_eq_false (by omega)) ?_
                  refine Gy (V_move rfl rfl) ?_
                  refine G_callv (k := 110) (.mk rfl rfl rfl rfl) rfl rfl (.yes rfl rfl rfl rfl) (digit_call _ _ _) ?_
                  refine Gy (V_not rfl rfl) ?_
                  refine Gy (V_move rfl rfl) ?_
                  apply G_joinAnd 3 23 26 rfl
                  · intro H2
                    dsimp only [List.take]
                    simp only [Bool.and_eq_true, Bool.or_eq_true, Bool.not_eq_true', Bool.not_eq_false', Bool.and_eq_false_iff, Bool.or_eq_false_iff, Bool.not_not, decide_eq_true_eq, decide_eq_false_iff_not, ne_eq, Decidable.not_not, Bool.decide_eq_true] at H2
                    refine Gy (V_move rfl rfl) ?_
                    refine Gy (V_neq rfl rfl rfl) ?_
                    refine Gy (V_pick_t rfl rfl rfl) ?_
                    refine G_end ?_
                    exact JQ_end 3 rfl rfl (by kernel_rfl)
                  · intro H3
                    dsimp only [List.take]
                    simp only [Bool.and_eq_true, Bool.or_eq_true, Bool.not_eq_true', Bool.not_eq_false', Bool.and_eq_false_iff, Bool.or_eq_false_iff, Bool.not_not, decide_eq_true_eq, decide_eq_false_iff_not, ne_eq, Decidable.not_not, Bool.decide_eq_true] at H3
                    refine Gn ?_
                    refine Gn ?_
                    refine Gy (V_pick_f rfl rfl rfl) ?_
                    refine G_end ?_
                    exact JQ_end 3 rfl rfl (by kernel_rfl)
                  dsimp only [List.drop]
                  refine Gy (V_pick_f rfl rfl rfl) ?_
                  refine Gv (V_pick_t rfl rfl rfl) ?_
                  refine G_end ?_
                  exact JQ_end 11 rfl rfl (by kernel_rfl)
                · intro H4
                  dsimp only [List.take]
                  simp only [Bool.and_eq_true, Bool.or_eq_true, Bool.not_eq_true', Bool.not_eq_false', Bool.and_eq_false_iff, Bool.or_eq_false_iff, Bool.not_not, decide_eq_true_eq, decide_eq_false_iff_not, ne_eq, Decidable.not_not, Bool.decide_eq_true] at H4
                  refine Gn ?_
                  refine Gn ?_
                  refine Gn ?_
                  refine G_stay (.un rfl rfl rfl rfl) rfl rfl ?_
                  refine G_stay (.un rfl rfl rfl rfl) rfl rfl ?_
                  refine G_stay (.un rfl rfl rfl rfl) rfl rfl ?_
                  refine G_stay (.un rfl rfl rfl rfl) rfl rfl ?_
                  refine G_stay (.un rfl rfl rfl rfl) rfl rfl ?_
                  refine G_stay (.un rfl rfl rfl rfl) rfl rfl ?_
                  refine G_stay (.un rfl rfl rfl rfl) rfl rfl ?_
                  refine Gn ?_
                  refine Gv (V_pick_f rfl rfl rfl) ?_
                  refine G_end ?_
                  exact JQ_end 12 rfl rfl (by kernel_rfl)
                dsimp only [List.drop]
                refine G_end (X_then ?_)
                refine G_cond_f rfl (by simp [*]; done) ?_
                refine G_skip (X_block (X_then ?_))
                refine G_again (i + 1) ⟨hlt, ?_⟩ (by omega) ⟨rfl, rfl, trivial⟩ rfl rfl
                intro k hk h
                by_cases hki : k = i
                · subst hki; rw [hc, badAt, hlet, hdig]; simp [h0, h95]
                · exact hall k (by omega) h
              · rw [hbad (by rw [badAt, hlet, hdig]; simp [h95])]
                refine Gv (V_extract rfl rfl rfl) ?_
                refine G_end (X_then (G_seq ?_))
                refine G_cond_t rfl rfl ?_
                refine G_skip (X_then (G_block (G_seq (G_region ?_))))
                refine Gv (V_extract rfl rfl rfl) ?_
                refine Gv (V_extract rfl rfl rfl) ?_
                refine Ga ?_
                refine Ga ?_
                refine G_end (X_then (G_seq (G_region ?_)))
                refine Gm ?_
                refine G_callv (k := 109) (.mk rfl rfl rfl rfl) rfl rfl (.none rfl) (letter_call _ _ _) ?_
                refine Gv (V_not rfl rfl) ?_
                refine Gm ?_
                refine G.bool_t 16 rfl (by simp [*]; done) ?_
                refine Gy (V_move rfl rfl) ?_
                refine Gy (V_eql rfl rfl rfl) ?_
                refine Gy (V_move rfl rfl) ?_
                refine G.bool_f 19 rfl (decide_eq_false (by omega)) ?_
                refine Gy (V_move rfl rfl) ?_
                refine G_callv (k := 110) (.mk rfl rfl rfl rfl) rfl rfl (.yes rfl rfl rfl rfl) (digit_call _ _ _) ?_
                refine Gy (V_not rfl rfl) ?_
                refine Gy (V_move rfl rfl) ?_
                refine G.bool_t 23 rfl (by simp [*]; done) ?_
                refine Gy (V_move rfl rfl) ?_
                refine Gy (V_neq rfl rfl rfl) ?_
                refine Gy (V_pick_t rfl rfl rfl) ?_
                refine Gy (V_pick_f rfl rfl rfl) ?_
                refine Gv (V_pick_t rfl rfl rfl) ?_
                refine G_end (X_then ?_)
                refine G_cond_t rfl (decide_eq_true (by omega)) ?_
                refine G_seq (G_region ?_)
                refine Ga ?_
                refine G_end (X_then (G_ret (X_block_ret (X_then_ret (X_block_ret (X_then_ret ?_))))))
                refine G_leaveS (.drop _ (.nil _)) (by exact (.cons (.tmp rfl) (.nil))) rfl ?_ ?_
                · exact (.refl _)
                exact ⟨(by kernel_rfl), rfl⟩
      · intro hhigh c q hc1 hc2 hq
        obtain ⟨d, hd⟩ : ∃ d : Int, (c : Int) = d := ⟨_, rfl⟩
        have hlet : isLet d = false := by simp only [isLet, Bool.or_eq_false_iff, Bool.and_eq_false_iff, decide_eq_false_iff_not]; omega
        have hdig : isDig d = false := by simp only [isDig, Bool.and_eq_false_iff, decide_eq_false_iff_not]; omega
        have h95 : ¬ d = 95 := by omega
        have hlet' : isLet (s[i].toNat : Int) = false := by simp only [isLet, Bool.or_eq_false_iff, Bool.and_eq_false_iff, decide_eq_false_iff_not]; omega
        have hdig' : isDig (s[i].toNat : Int) = false := by simp only [isDig, Bool.and_eq_false_iff, decide_eq_false_iff_not]; omega
        have h95' : ¬ (s[i].toNat : Int) = 95 := by omega
        have hw : wordE s = 3 := by
          have := badW_of s 0 i hlt (by rw [badAt, hlet', hdig', decide_eq_true h95']; simp)
          rw [wordE, if_neg (by omega), if_pos this]
        rw [hw, hd]
        by_cases h0 : i = 0
        · refine Gv (V_extract rfl rfl rfl) ?_
          refine G_end (X_then (G_seq ?_))
          refine G_cond_t rfl rfl ?_
          refine G_skip (X_then (G_block (G_seq (G_region ?_))))
          refine Gv (V_extract rfl rfl rfl) ?_
          refine Gv (V_extract rfl rfl rfl) ?_
          refine Ga ?_
          refine Ga ?_
          refine G_end (X_then (G_seq (G_region ?_)))
          refine Gm ?_
          refine G_callv (k := 109) (.mk rfl rfl rfl rfl) rfl rfl (.none rfl) (letter_call _ _ _) ?_
          refine Gv (V_not rfl rfl) ?_
          refine Gm ?_
          refine G.bool_t 16 rfl (by simp [*]; done) ?_
          refine Gy (V_move rfl rfl) ?_
          refine Gy (V_eql rfl rfl rfl) ?_
          refine Gy (V_move rfl rfl) ?_
          refine G.bool_t 19 rfl (decide_eq_true (by omega)) ?_
          refine Gn ?_
          refine Gn ?_
          refine Gn ?_
          refine Gn ?_
          refine G_stay (.un rfl rfl rfl rfl) rfl rfl ?_
          refine G_stay (.un rfl rfl rfl rfl) rfl rfl ?_
          refine Gn ?_
          refine Gy (V_pick_t rfl rfl rfl) ?_
          refine Gv (V_pick_t rfl rfl rfl) ?_
          refine G_end (X_then ?_)
          refine G_cond_t rfl rfl ?_
          refine G_seq (G_region ?_)
          refine Ga ?_
          refine G_end (X_then (G_ret (X_block_ret (X_then_ret (X_block_ret (X_then_ret ?_))))))
          refine G_leaveS (.drop _ (.nil _)) (by exact (.cons (.tmp rfl) (.nil))) rfl ?_ ?_
          · exact (.refl _)
          exact ⟨(by kernel_rfl), rfl⟩
        · refine Gv (V_extract rfl rfl rfl) ?_
          refine G_end (X_then (G_seq ?_))
          refine G_cond_t rfl rfl ?_
          refine G_skip (X_then (G_block (G_seq (G_region ?_))))
          refine Gv (V_extract rfl rfl rfl) ?_
          refine Gv (V_extract rfl rfl rfl) ?_
          refine Ga ?_
          refine Ga ?_
          refine G_end (X_then (G_seq (G_region ?_)))
          refine Gm ?_
          refine G_callv (k := 109) (.mk rfl rfl rfl rfl) rfl rfl (.none rfl) (letter_call _ _ _) ?_
          refine Gv (V_not rfl rfl) ?_
          refine Gm ?_
          refine G.bool_t 16 rfl (by simp [*]; done) ?_
          refine Gy (V_move rfl rfl) ?_
          refine Gy (V_eql rfl rfl rfl) ?_
          refine Gy (V_move rfl rfl) ?_
          refine G.bool_f 19 rfl (decide_eq_false (by omega)) ?_
          refine Gy (V_move rfl rfl) ?_
          refine G_callv (k := 110) (.mk rfl rfl rfl rfl) rfl rfl (.yes rfl rfl rfl rfl) (digit_call _ _ _) ?_
          refine Gy (V_not rfl rfl) ?_
          refine Gy (V_move rfl rfl) ?_
          refine G.bool_t 23 rfl (by simp [*]; done) ?_
          refine Gy (V_move rfl rfl) ?_
          refine Gy (V_neq rfl rfl rfl) ?_
          refine Gy (V_pick_t rfl rfl rfl) ?_
          refine Gy (V_pick_f rfl rfl rfl) ?_
          refine Gv (V_pick_t rfl rfl rfl) ?_
          refine G_end (X_then ?_)
          refine G_cond_t rfl (decide_eq_true (by omega)) ?_
          refine G_seq (G_region ?_)
          refine Ga ?_
          refine G_end (X_then (G_ret (X_block_ret (X_then_ret (X_block_ret (X_then_ret ?_))))))
          refine G_leaveS (.drop _ (.nil _)) (by exact (.cons (.tmp rfl) (.nil))) rfl ?_ ?_
          · exact (.refl _)
          exact ⟨(by kernel_rfl), rfl⟩
    · have hil : i = s.length := by omega
      have hbw : badW 0 s = false := badW_all s 0 fun k hk => by rw [Nat.zero_add]; exact hall k (by omega) hk
      have hw : wordE s = if 12 < s.length then 4 else 0 := by rw [wordE, if_neg (by omega), hbw]; simp
      rw [hw]
      subst hil
      refine G_seq (G_region ?_)
      refine G_nextStrEnd rfl rfl (.head _) (Nat.le_refl _) rfl rfl (.none rfl) ?_
      refine Gv (V_extract rfl rfl rfl) ?_
      refine G_end (X_then (G_seq ?_))
      refine G_cond_f rfl rfl ?_
      refine G_exit (X_then_exit (X_then_exit (X_block_hit (X_then (G_seq (G_seq (G_region ?_)))))))
      refine Gm ?_
      refine Gv (V_len rfl rfl) ?_
      refine Gv (V_gtr rfl rfl rfl) ?_
      refine G_end (X_then ?_)
      refine G_cond rfl (fun H1 => ?_) (fun H1 => ?_)
      · simp only [Bool.and_eq_true, Bool.or_eq_true, Bool.not_eq_true', Bool.not_eq_false', Bool.and_eq_false_iff, Bool.or_eq_false_iff, Bool.not_not, decide_eq_true_eq, decide_eq_false_iff_not, ne_eq, Decidable.not_not, Bool.decide_eq_true] at H1
        refine G_seq (G_region ?_)
        refine Ga ?_
        refine G_end (X_then (G_ret (X_then_ret ?_)))
        refine G_leaveS (.drop _ (.nil _)) (by exact (.cons (.tmp rfl) (.nil))) rfl ?_ ?_
        · exact (.refl _)
        exact ⟨(by (simp (discharger := omega) only [resVal, if_pos, if_neg]; first | done | rfl)), (by rfl)⟩
      simp only [Bool.and_eq_true, Bool.or_eq_true, Bool.not_eq_true', Bool.not_eq_false', Bool.and_eq_false_iff, Bool.or_eq_false_iff, Bool.not_not, decide_eq_true_eq, decide_eq_false_iff_not, ne_eq, Decidable.not_not, Bool.decide_eq_true] at H1
      refine G_skip (X_then (G_seq (G_region ?_)))
      refine Ga ?_
      refine G_end (X_then (G_ret ?_))
      refine G_leaveS (.drop _ (.nil _)) (by exact (.cons (.tmp rfl) (.nil))) rfl ?_ ?_
      · exact (.refl _)
      exact ⟨(by (simp (discharger := omega) only [resVal, if_pos, if_neg]; first | done | rfl)), (by rfl)⟩
theorem IndexS_call (p : Option Addr) (n c : Nat) (l : List (List UInt8)) (hl : SlE E 1 p n (strs l)) (hn : n ≤ 1000000) (s : List UInt8) :
    CallS Tryz.prog 114 #[.slice p n c, .string (S s)] E L (fun r E' L' => ∃ i : Int, r = .int .i64 i ∧ (0 ≤ i ↔ s ∈ l) ∧ L' = L) := by
  have e1 := hl.nS
  subst e1
  refine CallS.intro (l := [.slice p l.length c, .string (S s)]) _ Tryz.func114 rfl Tryz.ntmps114 rfl ?_
  refine G_seq (G_region ?_)
  refine Ga ?_
  refine G_end (X_then (G_seq (G_seq (G_region ?_))))
  refine Gm ?_
  refine Gv (V_lenS rfl rfl) ?_
  refine Gm ?_
  refine G_end (X_then (G_block ?_))
  refine G_loop (α := Nat) (fun i => [(0, .slice p l.length c), (1, .string (S s)), (7, .int .i64 l.length), (8, .int .i64 i)]) (fun _ => E) (fun i => L)
    (fun i => i ≤ l.length ∧ s ∉ l.take i) (fun i => l.length - i) 0 ⟨Nat.zero_le _, by simp⟩ ⟨rfl, rfl, rfl, rfl, trivial⟩ rfl rfl ?_
  rintro i ⟨hi, hall⟩
  by_cases hlt : i < l.length
  · have hx := strs_get (List.getElem?_eq_getElem hlt)
    by_cases he : s = l[i]
    · have hmem : (0 : Int) ≤ (i : Int) ↔ s ∈ l := ⟨fun _ => by rw [he]; exact List.getElem_mem hlt, fun _ => by omega⟩
      refine G_seq (G_region ?_)
      refine Gv (V_lss rfl rfl rfl) ?_
      refine G_end (X_then (G_seq ?_))
      refine G_cond_t rfl (decide_eq_true (by omega)) ?_
      refine G_skip (X_then (G_seq (G_block (G_seq (G_region ?_)))))
      refine Gm ?_
      refine Ga ?_
      refine G_end (X_then (G_seq (G_region ?_)))
      refine Gm ?_
      refine Gm ?_
      refine Gm ?_
      refine Gv (V_idxAddr rfl rfl rfl (SlE.rd (by assumption)) (by omega) (by omega)) ?_
      refine Gv (V_loadS rfl rfl (SlE.rd (by assumption)) (by assumption) (by simp)) ?_
      refine Gv (V_seql rfl rfl rfl) ?_
      refine G_end (X_then ?_)
      refine G_cond_t rfl (decide_eq_true (by omega)) ?_
      refine G_seq (G_region ?_)
      refine Gm ?_
      refine Ga ?_
      refine G_end (X_then (G_ret (X_block_ret (X_then_ret (X_then_ret (X_block_ret (X_then_ret ?_)))))))
      refine G_leaveS (.nil _) (by exact (.cons (.tmp rfl) (.nil))) rfl ?_ ?_
      · exact (.refl _)
      exact ⟨_, ⟨rfl, ⟨(by assumption), rfl⟩⟩⟩
    · refine G_seq ?_
      refine G_region ?_
      refine Gv (V_lss rfl rfl rfl) ?_
      refine G_end (X_then (G_seq ?_))
      refine G_cond_t rfl (decide_eq_true (by omega)) ?_
      refine G_skip (X_then (G_seq (G_block (G_seq (G_region ?_)))))
      refine Gm ?_
      refine Ga ?_
      refine G_end (X_then (G_seq (G_region ?_)))
      refine Gm ?_
      refine Gm ?_
      refine Gm ?_
      refine Gv (V_idxAddr rfl rfl rfl (SlE.rd (by assumption)) (by omega) (by omega)) ?_
      refine Gv (V_loadS rfl rfl (SlE.rd (by assumption)) (by assumption) (by simp)) ?_
      refine Gv (V_seql rfl rfl rfl) ?_
      refine G_end (X_then ?_)
      refine G_cond_f rfl (decide_eq_false (by omega)) ?_
      refine G_skip (X_block (X_then (G_region ?_)))
      refine Gv (V_add_i64 rfl rfl rfl (by omega) (by omega)) ?_
      refine Gm ?_
      refine G_end (X_then ?_)
      refine G_again (i + 1) ⟨hlt, ?_⟩ (by omega) ⟨rfl, rfl, rfl, rfl, trivial⟩ rfl rfl
      rw [List.take_succ_eq_append_getElem hlt]
      simp only [List.mem_append, List.mem_singleton, not_or]
      exact ⟨hall, he⟩
  · have hmem : (0 : Int) ≤ -1 ↔ s ∈ l := ⟨fun h => by omega, fun h => by rw [List.take_of_length_le (by omega)] at hall; exact absurd h hall⟩
    refine G_seq (G_region ?_)
    refine Gv (V_lss rfl rfl rfl) ?_
    refine G_end (X_then (G_seq ?_))
    refine G_cond_f rfl (decide_eq_false (by omega)) ?_
    refine G_exit (X_then_exit (X_then_exit (X_block_hit (X_then (G_seq (G_region ?_))))))
    refine Ga ?_
    refine G_end (X_then (G_ret ?_))
    refine G_leaveS (.nil _) (by exact (.cons (.tmp rfl) (.nil))) rfl ?_ ?_
    · exact (.refl _)
    exact ⟨_, ⟨rfl, ⟨(by assumption), rfl⟩⟩⟩
theorem Contains_call (p : Option Addr) (n c : Nat) (l : List (List UInt8)) (hl : SlE E 1 p n (strs l)) (hn : n ≤ 1000000) (s : List UInt8) :
    CallS Tryz.prog 111 #[.slice p n c, .string (S s)] E L (fun r E' L' => r = .bool (decide (s ∈ l)) ∧ L' = L) := by
  refine CallS.intro (l := [.slice p n c, .string (S s)]) _ Tryz.func111 rfl Tryz.ntmps111 rfl ?_
  refine G_seq (G_region ?_)
  refine Ga ?_
  refine G_end (X_then (G_seq (G_region ?_)))
  refine Gm ?_
  refine Gm ?_
  refine G_call (k := 114) (.mk rfl rfl rfl rfl) rfl rfl (.none rfl) (IndexS_call _ _ _ _ _ _ (by assumption) (by assumption) _) ?_
  rintro r1 E2 L3 hE4 ⟨z5, ⟨rfl, ⟨Z6, rfl⟩⟩⟩
  replace hl := hl.mono hE4
  refine Gv (V_geq rfl rfl rfl) ?_
  refine Ga ?_
  refine G_end (X_then (G_ret ?_))
  refine G_leaveS (.nil _) (by exact (.cons (.tmp rfl) (.nil))) rfl ?_ ?_
  · exact hE4
  exact ⟨(by (simp [resVal, *]; done)), (by rfl)⟩
theorem Language_call (s : List UInt8) : CallV Tryz.prog 101 #[.string (S s)] E L (.bool (langB s)) := by
  refine CallS.toV (CallS.intro (l := [.string (S s)]) _ Tryz.func101 rfl Tryz.ntmps101 rfl ?_)
  refine G_seq (G_region ?_)
  refine Ga ?_
  refine G_end (X_then (G_seq (G_region ?_)))
  refine Gv (V_buildArr rfl rfl (by simp [fillS, setLs, setL, Value.cells]; rfl)) ?_
  (refine G_alloc rfl rfl rfl (.none rfl) ?_; intro b3)
  refine G_storeA rfl rfl rfl rfl (by simp [Value.oneCell']) rfl (.none rfl) (.head _ _ _) rfl ?_
  refine G_end (X_then (G_seq (G_region ?_)))
  refine Gv (V_slArr rfl rfl) ?_
  refine Gm ?_
  refine G.freezeB (.head _ _) (k := 4) (sz := 1) rfl ?_
  intro E1 hE1 hs1
  replace hs1 : SlE E1 1 (some ⟨b3, 0, none⟩) 4 (strs langW) := hs1
  refine G_call (k := 111) (.mk rfl rfl rfl rfl) rfl rfl (.none rfl) (Contains_call _ _ _ _ _ _ (by assumption) (by omega) _) ?_
  rintro r1 E2 L3 hE4 ⟨rfl, rfl⟩
  replace hs1 := hs1.mono hE4
  refine Ga ?_
  refine G_end (X_then (G_ret ?_))
  refine G_leaveS (.nil _) (by exact (.cons (.tmp rfl) (.nil))) rfl ?_ ?_
  · exact (hE1.trans hE4)
  exact ⟨rfl, rfl⟩
theorem NCheck_call (s : List UInt8) (hs : s.length ≤ 1000000) : CallV Tryz.prog 85 #[.string (S s)] E L (.int .i64 (nameE s)) := by
  refine CallS.toV (CallS.intro (l := [.string (S s)]) _ Tryz.func85 rfl Tryz.ntmps85 rfl ?_)
  refine G_seq (G_region ?_)
  refine Ga ?_
  refine G_end (X_then (G_seq (G_region ?_)))
  refine Gm ?_
  refine G_callv (k := 100) (.mk rfl rfl rfl rfl) rfl rfl (.none rfl) (Word_call _ _ _ (by assumption)) ?_
  refine Ga ?_
  refine G_end (X_then (G_seq (G_seq (G_region ?_))))
  refine Gm ?_
  refine Gv (V_eql rfl rfl rfl) ?_
  refine Gm ?_
  apply G_joinAnd 3 8 11 rfl
  · intro H1
    dsimp only [List.take]
    simp only [Bool.and_eq_true, Bool.or_eq_true, Bool.not_eq_true', Bool.not_eq_false', Bool.and_eq_false_iff, Bool.or_eq_false_iff, Bool.not_not, decide_eq_true_eq, decide_eq_false_iff_not, ne_eq, Decidable.not_not, Bool.decide_eq_true] at H1
    refine Gy (V_move rfl rfl) ?_
    refine G_callv (k := 101) (.mk rfl rfl rfl rfl) rfl rfl (.yes rfl rfl rfl rfl) (Language_call _ _ _) ?_
    refine Gv (V_pick_t rfl rfl rfl) ?_
    refine G_end ?_
    exact JQ_end 3 rfl rfl (by kernel_rfl)
  · intro H2
    dsimp only [List.take]
    simp only [Bool.and_eq_true, Bool.or_eq_true, Bool.not_eq_true', Bool.not_eq_false', Bool.and_eq_false_iff, Bool.or_eq_false_iff, Bool.not_not, decide_eq_true_eq, decide_eq_false_iff_not, ne_eq, Decidable.not_not, Bool.decide_eq_true] at H2
    refine Gn ?_
    refine Gn ?_
    refine Gv (V_pick_f rfl rfl rfl) ?_
    refine G_end ?_
    exact JQ_end 3 rfl rfl (by kernel_rfl)
  dsimp only [List.drop]
  refine G_end (X_then ?_)
  refine G_cond rfl (fun H3 => ?_) (fun H3 => ?_)
  · simp only [Bool.and_eq_true, Bool.or_eq_true, Bool.not_eq_true', Bool.not_eq_false', Bool.and_eq_false_iff, Bool.or_eq_false_iff, Bool.not_not, decide_eq_true_eq, decide_eq_false_iff_not, ne_eq, Decidable.not_not, Bool.decide_eq_true] at H3
    refine G_region ?_
    refine Ga ?_
    refine G_end (X_then (G_seq (G_region ?_)))
    refine Gm ?_
    refine Ga ?_
    refine G_end (X_then (G_ret ?_))
    refine G_leaveS (.nil _) (by exact (.cons (.tmp rfl) (.nil))) rfl ?_ ?_
    · exact (.refl _)
    exact ⟨(by (simp [resVal, nameE, *]; done)), (by rfl)⟩
  simp only [Bool.and_eq_true, Bool.or_eq_true, Bool.not_eq_true', Bool.not_eq_false', Bool.and_eq_false_iff, Bool.or_eq_false_iff, Bool.not_not, decide_eq_true_eq, decide_eq_false_iff_not, ne_eq, Decidable.not_not, Bool.decide_eq_true] at H3
  refine G_skip (X_then (G_seq (G_region ?_)))
  refine Gm ?_
  refine Ga ?_
  refine G_end (X_then (G_ret ?_))
  refine G_leaveS (.nil _) (by exact (.cons (.tmp rfl) (.nil))) rfl ?_ ?_
  · exact (.refl _)
  exact ⟨(by ((try simp only [resVal, nameE]); (repeat' split) <;> first | rfl | (exfalso; omega) | (simp_all; done) | (simp_all; omega))), (by rfl)⟩
end
theorem nameE_first {s : List UInt8} (h : nameE s = 0) : ∃ c l, s = c :: l ∧ isLet (c.toNat : Int) = true := by
  unfold nameE at h
  split at h
  · rename_i h1
    unfold wordE at h1
    split at h1
    · cases h1
    · rename_i h2
      split at h1
      · cases h1
      · rename_i h3
        cases s with
        | nil => simp at h2
        | cons c l =>
          refine ⟨c, l, rfl, ?_⟩
          simp only [badW, Bool.or_eq_true, not_or, Bool.not_eq_true] at h3
          have := h3.1
          simp only [badAt, decide_true, Bool.true_or, Bool.and_true, Bool.not_eq_false'] at this
          exact this
  · contradiction
section
variable (E : Env) (L : List Res)
theorem Small_call (s : List UInt8) (hs : s.length ≤ 1000000) : CallV Tryz.prog 63 #[.string (S s)] E L (.bool (smallB s)) := by
  refine CallS.toV (CallS.intro (l := [.string (S s)]) _ Tryz.func63 rfl Tryz.ntmps63 rfl ?_)
  by_cases h : nameE s = 0
  · obtain ⟨c, l, rfl, hc⟩ := nameE_first h
    have hx : (c :: l)[Int.toNat 0]? = some c := rfl
    refine G_seq (G_region ?_)
    refine Ga ?_
    refine G_end (X_then (G_seq (G_region ?_)))
    refine Gm ?_
    refine G_callv (k := 85) (.mk rfl rfl rfl rfl) rfl rfl (.none rfl) (NCheck_call _ _ _ (by assumption)) ?_
    refine Gv (V_eql rfl rfl rfl) ?_
    refine Gm ?_
    refine G.bool_t 6 rfl (decide_eq_true (by omega)) ?_
    refine Gy (V_move rfl rfl) ?_
    refine Gy (V_sidx rfl rfl rfl (by omega) (by assumption)) ?_
    refine Gy (V_geq rfl rfl rfl) ?_
    refine Gv (V_pick_t rfl rfl rfl) ?_
    refine Ga ?_
    refine G_end (X_then (G_ret ?_))
    refine G_leaveS (.nil _) (by exact (.cons (.tmp rfl) (.nil))) rfl ?_ ?_
    · exact (.refl _)
    exact ⟨(by (simp [resVal, smallB, *]; done)), (by rfl)⟩
  · refine G_seq ?_
    refine G_region ?_
    refine Ga ?_
    refine G_end (X_then (G_seq (G_region ?_)))
    refine Gm ?_
    refine G_callv (k := 85) (.mk rfl rfl rfl rfl) rfl rfl (.none rfl) (NCheck_call _ _ _ (by assumption)) ?_
    refine Gv (V_eql rfl rfl rfl) ?_
    refine Gm ?_
    refine G.bool_f 6 rfl (decide_eq_false (by omega)) ?_
    refine Gn ?_
    refine Gn ?_
    refine Gn ?_
    refine Gv (V_pick_f rfl rfl rfl) ?_
    refine Ga ?_
    refine G_end (X_then (G_ret ?_))
    refine G_leaveS (.nil _) (by exact (.cons (.tmp rfl) (.nil))) rfl ?_ ?_
    · exact (.refl _)
    exact ⟨(by (simp [resVal, smallB, *]; done)), (by rfl)⟩
theorem Capital_call (s : List UInt8) (hs : s.length ≤ 1000000) : CallV Tryz.prog 64 #[.string (S s)] E L (.bool (capB s)) := by
  refine CallS.toV (CallS.intro (l := [.string (S s)]) _ Tryz.func64 rfl Tryz.ntmps64 rfl ?_)
  by_cases h : nameE s = 0
  · obtain ⟨c, l, rfl, hc⟩ := nameE_first h
    have hx : (c :: l)[Int.toNat 0]? = some c := rfl
    refine G_seq (G_region ?_)
    refine Ga ?_
    refine G_end (X_then (G_seq (G_region ?_)))
    refine Gm ?_
    refine G_callv (k := 85) (.mk rfl rfl rfl rfl) rfl rfl (.none rfl) (NCheck_call _ _ _ (by assumption)) ?_
    refine Gv (V_eql rfl rfl rfl) ?_
    refine Gm ?_
    refine G.bool_t 6 rfl (decide_eq_true (by omega)) ?_
    refine Gy (V_move rfl rfl) ?_
    refine Gy (V_sidx rfl rfl rfl (by omega) (by assumption)) ?_
    refine Gy (V_lss rfl rfl rfl) ?_
    refine Gv (V_pick_t rfl rfl rfl) ?_
    refine Ga ?_
    refine G_end (X_then (G_ret ?_))
    refine G_leaveS (.nil _) (by exact (.cons (.tmp rfl) (.nil))) rfl ?_ ?_
    · exact (.refl _)
    exact ⟨(by (simp [resVal, capB, *]; done)), (by rfl)⟩
  · refine G_seq ?_
    refine G_region ?_
    refine Ga ?_
    refine G_end (X_then (G_seq (G_region ?_)))
    refine Gm ?_
    refine G_callv (k := 85) (.mk rfl rfl rfl rfl) rfl rfl (.none rfl) (NCheck_call _ _ _ (by assumption)) ?_
    refine Gv (V_eql rfl rfl rfl) ?_
    refine Gm ?_
    refine G.bool_f 6 rfl (decide_eq_false (by omega)) ?_
    refine Gn ?_
    refine Gn ?_
    refine Gn ?_
    refine Gv (V_pick_f rfl rfl rfl) ?_
    refine Ga ?_
    refine G_end (X_then (G_ret ?_))
    refine G_leaveS (.nil _) (by exact (.cons (.tmp rfl) (.nil))) rfl ?_ ?_
    · exact (.refl _)
    exact ⟨(by (simp [resVal, capB, *]; done)), (by rfl)⟩
end
end Go.Proofs.YtaibabmladgldaaGreatDoor
set_option linter.unusedSimpArgs false
set_option linter.unusedVariables false
set_option maxHeartbeats 2000000
set_option maxRecDepth 20000
namespace Go.Proofs.YtaibabmladgldaaGreatDoor
open Go.RowKit

/-! The program's check of a grammar. -/
abbrev rowEnc (x : Row × Nat) : List Value := [.int .i64 (x.2 : Int), .agg #[.int .i64 x.1.2.2.1, .slice x.1.1 x.1.2.2.2.length x.1.2.1]]
theorem zip_pre {α : Type} {l : List α} {pre : List (α × Nat)} {x : α × Nat} (h : pre ++ [x] <+: l.zipIdx) : l[pre.length]? = some x.1 ∧ x.2 = pre.length ∧ pre.length < l.length := by
  obtain ⟨t, ht⟩ := h
  have h1 : (l.zipIdx)[pre.length]? = some x := by rw [← ht]; simp
  rw [List.getElem?_zipIdx] at h1
  simp only [Option.map_eq_some_iff, Nat.zero_add] at h1
  obtain ⟨a, h2, h3⟩ := h1
  subst h3
  exact ⟨h2, rfl, (List.getElem?_eq_some_iff.1 h2).1⟩
abbrev GB (b : Nat) (g : Gr) (tp : Option Addr) (tc : Nat) (np : Option Addr) (nc : Nat) (pp : Option Addr) (pc : Nat) : Res := .blk b (.cells #[.int .i64 g.k, .slice tp g.toks.length tc, .string (S g.sep), .slice np g.names.length nc, .int .i64 g.start, .slice pp g.prods.length pc] 33 (0, 0))
section
variable (E : Env) (L : List Res)
theorem iter_prods (c : Nat) (p : Option Addr) (n cc : Nat) (rows : List Row) (hl : SlE E 2 p n (prows rows)) (hn : n ≤ 1000) :
    Iter Tryz.prog 99 #[.pointer (some ⟨c, 0, none⟩)] (fun x => (rowEnc x).toArray) rows.zipIdx E [.blk c (.cells #[.slice p n cc] 31 (0, 0))] := by
  have e1 := hl.nR
  subst e1
  intro y E0 L0 Inv InvX hE0 h0 hy
  replace hl := hl.mono hE0
  refine CallS.intro (L := .blk c (.cells #[.slice p rows.length cc] 31 (0, 0)) :: L0) (l := [.func (.yield y) #[] #[], .pointer (some ⟨c, 0, none⟩)]) _ Tryz.func99 rfl Tryz.ntmps99 rfl ?_
  refine G_seq (G_region ?_)
  refine Gv (V_load rfl rfl (Cell.own1 (.head _))) ?_
  refine Gv (V_lenS rfl rfl) ?_
  refine Gm ?_
  refine G_end (X_then (G_block ?_))
  refine G_loop (α := Nat × Env × List Res) (fun x => [(0, .func (.yield y) #[] #[]), (5, .slice p rows.length cc), (6, .int .i64 rows.length), (7, .int .i64 x.1)]) (fun x => x.2.1) (fun x => .blk c (.cells #[.slice p rows.length cc] 31 (0, 0)) :: x.2.2)
    (fun x => E0.Le x.2.1 ∧ x.1 ≤ rows.length ∧ Inv (rows.zipIdx.take x.1) x.2.1 x.2.2) (fun x => rows.length - x.1) (0, E0, L0)
    ⟨.refl _, Nat.zero_le _, h0⟩ ⟨rfl, rfl, rfl, rfl, trivial⟩ rfl rfl ?_
  rintro ⟨k, E, L⟩ ⟨hE, hk, hI⟩
  simp only at hE hk hI ⊢
  replace hl := hl.mono hE
  by_cases hlt : k < rows.length
  · have hx := prows_get (List.getElem?_eq_getElem hlt)
    have hz : rows.zipIdx.take (k + 1) = rows.zipIdx.take k ++ [(rows[k], k)] := by
      rw [List.take_succ_eq_append_getElem (by simpa using hlt)]; simp
    have hpre : rows.zipIdx.take k ++ [(rows[k], k)] <+: rows.zipIdx := by rw [← hz]; exact List.take_prefix _ _
    refine G_seq (G_region ?_)
    refine Gv (V_lss rfl rfl rfl) ?_
    refine G_end (X_then (G_seq ?_))
    refine G_cond_t rfl (decide_eq_true (by omega)) ?_
    refine G_skip (X_then (G_seq (G_block (G_seq (G_region ?_)))))
    refine Gm ?_
    refine Gv (V_idxAddr rfl rfl rfl (SlE.rd (by assumption)) (by omega) (by omega)) ?_
    refine Gv (V_loadAS rfl rfl (SlE.rd (by assumption)) (by assumption) (by simp) (by rfl)) ?_
    (refine G_alloc rfl rfl rfl (.none rfl) ?_; intro b4)
    refine Ga ?_
    refine G_storeA rfl rfl rfl rfl (by simp [Value.oneCell']) rfl (.none rfl) (.head _ _ _) rfl ?_
    refine G_end (X_then (G_seq (G_region ?_)))
    refine Gm ?_
    refine Gm ?_
    refine Gv (V_loadA rfl rfl (Cells.own (.head _)) rfl) ?_
    refine G.drop ?_
    refine G_yield (.mk rfl rfl rfl rfl) rfl rfl (.none rfl) (hy _ (rows[k], k) E L [_] hE hpre hI) ?_
    rintro r E' L' hE' ⟨L3, rfl, (⟨rfl, hI'⟩ | ⟨rfl, hI'⟩)⟩
    · refine Gv (V_not rfl rfl) ?_
      refine G_end (X_then ?_)
      refine G_cond_f rfl (by kernel_rfl) ?_
      refine G_skip (X_block (X_then (G_region ?_)))
      refine Gv (V_add_i64 rfl rfl rfl (by omega) (by omega)) ?_
      refine Gm ?_
      refine G_end (X_then ?_)
      exact G_again (k + 1, E', L3) ⟨hE.trans hE', by simp only; omega, by rw [hz]; exact hI'⟩ (by simp only; omega) ⟨rfl, rfl, rfl, rfl, trivial⟩ rfl rfl
    · refine Gv (V_not rfl rfl) ?_
      refine G_end (X_then ?_)
      refine G_cond_t rfl (by kernel_rfl) ?_
      refine G_ret (X_block_ret (X_then_ret (X_then_ret (X_block_ret ?_))))
      exact G_leave_n 0 .nil rfl (hE.trans hE') ⟨[_], L3, rfl, .inr ⟨_, hpre, hI'⟩⟩
  · have hke : k = rows.length := by omega
    subst hke
    rw [List.take_of_length_le (by simp)] at hI
    refine G_seq (G_region ?_)
    refine Gv (V_lss rfl rfl rfl) ?_
    refine G_end (X_then (G_seq ?_))
    refine G_cond_f rfl (decide_eq_false (by omega)) ?_
    refine G_exit (X_then_exit (X_then_exit (X_block_hit ?_)))
    exact G_leave_n 0 .nil rfl hE ⟨[_], L, rfl, .inl hI⟩
theorem All_call (p : Option Addr) (n c : Nat) : CallS Tryz.prog 84 #[.slice p n c] E L (fun r E' L' => ∃ b, r = .func (.func 99) #[] #[.pointer (some ⟨b, 0, none⟩)] ∧ E = E' ∧ L' = .blk b (.cells #[.slice p n c] 31 (0, 0)) :: L) := by
  refine CallS.intro (l := [.slice p n c]) _ Tryz.func84 rfl Tryz.ntmps84 rfl ?_
  refine G_seq (G_region ?_)
  (refine G_box1 rfl rfl rfl rfl rfl (.none rfl) ?_; intro b1)
  refine Ga ?_
  refine G_end (X_then (G_seq (G_region ?_)))
  refine Gv (V_makeFunc rfl rfl rfl) ?_
  refine Ga ?_
  refine G_end (X_then (G_ret ?_))
  refine G_leaveS (.keep _ (.nil _)) (by exact (.cons (.tmp rfl) (.nil))) rfl ?_ ?_
  · exact (.refl _)
  exact ⟨_, ⟨rfl, ⟨rfl, rfl⟩⟩⟩
theorem prods_call (a b c d e : Value) (p : Option Addr) (n m : Nat) : CallS Tryz.prog 62 #[.agg #[a, b, c, d, e, .slice p n m]] E L (fun r E' L' => ∃ b, r = .func (.func 99) #[] #[.pointer (some ⟨b, 0, none⟩)] ∧ E = E' ∧ L' = .blk b (.cells #[.slice p n m] 31 (0, 0)) :: L) := by
  refine CallS.intro (l := [.agg #[a, b, c, d, e, .slice p n m]]) _ Tryz.func62 rfl Tryz.ntmps62 rfl ?_
  refine G_seq (G_region ?_)
  (refine G_boxA rfl rfl rfl rfl (.none rfl) ?_; intro b1)
  refine Ga ?_
  refine G_end (X_then (G_seq (G_region ?_)))
  refine Gv (V_fieldAddr rfl rfl (by decide)) ?_
  refine Gv (V_load rfl rfl (Cell.own (.head _) rfl)) ?_
  refine G_call (k := 84) (.mk rfl rfl rfl rfl) rfl rfl (.none rfl) (All_call _ _ _ _ _) ?_
  rintro r1 E2 L3 hE4 ⟨z5, ⟨rfl, ⟨rfl, rfl⟩⟩⟩
  refine Ga ?_
  refine G_end (X_then (G_ret ?_))
  refine G_leaveS (.keep _ (.drop _ (.nil _))) (by exact (.cons (.tmp rfl) (.nil))) rfl ?_ ?_
  · exact (.refl _)
  exact ⟨_, ⟨rfl, ⟨rfl, rfl⟩⟩⟩
end
end Go.Proofs.YtaibabmladgldaaGreatDoor
set_option linter.unusedSimpArgs false
set_option linter.unusedVariables false
set_option maxHeartbeats 2000000
set_option maxRecDepth 20000
namespace Go.Proofs.YtaibabmladgldaaGreatDoor
open Go.RowKit

theorem any_of {α : Type} {l : List α} {f : α → Bool} {i : Nat} (h : i < l.length) (hf : f l[i] = true) : l.any f = true := List.any_eq_true.2 ⟨l[i], List.getElem_mem h, hf⟩
theorem any_none {α : Type} {l : List α} {f : α → Bool} (h : ∀ i, (hi : i < l.length) → f l[i] = false) : l.any f = false := by
  rw [List.any_eq_false]
  intro x hx
  obtain ⟨i, hi, rfl⟩ := List.mem_iff_getElem.1 hx
  simp [h i hi]
theorem all_of {α : Type} {l : List α} {f : α → Bool} (h : ∀ i, (hi : i < l.length) → f l[i] = true) : l.all f = true := by
  rw [List.all_eq_true]
  intro x hx
  obtain ⟨i, hi, rfl⟩ := List.mem_iff_getElem.1 hx
  exact h i hi
theorem all_not {α : Type} {l : List α} {f : α → Bool} {i : Nat} (h : i < l.length) (hf : f l[i] = false) : l.all f = false := List.all_eq_false.2 ⟨l[i], List.getElem_mem h, by simp [hf]⟩
def fullB (g : Gr) : Bool := decide (8 < g.toks.length) || decide (8 < g.names.length) || decide (24 < g.prods.length) || g.prods.any (fun p => decide (6 < p.2.length))
theorem fullB_pos {g : Gr} (h : ¬ (g.toks.length ≤ 8 ∧ g.names.length ≤ 8 ∧ g.prods.length ≤ 24)) : fullB g = true := by
  have : 8 < g.toks.length ∨ 8 < g.names.length ∨ 24 < g.prods.length := by omega
  simp only [fullB, Bool.or_eq_true, decide_eq_true_eq]
  rcases this with h | h | h
  · exact .inl (.inl (.inl h))
  · exact .inl (.inl (.inr h))
  · exact .inl (.inr h)
theorem fullB_eq {g : Gr} (h : g.toks.length ≤ 8 ∧ g.names.length ≤ 8 ∧ g.prods.length ≤ 24) : fullB g = g.prods.any (fun p => decide (6 < p.2.length)) := by
  have h1 : decide (8 < g.toks.length) = false := decide_eq_false (by omega)
  have h2 : decide (8 < g.names.length) = false := decide_eq_false (by omega)
  have h3 : decide (24 < g.prods.length) = false := decide_eq_false (by omega)
  simp only [fullB, h1, h2, h3, Bool.false_or]
section
variable (E : Env) (L : List Res)
theorem many_call (gv : Value) (g : Gr) (hg : GrE E gv g) (hl : Light g) : CallV Tryz.prog 46 #[gv] E L (.int .i64 (if fullB g = true then 6 else 0)) := by
  obtain ⟨tp, tc, np, nc, pp, pc, rfl, ht, hn, ⟨rows, hrows, hps, hre⟩, k1, k2, k3⟩ := hg
  have hlen : g.prods.length = rows.length := by rw [← hrows]; simp
  have q1 := hl.t; have q2 := hl.n; have q3 := hl.p
  refine CallS.toV (CallS.intro (l := [_]) _ Tryz.func46 rfl Tryz.ntmps46 rfl ?_)
  by_cases h1 : g.toks.length ≤ 8 ∧ g.names.length ≤ 8 ∧ g.prods.length ≤ 24
  · have e : g.prods.any (fun p => decide (6 < p.2.length)) = rows.any (fun x => decide (6 < x.2.2.2.length)) := by rw [← hrows, List.any_map]; rfl
    rw [fullB_eq h1, e]
    obtain ⟨h1, h2, h3⟩ := h1
    refine G_seq (G_region ?_)
    (refine G_boxA rfl rfl rfl rfl (.none rfl) ?_; intro b1)
    (refine G_alloc rfl rfl rfl (.none rfl) ?_; intro b2)
    refine G_end (X_then (G_seq (G_seq (G_region ?_))))
    refine Gv (V_fieldAddr rfl rfl (by decide)) ?_
    refine Gv (V_load rfl rfl (Cell.own (.tail _ (.head _)) rfl)) ?_
    refine Gv (V_lenS rfl rfl) ?_
    refine Gv (V_gtr rfl rfl rfl) ?_
    refine Gm ?_
    refine G.bool_f 9 rfl (decide_eq_false (by omega)) ?_
    refine Gy (V_fieldAddr rfl rfl (by decide)) ?_
    refine Gy (V_load rfl rfl (Cell.own (.tail _ (.head _)) rfl)) ?_
    refine Gy (V_lenS rfl rfl) ?_
    refine Gy (V_gtr rfl rfl rfl) ?_
    refine Gv (V_pick_f rfl rfl rfl) ?_
    refine Gm ?_
    refine G.bool_f 15 rfl (decide_eq_false (by omega)) ?_
    refine Gy (V_fieldAddr rfl rfl (by decide)) ?_
    refine Gy (V_load rfl rfl (Cell.own (.tail _ (.head _)) rfl)) ?_
    refine Gy (V_lenS rfl rfl) ?_
    refine Gy (V_gtr rfl rfl rfl) ?_
    refine Gv (V_pick_f rfl rfl rfl) ?_
    refine G_end (X_then ?_)
    refine G_cond_f rfl (decide_eq_false (by omega)) ?_
    refine G_skip (X_then (G_seq (G_seq (G_region ?_))))
    refine Gv (V_loadA rfl rfl (Cells.own (.tail _ (.head _))) rfl) ?_
    refine G_call (k := 62) (.mk rfl rfl rfl rfl) rfl rfl (.none rfl) (prods_call _ _ _ _ _ _ _ _ _ _) ?_
    rintro r1 E2 L3 hE4 ⟨z5, ⟨rfl, ⟨rfl, rfl⟩⟩⟩
    replace ht := ht.mono hE4
    replace hn := hn.mono hE4
    replace hps := hps.mono hE4
    replace hre := hre.mono hE4
    refine G_end (X_then (G_block ?_))
    refine G_rangeI (σ := Int) (enc := rowEnc) rfl (iter_prods E z5 pp _ pc rows hps (by omega)) (fun _ => E) (fun v => .blk b2 (.cells #[.int .i64 v] 24 (0, 0)) :: GB b1 g tp tc np nc pp pc :: L)
      (fun pre v => v = 0 ∧ ∀ i, i < pre.length → (hi : i < rows.length) → decide (6 < rows[i].2.2.2.length) = false) (fun q pre v => q = .ret ∧ v = 6 ∧ rows.any (fun x => decide (6 < x.2.2.2.length)) = true) 0 ⟨rfl, fun i hi => by cases hi⟩ rfl (.refl _) rfl (fun _ => rfl) ?_ ?_ ?_
    · rintro y D tm fn M pre ⟨x, j⟩ v hpre ⟨rfl, hall⟩ hE
      obtain ⟨hx, hj, hlt⟩ := zip_pre hpre
      simp only at hx hj
      simp only [List.cons_append]
      dsimp only [rowEnc]
      by_cases hb : 6 < x.2.2.2.length
      · refine G_region ?_
        (refine G_alloc rfl rfl rfl (.none rfl) ?_; intro b4)
        refine G_storeA rfl rfl rfl rfl (by simp [Value.oneCell']) rfl (.none rfl) (.head _ _ _) rfl ?_
        refine G_end (X_then ?_)
        refine G_begin (.tail _ (.head _ _ _)) ?_
        refine G_block (G_seq (G_region ?_))
        refine Gv (V_fieldAddr rfl rfl (by decide)) ?_
        refine Gv (V_load rfl rfl (Cell.own (.head _) rfl)) ?_
        refine Gv (V_lenS rfl rfl) ?_
        refine Gv (V_gtr rfl rfl rfl) ?_
        refine G_end (X_then ?_)
        refine G_cond_t rfl (decide_eq_true (by omega)) ?_
        refine G_seq (G_region ?_)
        refine G_store1 rfl rfl rfl rfl rfl rfl (.none rfl) (.tail _ (.tail _ (.tail _ (.head _ _ _)))) ?_
        refine G_end (X_then (G_ret (X_block_ret ?_)))
        refine G.drop ?_
        exact G_rRet 6 ⟨rfl, rfl, List.any_eq_true.2 ⟨x, List.mem_of_getElem? hx, decide_eq_true hb⟩⟩ rfl (.refl _) rfl
      · refine G_region ?_
        (refine G_alloc rfl rfl rfl (.none rfl) ?_; intro b4)
        refine G_storeA rfl rfl rfl rfl (by simp [Value.oneCell']) rfl (.none rfl) (.head _ _ _) rfl ?_
        refine G_end (X_then ?_)
        refine G_begin (.tail _ (.head _ _ _)) ?_
        refine G_block (G_seq (G_region ?_))
        refine Gv (V_fieldAddr rfl rfl (by decide)) ?_
        refine Gv (V_load rfl rfl (Cell.own (.head _) rfl)) ?_
        refine Gv (V_lenS rfl rfl) ?_
        refine Gv (V_gtr rfl rfl rfl) ?_
        refine G_end (X_then ?_)
        refine G_cond_f rfl (decide_eq_false (by omega)) ?_
        refine G_skip (X_block ?_)
        refine G.drop ?_
        refine G_rEnd 0 ⟨rfl, ?_⟩ rfl (.refl _) rfl
        intro i hi hi2
        simp only [List.length_append, List.length_singleton] at hi
        by_cases he : i = pre.length
        · subst he
          have : rows[pre.length] = x := by rw [List.getElem?_eq_getElem hi2] at hx; exact Option.some.inj hx
          rw [this]; exact decide_eq_false hb
        · exact hall i (by omega) hi2
    · rintro D v ⟨rfl, hall⟩ hE
      rw [any_none fun i hi => hall i (by simpa using hi) hi]
      refine X_block (X_then (G_seq (G_region ?_)))
      refine G_store1 rfl rfl rfl rfl rfl rfl (.none rfl) (.tail _ (.head _ _ _)) ?_
      refine G_end (X_then (G_ret ?_))
      refine G_leave_ms [D] ?_
      refine G_leaveS (.drop _ (.drop _ (.nil _))) (by exact (.cons (.cell1 rfl (Cell.own1 (.head _))) (.nil))) rfl ?_ ?_
      · exact (.refl _)
      exact ⟨(by kernel_rfl), rfl⟩
    · rintro D q pre v hpre ⟨rfl, rfl, hs⟩ hE
      rw [hs]
      refine G_ret (X_block_ret (X_then_ret ?_))
      refine G_leave_ms [D] ?_
      refine G_leaveS (.drop _ (.drop _ (.nil _))) (by exact (.cons (.cell1 rfl (Cell.own1 (.head _))) (.nil))) rfl ?_ ?_
      · exact (.refl _)
      exact ⟨(by kernel_rfl), rfl⟩
  · have : fullB g = true := fullB_pos h1
    rw [if_pos this]
    refine G_seq (G_region ?_)
    (refine G_boxA rfl rfl rfl rfl (.none rfl) ?_; intro b1)
    (refine G_alloc rfl rfl rfl (.none rfl) ?_; intro b2)
    refine G_end (X_then (G_seq (G_seq (G_region ?_))))
    refine Gv (V_fieldAddr rfl rfl (by decide)) ?_
    refine Gv (V_load rfl rfl (Cell.own (.tail _ (.head _)) rfl)) ?_
    refine Gv (V_lenS rfl rfl) ?_
    refine Gv (V_gtr rfl rfl rfl) ?_
    refine Gm ?_
    apply G_joinOr 5 9 14 rfl
    · intro H1
      dsimp only [List.take]
      simp only [Bool.and_eq_true, Bool.or_eq_true, Bool.not_eq_true', Bool.not_eq_false', Bool.and_eq_false_iff, Bool.or_eq_false_iff, Bool.not_not, decide_eq_true_eq, decide_eq_false_iff_not, ne_eq, Decidable.not_not, Bool.decide_eq_true] at H1
      refine Gn ?_
      refine Gn ?_
      refine Gn ?_
      refine Gn ?_
      refine Gv (V_pick_t rfl rfl rfl) ?_
      refine G_end ?_
      exact JQ_end 5 rfl rfl (by kernel_rfl)
    · intro H2
      dsimp only [List.take]
      simp only [Bool.and_eq_true, Bool.or_eq_true, Bool.not_eq_true', Bool.not_eq_false', Bool.and_eq_false_iff, Bool.or_eq_false_iff, Bool.not_not, decide_eq_true_eq, decide_eq_false_iff_not, ne_eq, Decidable.not_not, Bool.decide_eq_true] at H2
      refine Gy (V_fieldAddr rfl rfl (by decide)) ?_
      refine Gy (V_load rfl rfl (Cell.own (.tail _ (.head _)) rfl)) ?_
      refine Gy (V_lenS rfl rfl) ?_
      refine Gy (V_gtr rfl rfl rfl) ?_
      refine Gv (V_pick_f rfl rfl rfl) ?_
      refine G_end ?_
      exact JQ_end 5 rfl rfl (by kernel_rfl)
    dsimp only [List.drop]
    refine Gm ?_
    apply G_joinOr 5 15 20 rfl
    · intro H3
      dsimp only [List.take]
      simp only [Bool.and_eq_true, Bool.or_eq_true, Bool.not_eq_true', Bool.not_eq_false', Bool.and_eq_false_iff, Bool.or_eq_false_iff, Bool.not_not, decide_eq_true_eq, decide_eq_false_iff_not, ne_eq, Decidable.not_not, Bool.decide_eq_true] at H3
      refine Gn ?_
      refine Gn ?_
      refine Gn ?_
      refine Gn ?_
      refine Gv (V_pick_t rfl rfl rfl) ?_
      refine G_end ?_
      exact JQ_end 5 rfl rfl (by kernel_rfl)
    · intro H4
      dsimp only [List.take]
      simp only [Bool.and_eq_true, Bool.or_eq_true, Bool.not_eq_true', Bool.not_eq_false', Bool.and_eq_false_iff, Bool.or_eq_false_iff, Bool.not_not, decide_eq_true_eq, decide_eq_false_iff_not, ne_eq, Decidable.not_not, Bool.decide_eq_true] at H4
      refine Gy (V_fieldAddr rfl rfl (by decide)) ?_
      refine Gy (V_load rfl rfl (Cell.own (.tail _ (.head _)) rfl)) ?_
      refine Gy (V_lenS rfl rfl) ?_
      refine Gy (V_gtr rfl rfl rfl) ?_
      refine Gv (V_pick_f rfl rfl rfl) ?_
      refine G_end ?_
      exact JQ_end 5 rfl rfl (by kernel_rfl)
    dsimp only [List.drop]
    refine G_end (X_then ?_)
    refine G_cond rfl (fun H5 => ?_) (fun H5 => ?_)
    · simp only [Bool.and_eq_true, Bool.or_eq_true, Bool.not_eq_true', Bool.not_eq_false', Bool.and_eq_false_iff, Bool.or_eq_false_iff, Bool.not_not, decide_eq_true_eq, decide_eq_false_iff_not, ne_eq, Decidable.not_not, Bool.decide_eq_true] at H5
      refine G_seq (G_region ?_)
      refine G_store1 rfl rfl rfl rfl rfl rfl (.none rfl) (.head _ _ _) ?_
      refine G_end (X_then (G_ret (X_then_ret ?_)))
      refine G_leaveS (.drop _ (.drop _ (.nil _))) (by exact (.cons (.cell1 rfl (Cell.own1 (.head _))) (.nil))) rfl ?_ ?_
      · exact (.refl _)
      exact ⟨(by kernel_rfl), rfl⟩
    simp only [Bool.and_eq_true, Bool.or_eq_true, Bool.not_eq_true', Bool.not_eq_false', Bool.and_eq_false_iff, Bool.or_eq_false_iff, Bool.not_not, decide_eq_true_eq, decide_eq_false_iff_not, ne_eq, Decidable.not_not, Bool.decide_eq_true] at H5
    (exfalso; omega)
end
end Go.Proofs.YtaibabmladgldaaGreatDoor
set_option linter.unusedSimpArgs false
set_option linter.unusedVariables false
set_option maxHeartbeats 2000000
set_option maxRecDepth 20000
namespace Go.Proofs.YtaibabmladgldaaGreatDoor
open Go.RowKit
section
variable (E : Env) (L : List Res)
def shortB (g : Gr) : Bool := decide (g.toks.length = 0) || decide (g.names.length = 0)
def smallsB (g : Gr) : Bool := (g.toks ++ [g.sep]).all smallB && g.names.all capB
theorem Light.small {g : Gr} (h : Light g) : ∀ s, s ∈ g.toks ++ [g.sep] → s.length ≤ 40 := by
  intro s hs
  rcases List.mem_append.1 hs with hs | hs
  · exact h.ts s hs
  · rw [List.mem_singleton.1 hs]; exact h.sep
theorem named_call (gv : Value) (g : Gr) (hg : GrE E gv g) (hl : Light g) : CallV Tryz.prog 47 #[gv] E L (.int .i64 (if shortB g = true then 5 else if smallsB g = true then 0 else 12)) := by
  obtain ⟨tp, tc, np, nc, pp, pc, rfl, ht, hn, ⟨rows, hrows, hps, hre⟩, k1, k2, k3⟩ := hg
  have hlen : g.prods.length = rows.length := by rw [← hrows]; simp
  have q1 := hl.t; have q2 := hl.n; have q3 := hl.p
  refine CallS.toV (CallS.intro (l := [_]) _ Tryz.func47 rfl Tryz.ntmps47 rfl ?_)
  by_cases h1 : g.toks.length = 0 ∨ g.names.length = 0
  · have : shortB g = true := by simp only [shortB, Bool.or_eq_true, decide_eq_true_eq]; exact h1
    rw [if_pos this]
    refine G_seq (G_region ?_)
    (refine G_boxA rfl rfl rfl rfl (.none rfl) ?_; intro b1)
    refine Ga ?_
    refine G_end (X_then (G_seq (G_seq (G_region ?_))))
    refine Gv (V_fieldAddr rfl rfl (by decide)) ?_
    refine Gv (V_load rfl rfl (Cell.own (.head _) rfl)) ?_
    refine Gv (V_lenS rfl rfl) ?_
    refine Gv (V_eql rfl rfl rfl) ?_
    refine Gm ?_
    apply G_joinOr 5 11 16 rfl
    · intro H1
      dsimp only [List.take]
      simp only [Bool.and_eq_true, Bool.or_eq_true, Bool.not_eq_true', Bool.not_eq_false', Bool.and_eq_false_iff, Bool.or_eq_false_iff, Bool.not_not, decide_eq_true_eq, decide_eq_false_iff_not, ne_eq, Decidable.not_not, Bool.decide_eq_true] at H1
      refine Gn ?_
      refine Gn ?_
      refine Gn ?_
      refine Gn ?_
      refine Gv (V_pick_t rfl rfl rfl) ?_
      refine G_end ?_
      exact JQ_end 5 rfl rfl (by kernel_rfl)
    · intro H2
      dsimp only [List.take]
      simp only [Bool.and_eq_true, Bool.or_eq_true, Bool.not_eq_true', Bool.not_eq_false', Bool.and_eq_false_iff, Bool.or_eq_false_iff, Bool.not_not, decide_eq_true_eq, decide_eq_false_iff_not, ne_eq, Decidable.not_not, Bool.decide_eq_true] at H2
      refine Gy (V_fieldAddr rfl rfl (by decide)) ?_
      refine Gy (V_load rfl rfl (Cell.own (.head _) rfl)) ?_
      refine Gy (V_lenS rfl rfl) ?_
      refine Gy (V_eql rfl rfl rfl) ?_
      refine Gv (V_pick_f rfl rfl rfl) ?_
      refine G_end ?_
      exact JQ_end 5 rfl rfl (by kernel_rfl)
    dsimp only [List.drop]
    refine G_end (X_then ?_)
    refine G_cond rfl (fun H3 => ?_) (fun H3 => ?_)
    · simp only [Bool.and_eq_true, Bool.or_eq_true, Bool.not_eq_true', Bool.not_eq_false', Bool.and_eq_false_iff, Bool.or_eq_false_iff, Bool.not_not, decide_eq_true_eq, decide_eq_false_iff_not, ne_eq, Decidable.not_not, Bool.decide_eq_true] at H3
      refine G_seq (G_region ?_)
      refine Ga ?_
      refine G_end (X_then (G_ret (X_then_ret ?_)))
      refine G_leaveS (.drop _ (.nil _)) (by exact (.cons (.tmp rfl) (.nil))) rfl ?_ ?_
      · exact (.refl _)
      exact ⟨(by kernel_rfl), rfl⟩
    simp only [Bool.and_eq_true, Bool.or_eq_true, Bool.not_eq_true', Bool.not_eq_false', Bool.and_eq_false_iff, Bool.or_eq_false_iff, Bool.not_not, decide_eq_true_eq, decide_eq_false_iff_not, ne_eq, Decidable.not_not, Bool.decide_eq_true] at H3
    (exfalso; omega)
  · have : ¬ shortB g = true := by simp only [shortB, Bool.or_eq_true, decide_eq_true_eq]; exact h1
    rw [if_neg this]
    have h2 : ¬ g.toks.length = 0 := fun h => h1 (.inl h)
    have h3 : ¬ g.names.length = 0 := fun h => h1 (.inr h)
    refine G_seq (G_region ?_)
    (refine G_boxA rfl rfl rfl rfl (.none rfl) ?_; intro b1)
    refine Ga ?_
    refine G_end (X_then (G_seq (G_seq (G_region ?_))))
    refine Gv (V_fieldAddr rfl rfl (by decide)) ?_
    refine Gv (V_load rfl rfl (Cell.own (.head _) rfl)) ?_
    refine Gv (V_lenS rfl rfl) ?_
    refine Gv (V_eql rfl rfl rfl) ?_
    refine Gm ?_
    refine G.bool_f 11 rfl (decide_eq_false (by omega)) ?_
    refine Gy (V_fieldAddr rfl rfl (by decide)) ?_
    refine Gy (V_load rfl rfl (Cell.own (.head _) rfl)) ?_
    refine Gy (V_lenS rfl rfl) ?_
    refine Gy (V_eql rfl rfl rfl) ?_
    refine Gv (V_pick_f rfl rfl rfl) ?_
    refine G_end (X_then ?_)
    refine G_cond_f rfl (decide_eq_false (by omega)) ?_
    refine G_skip (X_then (G_seq (G_seq ?_)))
    refine G_drawX 15 [(0, 0), (1, 1), (2, 0), (3, 1), (4, 0), (5, 0), (6, 1), (7, 0), (8, 0), (9, 0), (10, 1), (11, 2), (12, 3), (13, 0), (14, 0)] mixed (by kernel_rfl) ?_
    refine F_pure rfl (fun _ _ => V_fieldAddr rfl rfl (by decide)) rfl rfl (.none rfl) ?_
    refine F_load rfl (.head _) (V_load rfl rfl (Cell.own (.head _) rfl)) rfl rfl (.none rfl) ?_
    refine F_pure rfl (fun _ _ => V_fieldAddr rfl rfl (by decide)) rfl rfl (.none rfl) ?_
    refine F_load rfl (.head _) (V_load rfl rfl (Cell.own (.head _) rfl)) rfl rfl (.none rfl) ?_
    refine F_pure rfl (fun _ _ => V_lenS rfl rfl) rfl rfl (.none rfl) ?_
    refine F_pure rfl (fun _ _ => V_fieldAddr rfl rfl (by decide)) rfl rfl (.none rfl) ?_
    refine F_load rfl (.head _) (V_load rfl rfl (Cell.own (.head _) rfl)) rfl rfl (.none rfl) ?_
    refine F_pure rfl (fun _ _ => V_lenS rfl rfl) rfl rfl (.none rfl) ?_
    refine F_pure rfl (fun _ _ => V_sl3n rfl rfl rfl rfl (by omega) (by omega)) rfl rfl (.none rfl) ?_
    refine F_pure rfl (fun _ _ => V_fieldAddr rfl rfl (by decide)) rfl rfl (.none rfl) ?_
    refine F_load rfl (.head _) (V_load rfl rfl (Cell.own (.head _) rfl)) rfl rfl (.none rfl) ?_
    (refine F_litZ rfl rfl rfl (by decide) (by simp [fillS, zeros, setLs, setL, Value.cells, List.range, List.range.loop]; rfl) (by rfl) rfl rfl (.none rfl) ?_; intro b28 E28 hE28 hs28)
    replace ht := ht.mono hE28
    replace hn := hn.mono hE28
    replace hps := hps.mono hE28
    replace hre := hre.mono hE28
    (refine F_appendZ rfl rfl rfl rfl (by assumption) (by assumption) (by omega) (by omega) (by omega) rfl rfl (.none rfl) ?_; intro b29 c29 E29 hE29 hs29 hc29)
    replace hs28 := hs28.mono hE29
    replace ht := ht.mono hE29
    replace hn := hn.mono hE29
    replace hps := hps.mono hE29
    replace hre := hre.mono hE29
    refine F_pure rfl (fun _ _ => V_lenS rfl rfl) rfl rfl (.none rfl) ?_
    refine F_pure rfl (fun _ _ => V_move rfl rfl) rfl rfl (.none rfl) ?_
    (refine F_end (.nil _) ?_; dsimp only [List.drop])
    refine G_end (X_then (G_block ?_))
    obtain ⟨l, hll⟩ : ∃ l, g.toks ++ [g.sep] = l := ⟨_, rfl⟩
    have hlen2 : l.length = g.toks.length + 1 := by rw [← hll]; simp
    replace hs29 : SlE E29 1 (some ⟨b29, 0, none⟩) (g.toks.length + 1) (strs l) := by rw [← hll]; simpa [strs] using hs29
    have hsm : ∀ s, s ∈ l → s.length ≤ 40 := by rw [← hll]; exact hl.small
    rw [smallsB, hll]
    refine G_loop (α := Nat) (fun i => [(1, .pointer (some ⟨b1, 0, none⟩)), (29, .slice (some ⟨b29, 0, none⟩) (g.toks.length + 1) c29), (30, .int .i64 ((g.toks.length + 1 : Nat) : Int)), (31, .int .i64 i)]) (fun _ => E29) (fun _ => GB b1 g tp tc np nc pp pc :: L)
      (fun i => i ≤ l.length ∧ ∀ k, k < i → (hk : k < l.length) → smallB l[k] = true) (fun i => l.length - i) 0 ⟨Nat.zero_le _, fun k hk => by cases hk⟩ ⟨rfl, rfl, rfl, rfl, trivial⟩ rfl rfl ?_
    rintro i ⟨hi, hall⟩
    by_cases hlt : i < l.length
    · have hx := strs_get (List.getElem?_eq_getElem hlt)
      have hq : l[i].length ≤ 40 := hsm _ (List.getElem_mem hlt)
      cases hb : smallB l[i] with
      | true =>
        refine G_seq (G_region ?_)
        refine Gv (V_lss rfl rfl rfl) ?_
        refine G_end (X_then (G_seq ?_))
        refine G_cond_t rfl (decide_eq_true (by omega)) ?_
        refine G_skip (X_then (G_seq (G_block (G_seq (G_region ?_)))))
        refine Gv (V_idxAddr rfl rfl rfl (SlE.rd (by assumption)) (by omega) (by omega)) ?_
        refine Gv (V_loadS rfl rfl (SlE.rd (by assumption)) (by assumption) (by simp)) ?_
        refine Ga ?_
        refine G_end (X_then (G_seq (G_region ?_)))
        refine Gm ?_
        refine G_callv (k := 63) (.mk rfl rfl rfl rfl) rfl rfl (.none rfl) (Small_call _ _ _ (by omega)) ?_
        refine Gv (V_not rfl rfl) ?_
        refine G_end (X_then ?_)
        refine G_cond_f rfl (by simp [*]; done) ?_
        refine G_skip (X_block (X_then (G_region ?_)))
        refine Gv (V_add_i64 rfl rfl rfl (by omega) (by omega)) ?_
        refine Gm ?_
        refine G_end (X_then ?_)
        refine G_again (i + 1) ⟨hlt, ?_⟩ (by omega) ⟨rfl, rfl, rfl, rfl, trivial⟩ rfl rfl
        intro k hk hk2
        by_cases he : k = i
        · subst he; exact hb
        · exact hall k (by omega) hk2
      | false =>
        rw [all_not hlt hb]
        refine G_seq (G_region ?_)
        refine Gv (V_lss rfl rfl rfl) ?_
        refine G_end (X_then (G_seq ?_))
        refine G_cond_t rfl (decide_eq_true (by omega)) ?_
        refine G_skip (X_then (G_seq (G_block (G_seq (G_region ?_)))))
        refine Gv (V_idxAddr rfl rfl rfl (SlE.rd (by assumption)) (by omega) (by omega)) ?_
        refine Gv (V_loadS rfl rfl (SlE.rd (by assumption)) (by assumption) (by simp)) ?_
        refine Ga ?_
        refine G_end (X_then (G_seq (G_region ?_)))
        refine Gm ?_
        refine G_callv (k := 63) (.mk rfl rfl rfl rfl) rfl rfl (.none rfl) (Small_call _ _ _ (by omega)) ?_
        refine Gv (V_not rfl rfl) ?_
        refine G_end (X_then ?_)
        refine G_cond_t rfl (by simp [*]; done) ?_
        refine G_seq (G_region ?_)
        refine Ga ?_
        refine G_end (X_then (G_ret (X_block_ret (X_then_ret (X_then_ret (X_block_ret (X_then_ret ?_)))))))
        refine G_leaveS (.drop _ (.nil _)) (by exact (.cons (.tmp rfl) (.nil))) rfl ?_ ?_
        · exact (hE28.trans hE29)
        exact ⟨rfl, rfl⟩
    · have hie : i = l.length := by omega
      subst hie
      rw [all_of fun k hk => hall k hk hk]
      refine G_seq (G_region ?_)
      refine Gv (V_lss rfl rfl rfl) ?_
      refine G_end (X_then (G_seq ?_))
      refine G_cond_f rfl (decide_eq_false (by omega)) ?_
      refine G_exit (X_then_exit (X_then_exit (X_block_hit (X_then (G_seq (G_seq (G_region ?_)))))))
      refine Gv (V_fieldAddr rfl rfl (by decide)) ?_
      refine Gv (V_load rfl rfl (Cell.own (.head _) rfl)) ?_
      refine Gv (V_lenS rfl rfl) ?_
      refine Gm ?_
      refine G_end (X_then (G_block ?_))
      refine G_loop (α := Nat) (fun i => [(40, .slice np g.names.length nc), (41, .int .i64 g.names.length), (42, .int .i64 i)]) (fun _ => E29) (fun _ => GB b1 g tp tc np nc pp pc :: L)
        (fun i => i ≤ g.names.length ∧ ∀ k, k < i → (hk : k < g.names.length) → capB g.names[k] = true) (fun i => g.names.length - i) 0 ⟨Nat.zero_le _, fun k hk => by cases hk⟩ ⟨rfl, rfl, rfl, trivial⟩ rfl rfl ?_
      rintro i ⟨hi, hall2⟩
      by_cases hlt : i < g.names.length
      · have hx := strs_get (List.getElem?_eq_getElem hlt)
        have hq : g.names[i].length ≤ 40 := hl.ns _ (List.getElem_mem hlt)
        cases hb : capB g.names[i] with
        | true =>
          refine G_seq (G_region ?_)
          refine Gv (V_lss rfl rfl rfl) ?_
          refine G_end (X_then (G_seq ?_))
          refine G_cond_t rfl (decide_eq_true (by omega)) ?_
          refine G_skip (X_then (G_seq (G_block (G_seq (G_region ?_)))))
          refine Gv (V_idxAddr rfl rfl rfl (SlE.rd (by assumption)) (by omega) (by omega)) ?_
          refine Gv (V_loadS rfl rfl (SlE.rd (by assumption)) (by assumption) (by simp)) ?_
          refine Ga ?_
          refine G_end (X_then (G_seq (G_region ?_)))
          refine Gm ?_
          refine G_callv (k := 64) (.mk rfl rfl rfl rfl) rfl rfl (.none rfl) (Capital_call _ _ _ (by omega)) ?_
          refine Gv (V_not rfl rfl) ?_
          refine G_end (X_then ?_)
          refine G_cond_f rfl (by simp [*]; done) ?_
          refine G_skip (X_block (X_then (G_region ?_)))
          refine Gv (V_add_i64 rfl rfl rfl (by omega) (by omega)) ?_
          refine Gm ?_
          refine G_end (X_then ?_)
          refine G_again (i + 1) ⟨hlt, ?_⟩ (by omega) ⟨rfl, rfl, rfl, trivial⟩ rfl rfl
          intro k hk hk2
          by_cases he : k = i
          · subst he; exact hb
          · exact hall2 k (by omega) hk2
        | false =>
          rw [all_not hlt hb]
          refine G_seq (G_region ?_)
          refine Gv (V_lss rfl rfl rfl) ?_
          refine G_end (X_then (G_seq ?_))
          refine G_cond_t rfl (decide_eq_true (by omega)) ?_
          refine G_skip (X_then (G_seq (G_block (G_seq (G_region ?_)))))
          refine Gv (V_idxAddr rfl rfl rfl (SlE.rd (by assumption)) (by omega) (by omega)) ?_
          refine Gv (V_loadS rfl rfl (SlE.rd (by assumption)) (by assumption) (by simp)) ?_
          refine Ga ?_
          refine G_end (X_then (G_seq (G_region ?_)))
          refine Gm ?_
          refine G_callv (k := 64) (.mk rfl rfl rfl rfl) rfl rfl (.none rfl) (Capital_call _ _ _ (by omega)) ?_
          refine Gv (V_not rfl rfl) ?_
          refine G_end (X_then ?_)
          refine G_cond_t rfl (by simp [*]; done) ?_
          refine G_seq (G_region ?_)
          refine Ga ?_
          refine G_end (X_then (G_ret (X_block_ret (X_then_ret (X_then_ret (X_block_ret (X_then_ret ?_)))))))
          refine G_leaveS (.drop _ (.nil _)) (by exact (.cons (.tmp rfl) (.nil))) rfl ?_ ?_
          · exact (hE28.trans hE29)
          exact ⟨(by kernel_rfl), rfl⟩
      · rw [all_of fun k hk => hall2 k (by omega) hk]
        refine G_seq (G_region ?_)
        refine Gv (V_lss rfl rfl rfl) ?_
        refine G_end (X_then (G_seq ?_))
        refine G_cond_f rfl (decide_eq_false (by omega)) ?_
        refine G_exit (X_then_exit (X_then_exit (X_block_hit (X_then (G_seq (G_region ?_))))))
        refine Ga ?_
        refine G_end (X_then (G_ret ?_))
        refine G_leaveS (.drop _ (.nil _)) (by exact (.cons (.tmp rfl) (.nil))) rfl ?_ ?_
        · exact (hE28.trans hE29)
        exact ⟨(by kernel_rfl), rfl⟩
end
end Go.Proofs.YtaibabmladgldaaGreatDoor
set_option linter.unusedSimpArgs false
set_option linter.unusedVariables false
set_option maxHeartbeats 2000000
set_option maxRecDepth 20000
namespace Go.Proofs.YtaibabmladgldaaGreatDoor
open Go.RowKit
def yes (l : List (List UInt8)) : List (List UInt8 × Value) := l.map fun s => (s, .bool true)
theorem yes_get (l : List (List UInt8)) (s : List UInt8) : mget (yes l) s = if s ∈ l then some (.bool true) else none := by
  induction l with
  | nil => rfl
  | cons a l ih =>
    simp only [yes, List.map_cons, mget, List.mem_cons] at ih ⊢
    by_cases h : s = a
    · simp [h]
    · rw [if_neg h, ih]; simp [h]
theorem yes_put (l : List (List UInt8)) (s : List UInt8) (h : s ∉ l) : mput (yes l) s (.bool true) = yes (l ++ [s]) := by
  induction l with
  | nil => rfl
  | cons a l ih =>
    simp only [List.mem_cons, not_or] at h
    have := ih h.2
    simp only [yes, List.map_cons, List.cons_append, mput, if_neg h.1] at this ⊢
    rw [this]
def dupB (l : List (List UInt8)) : Bool := !decide l.Nodup
theorem nodup_take {α : Type} {l : List α} {i : Nat} (hi : i < l.length) (h : (l.take i).Nodup) (hn : l[i] ∉ l.take i) : (l.take (i + 1)).Nodup := by
  rw [List.take_succ_eq_append_getElem hi, List.nodup_append]
  refine ⟨h, by simp, fun a ha b hb => ?_⟩
  rw [List.mem_singleton.1 hb]
  exact fun e => hn (e ▸ ha)
theorem dup_at {α : Type} {l : List α} {i : Nat} (hi : i < l.length) (hn : l[i] ∈ l.take i) : ¬ l.Nodup := by
  intro h
  have h2 : (l.take (i + 1)).Nodup := (List.take_sublist _ _).nodup h
  rw [List.take_succ_eq_append_getElem hi, List.nodup_append] at h2
  exact h2.2.2 _ hn _ (List.mem_singleton.2 rfl) rfl
section
variable (E : Env) (L : List Res)
theorem different_call (gv : Value) (g : Gr) (hg : GrE E gv g) (hl : Light g) : CallV Tryz.prog 48 #[gv] E L (.int .i64 (if dupB (g.toks ++ [g.sep] ++ g.names) = true then 8 else 0)) := by
  obtain ⟨tp, tc, np, nc, pp, pc, rfl, ht, hn, ⟨rows, hrows, hps, hre⟩, k1, k2, k3⟩ := hg
  have hlen : g.prods.length = rows.length := by rw [← hrows]; simp
  have q1 := hl.t; have q2 := hl.n; have q3 := hl.p
  refine CallS.toV (CallS.intro (l := [_]) _ Tryz.func48 rfl Tryz.ntmps48 rfl ?_)
  refine G_seq (G_region ?_)
  (refine G_boxA rfl rfl rfl rfl (.none rfl) ?_; intro b1)
  refine Ga ?_
  refine G_end (X_then (G_seq (G_region ?_)))
  (refine G_makeMap kS rfl rfl rfl (.none rfl) ?_; intro b6)
  refine Ga ?_
  refine G_end (X_then (G_seq (G_seq ?_)))
  refine G_drawX 18 [(0, 0), (1, 1), (2, 0), (3, 1), (4, 0), (5, 0), (6, 1), (7, 0), (8, 0), (9, 0), (10, 1), (13, 0), (14, 1), (11, 2), (12, 3), (15, 3), (16, 0), (17, 0)] mixed (by kernel_rfl) ?_
  refine F_pure rfl (fun _ _ => V_fieldAddr rfl rfl (by decide)) rfl rfl (.none rfl) ?_
  refine F_load rfl (.tail _ (.head _)) (V_load rfl rfl (Cell.own (.head _) rfl)) rfl rfl (.none rfl) ?_
  refine F_pure rfl (fun _ _ => V_fieldAddr rfl rfl (by decide)) rfl rfl (.none rfl) ?_
  refine F_load rfl (.tail _ (.head _)) (V_load rfl rfl (Cell.own (.head _) rfl)) rfl rfl (.none rfl) ?_
  refine F_pure rfl (fun _ _ => V_lenS rfl rfl) rfl rfl (.none rfl) ?_
  refine F_pure rfl (fun _ _ => V_fieldAddr rfl rfl (by decide)) rfl rfl (.none rfl) ?_
  refine F_load rfl (.tail _ (.head _)) (V_load rfl rfl (Cell.own (.head _) rfl)) rfl rfl (.none rfl) ?_
  refine F_pure rfl (fun _ _ => V_lenS rfl rfl) rfl rfl (.none rfl) ?_
  refine F_pure rfl (fun _ _ => V_sl3n rfl rfl rfl rfl (by omega) (by omega)) rfl rfl (.none rfl) ?_
  refine F_pure rfl (fun _ _ => V_fieldAddr rfl rfl (by decide)) rfl rfl (.none rfl) ?_
  refine F_load rfl (.tail _ (.head _)) (V_load rfl rfl (Cell.own (.head _) rfl)) rfl rfl (.none rfl) ?_
  refine F_pure rfl (fun _ _ => V_fieldAddr rfl rfl (by decide)) rfl rfl (.none rfl) ?_
  refine F_load rfl (.tail _ (.head _)) (V_load rfl rfl (Cell.own (.head _) rfl)) rfl rfl (.none rfl) ?_
  (refine F_litZ rfl rfl rfl (by decide) (by simp [fillS, zeros, setLs, setL, Value.cells, List.range, List.range.loop]; rfl) (by rfl) rfl rfl (.none rfl) ?_; intro b18 E18 hE18 hs18)
  replace ht := ht.mono hE18
  replace hn := hn.mono hE18
  replace hps := hps.mono hE18
  replace hre := hre.mono hE18
  (refine F_appendO rfl rfl rfl rfl (by assumption) (by assumption) (by omega) (by omega) (by omega) rfl rfl (.none rfl) ?_; intro b19 c19)
  (refine F_append2 rfl rfl rfl rfl (by assumption) (by simp [Value.oneCell', strs, i64s]) (by omega) (by omega) rfl rfl (.none rfl) (fun _ _ => (.head _ _ _)) ?_; intro b22 c22 N22; dsimp only [List.cons_append])
  refine F_pure rfl (fun _ _ => V_lenS rfl rfl) rfl rfl (.none rfl) ?_
  refine F_pure rfl (fun _ _ => V_move rfl rfl) rfl rfl (.none rfl) ?_
  (refine F_end (.keep _ (.keep _ (.keep _ (.suf _ (.nil _))))) ?_; dsimp only [List.drop])
  refine G_end (X_then (G_block ?_))
  obtain ⟨l, hll⟩ : ∃ l, g.toks ++ [g.sep] ++ g.names = l := ⟨_, rfl⟩
  have hlen2 : l.length = g.toks.length + 1 + g.names.length := by rw [← hll]; simp; omega
  refine G.freezeSl (.head _ _) ?_
  intro E1 hE1 hs hc
  replace hs : SlE E1 1 (some ⟨b22, 0, none⟩) (g.toks.length + 1 + g.names.length) (strs l) := by rw [← hll]; simpa [strs] using hs
  rw [← hlen2] at hs ⊢
  rw [hll]
  refine G_loop (α := Nat) (fun i => [(3, .map (some b6)), (22, .slice (some ⟨b22, 0, none⟩) l.length c22), (23, .int .i64 l.length), (24, .int .i64 i)]) (fun _ => E1) (fun i => .blk b6 (mobj kS (yes (l.take i))) :: GB b1 g tp tc np nc pp pc :: L)
    (fun i => i ≤ l.length ∧ (l.take i).Nodup) (fun i => l.length - i) 0 ⟨Nat.zero_le _, by simp⟩ ⟨rfl, rfl, rfl, rfl, trivial⟩ rfl rfl ?_
  rintro i ⟨hi, hall⟩
  by_cases hlt : i < l.length
  · have hx := strs_get (List.getElem?_eq_getElem hlt)
    refine G_seq (G_region ?_)
    refine Gv (V_lss rfl rfl rfl) ?_
    refine G_end (X_then (G_seq ?_))
    refine G_cond_t rfl (decide_eq_true (by omega)) ?_
    refine G_skip (X_then (G_seq (G_block (G_seq (G_region ?_)))))
    refine Gv (V_idxAddr rfl rfl rfl (SlE.rd (by assumption)) (by omega) (by omega)) ?_
    refine Gv (V_loadS rfl rfl (SlE.rd (by assumption)) (by assumption) (by simp)) ?_
    refine Ga ?_
    refine G_end (X_then (G_seq (G_seq (G_region ?_))))
    refine Gm ?_
    refine Gm ?_
    refine Gv (V_lookup kS _ rfl rfl rfl (.head _)) ?_
    refine G_end (X_then ?_)
    rw [yes_get]
    by_cases hb : l[i] ∈ l.take i
    · have hd : dupB l = true := by simp [dupB, dup_at hlt hb]
      rw [if_pos hb, Option.getD_some, hd]
      refine G_cond_t rfl rfl ?_
      refine G_seq (G_region ?_)
      refine Ga ?_
      refine G_end (X_then (G_ret (X_then_ret (X_block_ret (X_then_ret (X_then_ret (X_block_ret (X_then_ret ?_))))))))
      refine G_leaveS (.drop _ (.drop _ (.nil _))) (by exact (.cons (.tmp rfl) (.nil))) rfl ?_ ?_
      · exact (hE18.trans hE1)
      exact ⟨(by kernel_rfl), rfl⟩
    · rw [if_neg hb, Option.getD_none]
      refine G_cond_f rfl rfl ?_
      refine G_skip (X_then (G_region ?_))
      refine Gm ?_
      refine Gm ?_
      refine G_mapUpdate kS _ (.inl rfl) rfl rfl rfl rfl (.none rfl) (.head _ _ _) ?_
      refine G_end (X_block (X_then (G_region ?_)))
      refine Gv (V_add_i64 rfl rfl rfl (by omega) (by omega)) ?_
      refine Gm ?_
      refine G_end (X_then ?_)
      rw [yes_put _ _ hb, ← List.take_succ_eq_append_getElem hlt]
      exact G_again (i + 1) ⟨hlt, nodup_take hlt hall hb⟩ (by omega) ⟨rfl, rfl, rfl, rfl, trivial⟩ rfl rfl
  · rw [List.take_of_length_le (by omega)] at hall
    have hd : dupB l = false := by simp [dupB, hall]
    rw [hd]
    refine G_seq (G_region ?_)
    refine Gv (V_lss rfl rfl rfl) ?_
    refine G_end (X_then (G_seq ?_))
    refine G_cond_f rfl (decide_eq_false (by omega)) ?_
    refine G_exit (X_then_exit (X_then_exit (X_block_hit (X_then (G_seq (G_region ?_))))))
    refine Ga ?_
    refine G_end (X_then (G_ret ?_))
    refine G_leaveS (.drop _ (.drop _ (.nil _))) (by exact (.cons (.tmp rfl) (.nil))) rfl ?_ ?_
    · exact (hE18.trans hE1)
    exact ⟨(by kernel_rfl), rfl⟩
def termB (g : Gr) (s : Int) : Bool := decide (0 ≤ s) && decide (s < g.toks.length)
def ntB (g : Gr) (s : Int) : Bool := decide (16 ≤ s) && decide (s < 16 + g.names.length)
theorem terminal_call (gv : Value) (g : Gr) (hg : GrE E gv g) (hl : Light g) (s : Int) : CallV Tryz.prog 68 #[gv, .int .i64 s] E L (.bool (termB g s)) := by
  obtain ⟨tp, tc, np, nc, pp, pc, rfl, ht, hn, ⟨rows, hrows, hps, hre⟩, k1, k2, k3⟩ := hg
  have q1 := hl.t; have q2 := hl.n; have q3 := hl.p
  refine CallS.toV (CallS.intro (l := [_, _]) _ Tryz.func68 rfl Tryz.ntmps68 rfl ?_)
  refine G_seq (G_region ?_)
  (refine G_boxA rfl rfl rfl rfl (.none rfl) ?_; intro b2)
  refine Ga ?_
  refine G_end (X_then (G_seq (G_region ?_)))
  refine Gm ?_
  refine Gv (V_geq rfl rfl rfl) ?_
  refine Gm ?_
  apply G_joinAnd 6 7 13 rfl
  · intro H1
    dsimp only [List.take]
    simp only [Bool.and_eq_true, Bool.or_eq_true, Bool.not_eq_true', Bool.not_eq_false', Bool.and_eq_false_iff, Bool.or_eq_false_iff, Bool.not_not, decide_eq_true_eq, decide_eq_false_iff_not, ne_eq, Decidable.not_not, Bool.decide_eq_true] at H1
    refine Gy (V_move rfl rfl) ?_
    refine Gy (V_fieldAddr rfl rfl (by decide)) ?_
    refine Gy (V_load rfl rfl (Cell.own (.head _) rfl)) ?_
    refine Gy (V_lenS rfl rfl) ?_
    refine Gy (V_lss rfl rfl rfl) ?_
    refine Gv (V_pick_t rfl rfl rfl) ?_
    refine G_end ?_
    exact JQ_end 6 rfl rfl (by kernel_rfl)
  · intro H2
    dsimp only [List.take]
    simp only [Bool.and_eq_true, Bool.or_eq_true, Bool.not_eq_true', Bool.not_eq_false', Bool.and_eq_false_iff, Bool.or_eq_false_iff, Bool.not_not, decide_eq_true_eq, decide_eq_false_iff_not, ne_eq, Decidable.not_not, Bool.decide_eq_true] at H2
    refine Gn ?_
    refine Gn ?_
    refine Gn ?_
    refine Gn ?_
    refine Gn ?_
    refine Gv (V_pick_f rfl rfl rfl) ?_
    refine G_end ?_
    exact JQ_end 6 rfl rfl (by kernel_rfl)
  dsimp only [List.drop]
  refine Ga ?_
  refine G_end (X_then (G_ret ?_))
  refine G_leaveS (.drop _ (.nil _)) (by exact (.cons (.tmp rfl) (.nil))) rfl ?_ ?_
  · exact (.refl _)
  exact ⟨rfl, rfl⟩
theorem nonterminal_call (gv : Value) (g : Gr) (hg : GrE E gv g) (hl : Light g) (s : Int) : CallV Tryz.prog 65 #[gv, .int .i64 s] E L (.bool (ntB g s)) := by
  obtain ⟨tp, tc, np, nc, pp, pc, rfl, ht, hn, ⟨rows, hrows, hps, hre⟩, k1, k2, k3⟩ := hg
  have q1 := hl.t; have q2 := hl.n; have q3 := hl.p
  refine CallS.toV (CallS.intro (l := [_, _]) _ Tryz.func65 rfl Tryz.ntmps65 rfl ?_)
  refine G_seq (G_region ?_)
  (refine G_boxA rfl rfl rfl rfl (.none rfl) ?_; intro b2)
  refine Ga ?_
  refine G_end (X_then (G_seq (G_region ?_)))
  refine Gm ?_
  refine Gv (V_geq rfl rfl rfl) ?_
  refine Gm ?_
  apply G_joinAnd 7 7 14 rfl
  · intro H1
    dsimp only [List.take]
    simp only [Bool.and_eq_true, Bool.or_eq_true, Bool.not_eq_true', Bool.not_eq_false', Bool.and_eq_false_iff, Bool.or_eq_false_iff, Bool.not_not, decide_eq_true_eq, decide_eq_false_iff_not, ne_eq, Decidable.not_not, Bool.decide_eq_true] at H1
    refine Gy (V_move rfl rfl) ?_
    refine Gy (V_fieldAddr rfl rfl (by decide)) ?_
    refine Gy (V_load rfl rfl (Cell.own (.head _) rfl)) ?_
    refine Gy (V_lenS rfl rfl) ?_
    refine Gy (V_add_i64 rfl rfl rfl (by omega) (by omega)) ?_
    refine Gy (V_lss rfl rfl rfl) ?_
    refine Gv (V_pick_t rfl rfl rfl) ?_
    refine G_end ?_
    exact JQ_end 7 rfl rfl (by kernel_rfl)
  · intro H2
    dsimp only [List.take]
    simp only [Bool.and_eq_true, Bool.or_eq_true, Bool.not_eq_true', Bool.not_eq_false', Bool.and_eq_false_iff, Bool.or_eq_false_iff, Bool.not_not, decide_eq_true_eq, decide_eq_false_iff_not, ne_eq, Decidable.not_not, Bool.decide_eq_true] at H2
    refine Gn ?_
    refine Gn ?_
    refine Gn ?_
    refine Gn ?_
    refine Gn ?_
    refine Gn ?_
    refine Gv (V_pick_f rfl rfl rfl) ?_
    refine G_end ?_
    exact JQ_end 7 rfl rfl (by kernel_rfl)
  dsimp only [List.drop]
  refine Ga ?_
  refine G_end (X_then (G_ret ?_))
  refine G_leaveS (.drop _ (.nil _)) (by exact (.cons (.tmp rfl) (.nil))) rfl ?_ ?_
  · exact (.refl _)
  exact ⟨rfl, rfl⟩
theorem symbols1_call (b : Nat) (g : Gr) (tp : Option Addr) (tc : Nat) (np : Option Addr) (nc : Nat) (pp : Option Addr) (pc : Nat) (hm : GB b g tp tc np nc pp pc ∈ L)
    (hg : GrE E (.agg #[.int .i64 g.k, .slice tp g.toks.length tc, .string (S g.sep), .slice np g.names.length nc, .int .i64 g.start, .slice pp g.prods.length pc]) g) (hl : Light g) (s : Int) :
    CallV Tryz.prog 67 #[.int .i64 s, .pointer (some ⟨b, 0, none⟩)] E L (.bool (!termB g s && !ntB g s)) := by
  refine CallS.toV (CallS.intro (l := [_, _]) _ Tryz.func67 rfl Tryz.ntmps67 rfl ?_)
  refine G_seq (G_region ?_)
  refine Ga ?_
  refine G_end (X_then (G_seq (G_region ?_)))
  refine Gv (V_loadF rfl rfl (by assumption) (by simp only [Nat.zero_add, List.drop_succ_cons, List.drop_zero, List.take_succ_cons, List.take_zero]; rfl) (by rfl)) ?_
  refine Gm ?_
  refine G_callv (k := 68) (.mk rfl rfl rfl rfl) rfl rfl (.none rfl) (terminal_call _ _ _ _ (by assumption) (by assumption) _) ?_
  refine Gv (V_not rfl rfl) ?_
  refine Gm ?_
  apply G_joinAnd 5 8 13 rfl
  · intro H1
    dsimp only [List.take]
    simp only [Bool.and_eq_true, Bool.or_eq_true, Bool.not_eq_true', Bool.not_eq_false', Bool.and_eq_false_iff, Bool.or_eq_false_iff, Bool.not_not, decide_eq_true_eq, decide_eq_false_iff_not, ne_eq, Decidable.not_not, Bool.decide_eq_true] at H1
    refine Gy (V_loadF rfl rfl (by assumption) (by simp only [Nat.zero_add, List.drop_succ_cons, List.drop_zero, List.take_succ_cons, List.take_zero]; rfl) (by rfl)) ?_
    refine Gy (V_move rfl rfl) ?_
    refine G_callv (k := 65) (.mk rfl rfl rfl rfl) rfl rfl (.yes rfl rfl rfl rfl) (nonterminal_call _ _ _ _ (by assumption) (by assumption) _) ?_
    refine Gy (V_not rfl rfl) ?_
    refine Gv (V_pick_t rfl rfl rfl) ?_
    refine G_end ?_
    exact JQ_end 5 rfl rfl (by kernel_rfl)
  · intro H2
    dsimp only [List.take]
    simp only [Bool.and_eq_true, Bool.or_eq_true, Bool.not_eq_true', Bool.not_eq_false', Bool.and_eq_false_iff, Bool.or_eq_false_iff, Bool.not_not, decide_eq_true_eq, decide_eq_false_iff_not, ne_eq, Decidable.not_not, Bool.decide_eq_true] at H2
    refine Gn ?_
    refine Gn ?_
    refine Gn ?_
    refine Gn ?_
    refine Gv (V_pick_f rfl rfl rfl) ?_
    refine G_end ?_
    exact JQ_end 5 rfl rfl (by kernel_rfl)
  dsimp only [List.drop]
  refine Ga ?_
  refine G_end (X_then (G_ret ?_))
  refine G_leaveS (.nil _) (by exact (.cons (.tmp rfl) (.nil))) rfl ?_ ?_
  · exact (.refl _)
  exact ⟨rfl, rfl⟩
theorem IndexFuncI_call (p : Option Addr) (n c : Nat) (l : List Int) (hx : SlE E 1 p n (i64s l)) (hn : n ≤ 1000000) (b : Nat) (g : Gr) (tp : Option Addr) (tc : Nat) (np : Option Addr) (nc : Nat) (pp : Option Addr) (pc : Nat) (hm : GB b g tp tc np nc pp pc ∈ L)
    (hg : GrE E (.agg #[.int .i64 g.k, .slice tp g.toks.length tc, .string (S g.sep), .slice np g.names.length nc, .int .i64 g.start, .slice pp g.prods.length pc]) g) (hl : Light g) :
    CallS Tryz.prog 86 #[.slice p n c, .func (.func 67) #[] #[.pointer (some ⟨b, 0, none⟩)]] E L (fun r E' L' => ∃ i : Int, r = .int .i64 i ∧ (0 ≤ i ↔ l.any (fun s => !termB g s && !ntB g s) = true) ∧ L' = L) := by
  have e1 := hx.nI
  subst e1
  refine CallS.intro (l := [_, _]) _ Tryz.func86 rfl Tryz.ntmps86 rfl ?_
  refine G_seq (G_region ?_)
  refine Ga ?_
  refine G_end (X_then (G_seq (G_seq (G_region ?_))))
  refine Gm ?_
  refine Gv (V_lenS rfl rfl) ?_
  refine Gm ?_
  refine G_end (X_then (G_block ?_))
  refine G_loop (α := Nat) (fun i => [(0, .slice p l.length c), (1, .func (.func 67) #[] #[.pointer (some ⟨b, 0, none⟩)]), (7, .int .i64 l.length), (8, .int .i64 i)]) (fun _ => E) (fun i => L)
    (fun i => i ≤ l.length ∧ ∀ k, k < i → (hk : k < l.length) → (!termB g l[k] && !ntB g l[k]) = false) (fun i => l.length - i) 0 ⟨Nat.zero_le _, fun k hk => by cases hk⟩ ⟨rfl, rfl, rfl, rfl, trivial⟩ rfl rfl ?_
  rintro i ⟨hi, hall⟩
  by_cases hlt : i < l.length
  · have hy := i64s_get (List.getElem?_eq_getElem hlt)
    cases hb : (!termB g l[i] && !ntB g l[i]) with
    | true =>
      have hfin : (0 : Int) ≤ (i : Int) ↔ l.any (fun s => !termB g s && !ntB g s) = true := ⟨fun _ => any_of hlt hb, fun _ => by omega⟩
      refine G_seq (G_region ?_)
      refine Gv (V_lss rfl rfl rfl) ?_
      refine G_end (X_then (G_seq ?_))
      refine G_cond_t rfl (decide_eq_true (by omega)) ?_
      refine G_skip (X_then (G_seq (G_block (G_seq (G_region ?_)))))
      refine Gm ?_
      refine Ga ?_
      refine G_end (X_then (G_seq (G_region ?_)))
      refine Gm ?_
      refine Gm ?_
      refine Gm ?_
      refine Gv (V_idxAddr rfl rfl rfl (SlE.rd (by assumption)) (by omega) (by omega)) ?_
      refine Gv (V_loadS rfl rfl (SlE.rd (by assumption)) (by assumption) (by simp)) ?_
      refine G_callv (k := 67) (.mk rfl rfl rfl rfl) rfl rfl (.none rfl) (symbols1_call _ _ _ _ _ _ _ _ _ _ (by assumption) (by assumption) (by assumption) _) ?_
      refine G_end (X_then ?_)
      refine G_cond_t rfl (by assumption) ?_
      refine G_seq (G_region ?_)
      refine Gm ?_
      refine Ga ?_
      refine G_end (X_then (G_ret (X_block_ret (X_then_ret (X_then_ret (X_block_ret (X_then_ret ?_)))))))
      refine G_leaveS (.nil _) (by exact (.cons (.tmp rfl) (.nil))) rfl ?_ ?_
      · exact (.refl _)
      exact ⟨_, ⟨rfl, ⟨(by assumption), rfl⟩⟩⟩
    | false =>
      refine G_seq (G_region ?_)
      refine Gv (V_lss rfl rfl rfl) ?_
      refine G_end (X_then (G_seq ?_))
      refine G_cond_t rfl (decide_eq_true (by omega)) ?_
      refine G_skip (X_then (G_seq (G_block (G_seq (G_region ?_)))))
      refine Gm ?_
      refine Ga ?_
      refine G_end (X_then (G_seq (G_region ?_)))
      refine Gm ?_
      refine Gm ?_
      refine Gm ?_
      refine Gv (V_idxAddr rfl rfl rfl (SlE.rd (by assumption)) (by omega) (by omega)) ?_
      refine Gv (V_loadS rfl rfl (SlE.rd (by assumption)) (by assumption) (by simp)) ?_
      refine G_callv (k := 67) (.mk rfl rfl rfl rfl) rfl rfl (.none rfl) (symbols1_call _ _ _ _ _ _ _ _ _ _ (by assumption) (by assumption) (by assumption) _) ?_
      refine G_end (X_then ?_)
      refine G_cond_f rfl (by assumption) ?_
      refine G_skip (X_block (X_then (G_region ?_)))
      refine Gv (V_add_i64 rfl rfl rfl (by omega) (by omega)) ?_
      refine Gm ?_
      refine G_end (X_then ?_)
      refine G_again (i + 1) ⟨hlt, ?_⟩ (by omega) ⟨rfl, rfl, rfl, rfl, trivial⟩ rfl rfl
      intro k hk hk2
      by_cases he : k = i
      · subst he; exact hb
      · exact hall k (by omega) hk2
  · have hfin : (0 : Int) ≤ -1 ↔ l.any (fun s => !termB g s && !ntB g s) = true := ⟨fun h => by omega, fun h => by rw [any_none fun k hk => hall k (by omega) hk] at h; cases h⟩
    refine G_seq (G_region ?_)
    refine Gv (V_lss rfl rfl rfl) ?_
    refine G_end (X_then (G_seq ?_))
    refine G_cond_f rfl (decide_eq_false (by omega)) ?_
    refine G_exit (X_then_exit (X_then_exit (X_block_hit (X_then (G_seq (G_region ?_))))))
    refine Ga ?_
    refine G_end (X_then (G_ret ?_))
    refine G_leaveS (.nil _) (by exact (.cons (.tmp rfl) (.nil))) rfl ?_ ?_
    · exact (.refl _)
    exact ⟨_, ⟨rfl, ⟨(by assumption), rfl⟩⟩⟩
theorem ContainsFuncI_call (p : Option Addr) (n c : Nat) (l : List Int) (hx : SlE E 1 p n (i64s l)) (hn : n ≤ 1000000) (b : Nat) (g : Gr) (tp : Option Addr) (tc : Nat) (np : Option Addr) (nc : Nat) (pp : Option Addr) (pc : Nat) (hm : GB b g tp tc np nc pp pc ∈ L)
    (hg : GrE E (.agg #[.int .i64 g.k, .slice tp g.toks.length tc, .string (S g.sep), .slice np g.names.length nc, .int .i64 g.start, .slice pp g.prods.length pc]) g) (hl : Light g) :
    CallV Tryz.prog 66 #[.slice p n c, .func (.func 67) #[] #[.pointer (some ⟨b, 0, none⟩)]] E L (.bool (l.any (fun s => !termB g s && !ntB g s))) := by
  refine CallS.toV (CallS.intro (l := [_, _]) _ Tryz.func66 rfl Tryz.ntmps66 rfl ?_)
  refine G_seq (G_region ?_)
  refine Ga ?_
  refine G_end (X_then (G_seq (G_region ?_)))
  refine Gm ?_
  refine Gm ?_
  refine G_call (k := 86) (.mk rfl rfl rfl rfl) rfl rfl (.none rfl) (IndexFuncI_call _ _ _ _ _ _ (by assumption) (by assumption) _ _ _ _ _ _ _ _ (by assumption) (by assumption) (by assumption)) ?_
  rintro r1 E2 L3 hE4 ⟨z5, ⟨rfl, ⟨Z6, rfl⟩⟩⟩
  replace hx := hx.mono hE4
  replace hg := hg.mono hE4
  refine Gv (V_geq rfl rfl rfl) ?_
  refine Ga ?_
  refine G_end (X_then (G_ret ?_))
  refine G_leaveS (.nil _) (by exact (.cons (.tmp rfl) (.nil))) rfl ?_ ?_
  · exact hE4
  rw [show decide (0 ≤ z5) = _ from Bool.eq_iff_iff.2 (decide_eq_true_iff.trans Z6)]
  exact ⟨rfl, rfl⟩
end
end Go.Proofs.YtaibabmladgldaaGreatDoor
set_option linter.unusedSimpArgs false
set_option linter.unusedVariables false
set_option maxHeartbeats 2000000
set_option maxRecDepth 20000
namespace Go.Proofs.YtaibabmladgldaaGreatDoor
open Go.RowKit
def symB (g : Gr) : Bool := ntB g g.start && g.prods.all fun p => ntB g p.1 && !p.2.any (fun s => !termB g s && !ntB g s)
/-- No production's left side is less than that of the one before. -/
def ordsB (l : List Pr) : Bool := (List.range l.length).all fun i => decide (i = 0) || decide ((l.getD (i - 1) (0, [])).1 ≤ (l.getD i (0, [])).1)
def compB (g : Gr) : Bool := (List.range g.names.length).all fun i => g.prods.any fun p => decide (p.1 = 16 + (i : Int))
theorem range_all {n : Nat} {f : Nat → Bool} (h : ∀ i, i < n → f i = true) : (List.range n).all f = true := by
  rw [List.all_eq_true]; intro i hi; exact h i (List.mem_range.1 hi)
theorem range_not {n i : Nat} {f : Nat → Bool} (hi : i < n) (h : f i = false) : (List.range n).all f = false := List.all_eq_false.2 ⟨i, List.mem_range.2 hi, by simp [h]⟩
theorem getD_at {α : Type} {l : List α} {i : Nat} (d : α) (h : i < l.length) : l.getD i d = l[i] := by simp [List.getD, List.getElem?_eq_getElem h]
section
variable (E : Env) (L : List Res)
theorem symbols_call (gv : Value) (g : Gr) (hg : GrE E gv g) (hl : Light g) : CallV Tryz.prog 49 #[gv] E L (.int .i64 (if symB g = true then 0 else 14)) := by
  have hg0 := hg
  obtain ⟨tp, tc, np, nc, pp, pc, rfl, ht, hn, ⟨rows, hrows, hps, hre⟩, k1, k2, k3⟩ := hg
  have hlen : g.prods.length = rows.length := by rw [← hrows]; simp
  have q1 := hl.t; have q2 := hl.n; have q3 := hl.p
  refine CallS.toV (CallS.intro (l := [_]) _ Tryz.func49 rfl Tryz.ntmps49 rfl ?_)
  cases hs : ntB g g.start with
  | false =>
    have : symB g = false := by simp [symB, hs]
    rw [this]
    refine G_seq (G_region ?_)
    (refine G_boxA rfl rfl rfl rfl (.none rfl) ?_; intro b1)
    (refine G_alloc rfl rfl rfl (.none rfl) ?_; intro b2)
    refine G_end (X_then (G_seq (G_seq (G_region ?_))))
    refine Gv (V_loadA rfl rfl (Cells.own (.tail _ (.head _))) rfl) ?_
    refine Gv (V_fieldAddr rfl rfl (by decide)) ?_
    refine Gv (V_load rfl rfl (Cell.own (.tail _ (.head _)) rfl)) ?_
    refine G_callv (k := 65) (.mk rfl rfl rfl rfl) rfl rfl (.none rfl) (nonterminal_call _ _ _ _ (by assumption) (by assumption) _) ?_
    refine Gv (V_not rfl rfl) ?_
    refine G_end (X_then ?_)
    refine G_cond_t rfl (by simp [*]; done) ?_
    refine G_seq (G_region ?_)
    refine G_store1 rfl rfl rfl rfl rfl rfl (.none rfl) (.head _ _ _) ?_
    refine G_end (X_then (G_ret (X_then_ret ?_)))
    refine G_leaveS (.drop _ (.drop _ (.nil _))) (by exact (.cons (.cell1 rfl (Cell.own1 (.head _))) (.nil))) rfl ?_ ?_
    · exact (.refl _)
    exact ⟨(by kernel_rfl), rfl⟩
  | true =>
    have e : symB g = rows.all (fun x => ntB g x.2.2.1 && !x.2.2.2.any (fun s => !termB g s && !ntB g s)) := by rw [symB, hs, ← hrows, List.all_map]; rfl
    rw [e]
    refine G_seq (G_region ?_)
    (refine G_boxA rfl rfl rfl rfl (.none rfl) ?_; intro b1)
    (refine G_alloc rfl rfl rfl (.none rfl) ?_; intro b2)
    refine G_end (X_then (G_seq (G_seq (G_region ?_))))
    refine Gv (V_loadA rfl rfl (Cells.own (.tail _ (.head _))) rfl) ?_
    refine Gv (V_fieldAddr rfl rfl (by decide)) ?_
    refine Gv (V_load rfl rfl (Cell.own (.tail _ (.head _)) rfl)) ?_
    refine G_callv (k := 65) (.mk rfl rfl rfl rfl) rfl rfl (.none rfl) (nonterminal_call _ _ _ _ (by assumption) (by assumption) _) ?_
    refine Gv (V_not rfl rfl) ?_
    refine G_end (X_then ?_)
    refine G_cond_f rfl (by simp [*]; done) ?_
    refine G_skip (X_then (G_seq (G_seq (G_region ?_))))
    refine Gv (V_loadA rfl rfl (Cells.own (.tail _ (.head _))) rfl) ?_
    refine G_call (k := 62) (.mk rfl rfl rfl rfl) rfl rfl (.none rfl) (prods_call _ _ _ _ _ _ _ _ _ _) ?_
    rintro r1 E2 L3 hE4 ⟨z5, ⟨rfl, ⟨rfl, rfl⟩⟩⟩
    replace hg0 := hg0.mono hE4
    replace ht := ht.mono hE4
    replace hn := hn.mono hE4
    replace hps := hps.mono hE4
    replace hre := hre.mono hE4
    refine G_end (X_then (G_block ?_))
    refine G_rangeI (σ := Int) (enc := rowEnc) rfl (iter_prods E z5 pp _ pc rows hps (by omega)) (fun _ => E) (fun v => .blk b2 (.cells #[.int .i64 v] 24 (0, 0)) :: GB b1 g tp tc np nc pp pc :: L)
      (fun pre v => v = 0 ∧ ∀ i, i < pre.length → (hi : i < rows.length) → (ntB g rows[i].2.2.1 && !rows[i].2.2.2.any (fun s => !termB g s && !ntB g s)) = true) (fun q pre v => q = .ret ∧ v = 14 ∧ rows.all (fun x => ntB g x.2.2.1 && !x.2.2.2.any (fun s => !termB g s && !ntB g s)) = false) 0 ⟨rfl, fun i hi => by cases hi⟩ rfl (.refl _) rfl (fun _ => rfl) ?_ ?_ ?_
    · rintro y D tm fn M pre ⟨x, j⟩ v hpre ⟨rfl, hall⟩ hE
      obtain ⟨hx, hj, hlt⟩ := zip_pre hpre
      simp only at hx hj
      have hxr : SlE E 1 x.1 x.2.2.2.length (i64s x.2.2.2) := hre.get hx
      have hx8 : x.2.2.2.length ≤ 8 := hl.ps _ (by rw [← hrows]; exact List.mem_map.2 ⟨x, List.mem_of_getElem? hx, rfl⟩)
      have hxe : rows[pre.length] = x := by rw [List.getElem?_eq_getElem hlt] at hx; exact Option.some.inj hx
      simp only [List.cons_append]
      dsimp only [rowEnc]
      cases hb : (ntB g x.2.2.1 && !x.2.2.2.any (fun s => !termB g s && !ntB g s)) with
      | true =>
        have hb' := hb
        simp only [Bool.and_eq_true, Bool.not_eq_true'] at hb'
        obtain ⟨hb1, hb2⟩ := hb'
        refine G_region ?_
        (refine G_alloc rfl rfl rfl (.none rfl) ?_; intro b4)
        refine G_storeA rfl rfl rfl rfl (by simp [Value.oneCell']) rfl (.none rfl) (.head _ _ _) rfl ?_
        refine G_end (X_then ?_)
        refine G_begin (.tail _ (.head _ _ _)) ?_
        refine G_block (G_seq (G_region ?_))
        refine Gv (V_loadA rfl rfl (Cells.own (.tail _ (.tail _ (.tail _ (.tail _ (.head _)))))) rfl) ?_
        refine Gv (V_fieldAddr rfl rfl (by decide)) ?_
        refine Gv (V_load rfl rfl (Cell.own (.head _) rfl)) ?_
        refine G_callv (k := 65) (.mk rfl rfl rfl rfl) rfl rfl (.none rfl) (nonterminal_call _ _ _ _ (by assumption) (by assumption) _) ?_
        refine Gv (V_not rfl rfl) ?_
        refine Gm ?_
        refine G.bool_f 19 rfl (by simp [*]; done) ?_
        refine Gy (V_fieldAddr rfl rfl (by decide)) ?_
        refine Gy (V_load rfl rfl (Cell.own (.head _) rfl)) ?_
        refine Gy (V_makeFunc rfl rfl rfl) ?_
        refine G_callv (k := 66) (.mk rfl rfl rfl rfl) rfl rfl (.yes rfl rfl rfl rfl) (ContainsFuncI_call _ _ _ _ _ _ (by assumption) (by omega) _ _ _ _ _ _ _ _ (by exact .tail _ (.tail _ (.tail _ (.tail _ (.head _))))) (by assumption) (by assumption)) ?_
        refine Gv (V_pick_f rfl rfl rfl) ?_
        refine G_end (X_then ?_)
        refine G_cond_f rfl (by assumption) ?_
        refine G_skip (X_block ?_)
        refine G.drop ?_
        refine G_rEnd 0 ⟨rfl, ?_⟩ rfl (.refl _) rfl
        intro i hi hi2
        simp only [List.length_append, List.length_singleton] at hi
        by_cases he : i = pre.length
        · subst he
          rw [hxe]; exact hb
        · exact hall i (by omega) hi2
      | false =>
        have hfin := all_not (f := fun x : Row => ntB g x.2.2.1 && !x.2.2.2.any (fun s => !termB g s && !ntB g s)) hlt (by rw [hxe]; exact hb)
        have hb' : (!ntB g x.2.2.1 || x.2.2.2.any (fun s => !termB g s && !ntB g s)) = true := by
          revert hb
          cases ntB g x.2.2.1 <;> simp
        refine G_region ?_
        (refine G_alloc rfl rfl rfl (.none rfl) ?_; intro b4)
        refine G_storeA rfl rfl rfl rfl (by simp [Value.oneCell']) rfl (.none rfl) (.head _ _ _) rfl ?_
        refine G_end (X_then ?_)
        refine G_begin (.tail _ (.head _ _ _)) ?_
        refine G_block (G_seq (G_region ?_))
        refine Gv (V_loadA rfl rfl (Cells.own (.tail _ (.tail _ (.tail _ (.tail _ (.head _)))))) rfl) ?_
        refine Gv (V_fieldAddr rfl rfl (by decide)) ?_
        refine Gv (V_load rfl rfl (Cell.own (.head _) rfl)) ?_
        refine G_callv (k := 65) (.mk rfl rfl rfl rfl) rfl rfl (.none rfl) (nonterminal_call _ _ _ _ (by assumption) (by assumption) _) ?_
        refine Gv (V_not rfl rfl) ?_
        refine Gm ?_
        apply G_joinOr 5 19 24 rfl
        · intro H1
          dsimp only [List.take]
          simp only [Bool.and_eq_true, Bool.or_eq_true, Bool.not_eq_true', Bool.not_eq_false', Bool.and_eq_false_iff, Bool.or_eq_false_iff, Bool.not_not, decide_eq_true_eq, decide_eq_false_iff_not, ne_eq, Decidable.not_not, Bool.decide_eq_true] at H1
          refine Gn ?_
          refine Gn ?_
          refine Gn ?_
          refine Gn ?_
          refine Gv (V_pick_t rfl rfl rfl) ?_
          refine G_end ?_
          exact JQ_end 5 rfl rfl (by kernel_rfl)
        · intro H2
          dsimp only [List.take]
          simp only [Bool.and_eq_true, Bool.or_eq_true, Bool.not_eq_true', Bool.not_eq_false', Bool.and_eq_false_iff, Bool.or_eq_false_iff, Bool.not_not, decide_eq_true_eq, decide_eq_false_iff_not, ne_eq, Decidable.not_not, Bool.decide_eq_true] at H2
          refine Gy (V_fieldAddr rfl rfl (by decide)) ?_
          refine Gy (V_load rfl rfl (Cell.own (.head _) rfl)) ?_
          refine Gy (V_makeFunc rfl rfl rfl) ?_
          refine G_callv (k := 66) (.mk rfl rfl rfl rfl) rfl rfl (.yes rfl rfl rfl rfl) (ContainsFuncI_call _ _ _ _ _ _ (by assumption) (by omega) _ _ _ _ _ _ _ _ (by exact .tail _ (.tail _ (.tail _ (.tail _ (.head _))))) (by assumption) (by assumption)) ?_
          refine Gv (V_pick_f rfl rfl rfl) ?_
          refine G_end ?_
          exact JQ_end 5 rfl rfl (by kernel_rfl)
        dsimp only [List.drop]
        refine G_end (X_then ?_)
        refine G_cond_t rfl (by assumption) ?_
        refine G_seq (G_region ?_)
        refine G_store1 rfl rfl rfl rfl rfl rfl (.none rfl) (.tail _ (.tail _ (.tail _ (.head _ _ _)))) ?_
        refine G_end (X_then (G_ret (X_block_ret ?_)))
        refine G.drop ?_
        exact G_rRet 14 ⟨rfl, rfl, hfin⟩ rfl (.refl _) rfl
    · rintro D v ⟨rfl, hall⟩ hE
      rw [all_of fun i hi => hall i (by simpa using hi) hi]
      refine X_block (X_then (G_seq (G_region ?_)))
      refine G_store1 rfl rfl rfl rfl rfl rfl (.none rfl) (.tail _ (.head _ _ _)) ?_
      refine G_end (X_then (G_ret ?_))
      refine G_leave_ms [D] ?_
      refine G_leaveS (.drop _ (.drop _ (.nil _))) (by exact (.cons (.cell1 rfl (Cell.own1 (.head _))) (.nil))) rfl ?_ ?_
      · exact (.refl _)
      exact ⟨(by kernel_rfl), rfl⟩
    · rintro D q pre v hpre ⟨rfl, rfl, hs⟩ hE
      rw [hs]
      refine G_ret (X_block_ret (X_then_ret ?_))
      refine G_leave_ms [D] ?_
      refine G_leaveS (.drop _ (.drop _ (.nil _))) (by exact (.cons (.cell1 rfl (Cell.own1 (.head _))) (.nil))) rfl ?_ ?_
      · exact (.refl _)
      exact ⟨(by kernel_rfl), rfl⟩
theorem ordered_call (gv : Value) (g : Gr) (hg : GrE E gv g) (hl : Light g) : CallV Tryz.prog 50 #[gv] E L (.int .i64 (if ordsB g.prods = true then 0 else 9)) := by
  have hg0 := hg
  obtain ⟨tp, tc, np, nc, pp, pc, rfl, ht, hn, ⟨rows, hrows, hps, hre⟩, k1, k2, k3⟩ := hg
  have hlen : g.prods.length = rows.length := by rw [← hrows]; simp
  have q1 := hl.t; have q2 := hl.n; have q3 := hl.p
  refine CallS.toV (CallS.intro (l := [_]) _ Tryz.func50 rfl Tryz.ntmps50 rfl ?_)
  have hat : ∀ i, (hi : i < rows.length) → g.prods.getD i (0, []) = rows[i].2.2 := fun i hi => by rw [← hrows, getD_at _ (by simpa using hi)]; simp
  refine G_seq (G_region ?_)
  (refine G_boxA rfl rfl rfl rfl (.none rfl) ?_; intro b1)
  (refine G_alloc rfl rfl rfl (.none rfl) ?_; intro b2)
  refine G_end (X_then (G_seq (G_seq (G_region ?_))))
  refine Gv (V_loadA rfl rfl (Cells.own (.tail _ (.head _))) rfl) ?_
  refine G_call (k := 62) (.mk rfl rfl rfl rfl) rfl rfl (.none rfl) (prods_call _ _ _ _ _ _ _ _ _ _) ?_
  rintro r1 E2 L3 hE4 ⟨z5, ⟨rfl, ⟨rfl, rfl⟩⟩⟩
  replace hg0 := hg0.mono hE4
  replace ht := ht.mono hE4
  replace hn := hn.mono hE4
  replace hps := hps.mono hE4
  replace hre := hre.mono hE4
  refine G_end (X_then (G_block ?_))
  refine G_rangeI (σ := Int) (enc := rowEnc) rfl (iter_prods E z5 pp _ pc rows hps (by omega)) (fun _ => E) (fun v => .blk b2 (.cells #[.int .i64 v] 24 (0, 0)) :: GB b1 g tp tc np nc pp pc :: L)
    (fun pre v => v = 0 ∧ ∀ i, i < pre.length → (decide (i = 0) || decide ((g.prods.getD (i - 1) (0, [])).1 ≤ (g.prods.getD i (0, [])).1)) = true) (fun q pre v => q = .ret ∧ v = 9 ∧ ordsB g.prods = false) 0 ⟨rfl, fun i hi => by cases hi⟩ rfl (.refl _) rfl (fun _ => rfl) ?_ ?_ ?_
  · rintro y D tm fn M pre ⟨x, j⟩ v hpre ⟨rfl, hall⟩ hE
    obtain ⟨hx, hj, hlt⟩ := zip_pre hpre
    simp only at hx hj
    have hxe : rows[pre.length] = x := by rw [List.getElem?_eq_getElem hlt] at hx; exact Option.some.inj hx
    simp only [List.cons_append]
    dsimp only [rowEnc]
    subst hj
    generalize hj : pre.length = j at *
    have hstep : (decide (j = 0) || decide ((g.prods.getD (j - 1) (0, [])).1 ≤ (g.prods.getD j (0, [])).1)) = true → ∀ i, i < (pre ++ [(x, j)]).length → (decide (i = 0) || decide ((g.prods.getD (i - 1) (0, [])).1 ≤ (g.prods.getD i (0, [])).1)) = true := by
      intro h i hi
      simp only [List.length_append, List.length_singleton, hj] at hi
      by_cases he : i = j
      · subst he; exact h
      · exact hall i (by omega)
    cases j with
    | zero =>
      refine G_seq (G_region ?_)
      refine Ga ?_
      refine G_end (X_then (G_region ?_))
      (refine G_alloc rfl rfl rfl (.none rfl) ?_; intro b4)
      refine G_storeA rfl rfl rfl rfl (by simp [Value.oneCell']) rfl (.none rfl) (.head _ _ _) rfl ?_
      refine G_end (X_then ?_)
      refine G_begin (.tail _ (.head _ _ _)) ?_
      refine G_block (G_seq ?_)
      refine G_draw mixed (by kernel_rfl) ?_
      refine Q_val (V_move rfl rfl) rfl rfl (.none rfl) ?_
      refine Q_val (V_gtr rfl rfl rfl) rfl rfl (.none rfl) ?_
      refine Q_val (V_move rfl rfl) rfl rfl (.none rfl) ?_
      refine Q_bool_f 11 rfl (by kernel_rfl) ?_
      refine Q_stay (.no rfl rfl rfl rfl) rfl rfl ?_
      refine Q_stay (.no rfl rfl rfl rfl) rfl rfl ?_
      refine Q_stay (.no rfl rfl rfl rfl) rfl rfl ?_
      refine Q_stay (.no rfl rfl rfl rfl) rfl rfl ?_
      refine Q_stay (.no rfl rfl rfl rfl) rfl rfl ?_
      refine Q_stay (.no rfl rfl rfl rfl) rfl rfl ?_
      refine Q_stay (.no rfl rfl rfl rfl) rfl rfl ?_
      refine Q_stay (.no rfl rfl rfl rfl) rfl rfl ?_
      refine Q_stay (.no rfl rfl rfl rfl) rfl rfl ?_
      refine Q_stay (.no rfl rfl rfl rfl) rfl rfl ?_
      refine Q_val (V_pick_f rfl rfl rfl) rfl rfl (.none rfl) ?_
      refine Q_end ?_
      refine X_then ?_
      refine G_cond_f rfl rfl ?_
      refine G_skip (X_block ?_)
      refine G.drop ?_
      exact G_rEnd 0 ⟨rfl, hstep rfl⟩ rfl (.refl _) rfl
    | succ j =>
      have hj1 : j < rows.length := by omega
      have hx1 := prows_left (List.getElem?_eq_getElem hj1)
      rw [Nat.add_sub_cancel, hat j hj1, hat (j + 1) hlt, hxe] at hstep
      by_cases hb : rows[j].2.2.1 ≤ x.2.2.1
      · refine G_seq ?_
        refine G_region ?_
        refine Ga ?_
        refine G_end (X_then (G_region ?_))
        (refine G_alloc rfl rfl rfl (.none rfl) ?_; intro b4)
        refine G_storeA rfl rfl rfl rfl (by simp [Value.oneCell']) rfl (.none rfl) (.head _ _ _) rfl ?_
        refine G_end (X_then ?_)
        refine G_begin (.tail _ (.head _ _ _)) ?_
        refine G_block (G_seq ?_)
        refine G_draw mixed (by kernel_rfl) ?_
        refine Q_val (V_move rfl rfl) rfl rfl (.none rfl) ?_
        refine Q_val (V_gtr rfl rfl rfl) rfl rfl (.none rfl) ?_
        refine Q_val (V_move rfl rfl) rfl rfl (.none rfl) ?_
        refine Q_bool_t 11 rfl (decide_eq_true (by omega)) ?_
        refine Q_val (V_fieldAddr rfl rfl (by decide)) rfl rfl (.yes rfl rfl rfl rfl) ?_
        refine Q_val (V_load rfl rfl (Cell.own (.head _) rfl)) rfl rfl (.yes rfl rfl rfl rfl) ?_
        refine Q_val (V_fieldAddr rfl rfl (by decide)) rfl rfl (.yes rfl rfl rfl rfl) ?_
        refine Q_val (V_load rfl rfl (Cell.own (.tail _ (.tail _ (.tail _ (.tail _ (.head _))))) rfl)) rfl rfl (.yes rfl rfl rfl rfl) ?_
        refine Q_val (V_move rfl rfl) rfl rfl (.yes rfl rfl rfl rfl) ?_
        refine Q_val (V_sub_i64 rfl rfl rfl (by omega) (by omega)) rfl rfl (.yes rfl rfl rfl rfl) ?_
        refine Q_val (V_idxAddr rfl rfl rfl (SlE.rd (by assumption)) (by omega) (by omega)) rfl rfl (.yes rfl rfl rfl rfl) ?_
        refine Q_val (V_fieldAddrE rfl rfl (by assumption) (by omega) (by decide)) rfl rfl (.yes rfl rfl rfl rfl) ?_
        refine Q_val (V_loadS rfl rfl (SlE.rd (by assumption)) (by assumption) (by simp)) rfl rfl (.yes rfl rfl rfl rfl) ?_
        refine Q_val (V_lss rfl rfl rfl) rfl rfl (.yes rfl rfl rfl rfl) ?_
        refine Q_val (V_pick_t rfl rfl rfl) rfl rfl (.none rfl) ?_
        refine Q_end ?_
        refine X_then ?_
        refine G_cond_f rfl (decide_eq_false (by omega)) ?_
        refine G_skip (X_block ?_)
        refine G.drop ?_
        exact G_rEnd 0 ⟨rfl, hstep (by simp [hb])⟩ rfl (.refl _) rfl
      · refine G_seq ?_
        refine G_region ?_
        refine Ga ?_
        refine G_end (X_then (G_region ?_))
        (refine G_alloc rfl rfl rfl (.none rfl) ?_; intro b4)
        refine G_storeA rfl rfl rfl rfl (by simp [Value.oneCell']) rfl (.none rfl) (.head _ _ _) rfl ?_
        refine G_end (X_then ?_)
        refine G_begin (.tail _ (.head _ _ _)) ?_
        refine G_block (G_seq ?_)
        refine G_draw mixed (by kernel_rfl) ?_
        refine Q_val (V_move rfl rfl) rfl rfl (.none rfl) ?_
        refine Q_val (V_gtr rfl rfl rfl) rfl rfl (.none rfl) ?_
        refine Q_val (V_move rfl rfl) rfl rfl (.none rfl) ?_
        refine Q_bool_t 11 rfl (decide_eq_true (by omega)) ?_
        refine Q_val (V_fieldAddr rfl rfl (by decide)) rfl rfl (.yes rfl rfl rfl rfl) ?_
        refine Q_val (V_load rfl rfl (Cell.own (.head _) rfl)) rfl rfl (.yes rfl rfl rfl rfl) ?_
        refine Q_val (V_fieldAddr rfl rfl (by decide)) rfl rfl (.yes rfl rfl rfl rfl) ?_
        refine Q_val (V_load rfl rfl (Cell.own (.tail _ (.tail _ (.tail _ (.tail _ (.head _))))) rfl)) rfl rfl (.yes rfl rfl rfl rfl) ?_
        refine Q_val (V_move rfl rfl) rfl rfl (.yes rfl rfl rfl rfl) ?_
        refine Q_val (V_sub_i64 rfl rfl rfl (by omega) (by omega)) rfl rfl (.yes rfl rfl rfl rfl) ?_
        refine Q_val (V_idxAddr rfl rfl rfl (SlE.rd (by assumption)) (by omega) (by omega)) rfl rfl (.yes rfl rfl rfl rfl) ?_
        refine Q_val (V_fieldAddrE rfl rfl (by assumption) (by omega) (by decide)) rfl rfl (.yes rfl rfl rfl rfl) ?_
        refine Q_val (V_loadS rfl rfl (SlE.rd (by assumption)) (by assumption) (by simp)) rfl rfl (.yes rfl rfl rfl rfl) ?_
        refine Q_val (V_lss rfl rfl rfl) rfl rfl (.yes rfl rfl rfl rfl) ?_
        refine Q_val (V_pick_t rfl rfl rfl) rfl rfl (.none rfl) ?_
        refine Q_end ?_
        refine X_then ?_
        refine G_cond_t rfl (decide_eq_true (by omega)) ?_
        refine G_seq (G_region ?_)
        refine G_store1 rfl rfl rfl rfl rfl rfl (.none rfl) (.tail _ (.tail _ (.tail _ (.head _ _ _)))) ?_
        refine G_end (X_then (G_ret (X_block_ret ?_)))
        refine G.drop ?_
        refine G_rRet 9 ⟨rfl, rfl, range_not (i := j + 1) (by omega) ?_⟩ rfl (.refl _) rfl
        rw [Nat.add_sub_cancel, hat j hj1, hat (j + 1) hlt, hxe]
        simp [hb]
  · rintro D v ⟨rfl, hall⟩ hE
    have : ordsB g.prods = true := range_all fun i hi => hall i (by simpa [hlen] using hi)
    rw [this]
    refine X_block (X_then (G_seq (G_region ?_)))
    refine G_store1 rfl rfl rfl rfl rfl rfl (.none rfl) (.tail _ (.head _ _ _)) ?_
    refine G_end (X_then (G_ret ?_))
    refine G_leave_ms [D] ?_
    refine G_leaveS (.drop _ (.drop _ (.nil _))) (by exact (.cons (.cell1 rfl (Cell.own1 (.head _))) (.nil))) rfl ?_ ?_
    · exact (.refl _)
    exact ⟨(by kernel_rfl), rfl⟩
  · rintro D q pre v hpre ⟨rfl, rfl, hs⟩ hE
    rw [hs]
    refine G_ret (X_block_ret (X_then_ret ?_))
    refine G_leave_ms [D] ?_
    refine G_leaveS (.drop _ (.drop _ (.nil _))) (by exact (.cons (.cell1 rfl (Cell.own1 (.head _))) (.nil))) rfl ?_ ?_
    · exact (.refl _)
    exact ⟨(by kernel_rfl), rfl⟩
end
end Go.Proofs.YtaibabmladgldaaGreatDoor
