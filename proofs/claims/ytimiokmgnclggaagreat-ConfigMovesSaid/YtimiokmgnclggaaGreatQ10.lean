/-
  Rules and contracts, packed: B1, B2, B3, B4, B5, B6, B7.
-/
import Derived.Test.YtimiokmgnclggaaGreatQ9
set_option maxHeartbeats 1000000
set_option linter.unusedSimpArgs false
set_option linter.unusedVariables false
set_option maxHeartbeats 2000000
set_option maxRecDepth 20000
namespace Go.Proofs.YtimiokmgnclggaaGreat
open Go.RowKit
/-! Lexemes of a text, as the reference finds them: the classes of bytes, where a text begins. -/
def isBl (c : Int) : Bool := decide (c = 32) || decide (c = 9) || decide (c = 10) || decide (c = 13)
def isSg (c : Int) : Bool := decide (c = 61) || decide (c = 124) || decide (c = 59) || decide (c = 44)
def isWc (c : UInt8) : Bool := isLet c.toNat || isDig c.toNat || decide ((c.toNat : Int) = 95)
def isDg (c : UInt8) : Bool := isDig c.toNat
def isB8 (c : UInt8) : Bool := isBl c.toNat
/-- How many elements a list begins with for which something holds. -/
def wl (p : UInt8 → Bool) (l : List UInt8) : Nat := (l.takeWhile p).length
theorem wl_cons (p : UInt8 → Bool) (c : UInt8) (l : List UInt8) : wl p (c :: l) = if p c = true then wl p l + 1 else 0 := by
  unfold wl
  rw [List.takeWhile_cons]
  split <;> simp
theorem wl_le (p : UInt8 → Bool) (l : List UInt8) : wl p l ≤ l.length := by
  unfold wl
  exact (List.takeWhile_sublist p).length_le
theorem wl_yes (p : UInt8 → Bool) : ∀ (l : List UInt8) (m : Nat), m ≤ wl p l → (h : m < l.length) → p l[m] = true → m < wl p l := by
  intro l
  induction l with
  | nil => intro m _ h; cases h
  | cons c l ih =>
    intro m hm h hp
    rw [wl_cons] at hm ⊢
    cases m with
    | zero =>
      have : p c = true := hp
      rw [if_pos this]
      omega
    | succ m =>
      split at hm
      · rename_i hc
        rw [if_pos hc]
        have := ih m (by omega) (by simpa using h) (by simpa using hp)
        omega
      · omega
theorem wl_no (p : UInt8 → Bool) : ∀ (l : List UInt8) (m : Nat), m ≤ wl p l → (h : m < l.length) → p l[m] = false → m = wl p l := by
  intro l
  induction l with
  | nil => intro m _ h; cases h
  | cons c l ih =>
    intro m hm h hp
    rw [wl_cons] at hm ⊢
    cases m with
    | zero =>
      have : p c = false := hp
      rw [if_neg (by rw [this]; decide)]
    | succ m =>
      split at hm
      · rename_i hc
        rw [if_pos hc]
        have := ih m (by omega) (by simpa using h) (by simpa using hp)
        omega
      · omega
def badNx : Option UInt8 → Bool
  | some d => isLet d.toNat || decide ((d.toNat : Int) = 95)
  | none => false
/-- The lexeme with which a text begins; kind 0 if there is none. -/
def begL : List UInt8 → Int × List UInt8
  | [] => (0, [])
  | c :: r =>
    if isSg c.toNat = true then (3, [c])
    else if isLet c.toNat = true then (1, (c :: r).take (1 + wl isWc r))
    else if isDig c.toNat = true then
      (if (((c.toNat : Int) = 48) ∧ 0 < wl isDg r) ∨ badNx r[wl isDg r]? = true then (0, []) else (2, (c :: r).take (1 + wl isDg r)))
    else (0, [])
section
variable (E : Env) (L : List Res)
theorem blank4_call (c : Int) : CallV Tryz.prog 116 #[.int .u8 c] E L (.bool (isBl c)) := by
  refine CallS.toV (CallS.intro (l := [_]) _ Tryz.func116 rfl Tryz.ntmps116 rfl ?_)
  refine G_seq (G_region ?_)
  refine Ga ?_
  refine G_end (X_then (G_seq (G_region ?_)))
  refine Gm ?_
  refine Gv (V_eql rfl rfl rfl) ?_
  refine Gm ?_
  apply G_joinOr 3 5 8 rfl
  · intro H1
    dsimp only [List.take]
    simp only [Bool.and_eq_true, Bool.or_eq_true, Bool.not_eq_true', Bool.not_eq_false', Bool.and_eq_false_iff, Bool.or_eq_false_iff, Bool.not_not, decide_eq_true_eq, decide_eq_false_iff_not, ne_eq, Decidable.not_not, Bool.decide_eq_true] at H1
    refine Gn ?_
    refine Gn ?_
    refine Gv (V_pick_t rfl rfl rfl) ?_
    refine G_end ?_
    exact JQ_end 3 rfl rfl (by kernel_rfl)
  · intro H2
    dsimp only [List.take]
    simp only [Bool.and_eq_true, Bool.or_eq_true, Bool.not_eq_true', Bool.not_eq_false', Bool.and_eq_false_iff, Bool.or_eq_false_iff, Bool.not_not, decide_eq_true_eq, decide_eq_false_iff_not, ne_eq, Decidable.not_not, Bool.decide_eq_true] at H2
    refine Gy (V_move rfl rfl) ?_
    refine Gy (V_eql rfl rfl rfl) ?_
    refine Gv (V_pick_f rfl rfl rfl) ?_
    refine G_end ?_
    exact JQ_end 3 rfl rfl (by kernel_rfl)
  dsimp only [List.drop]
  refine Gm ?_
  apply G_joinOr 3 9 12 rfl
  · intro H3
    dsimp only [List.take]
    simp only [Bool.and_eq_true, Bool.or_eq_true, Bool.not_eq_true', Bool.not_eq_false', Bool.and_eq_false_iff, Bool.or_eq_false_iff, Bool.not_not, decide_eq_true_eq, decide_eq_false_iff_not, ne_eq, Decidable.not_not, Bool.decide_eq_true] at H3
    refine Gn ?_
    refine Gn ?_
    refine Gv (V_pick_t rfl rfl rfl) ?_
    refine G_end ?_
    exact JQ_end 3 rfl rfl (by kernel_rfl)
  · intro H4
    dsimp only [List.take]
    simp only [Bool.and_eq_true, Bool.or_eq_true, Bool.not_eq_true', Bool.not_eq_false', Bool.and_eq_false_iff, Bool.or_eq_false_iff, Bool.not_not, decide_eq_true_eq, decide_eq_false_iff_not, ne_eq, Decidable.not_not, Bool.decide_eq_true] at H4
    refine Gy (V_move rfl rfl) ?_
    refine Gy (V_eql rfl rfl rfl) ?_
    refine Gv (V_pick_f rfl rfl rfl) ?_
    refine G_end ?_
    exact JQ_end 3 rfl rfl (by kernel_rfl)
  dsimp only [List.drop]
  refine Gm ?_
  apply G_joinOr 3 13 16 rfl
  · intro H5
    dsimp only [List.take]
    simp only [Bool.and_eq_true, Bool.or_eq_true, Bool.not_eq_true', Bool.not_eq_false', Bool.and_eq_false_iff, Bool.or_eq_false_iff, Bool.not_not, decide_eq_true_eq, decide_eq_false_iff_not, ne_eq, Decidable.not_not, Bool.decide_eq_true] at H5
    refine Gn ?_
    refine Gn ?_
    refine Gv (V_pick_t rfl rfl rfl) ?_
    refine G_end ?_
    exact JQ_end 3 rfl rfl (by kernel_rfl)
  · intro H6
    dsimp only [List.take]
    simp only [Bool.and_eq_true, Bool.or_eq_true, Bool.not_eq_true', Bool.not_eq_false', Bool.and_eq_false_iff, Bool.or_eq_false_iff, Bool.not_not, decide_eq_true_eq, decide_eq_false_iff_not, ne_eq, Decidable.not_not, Bool.decide_eq_true] at H6
    refine Gy (V_move rfl rfl) ?_
    refine Gy (V_eql rfl rfl rfl) ?_
    refine Gv (V_pick_f rfl rfl rfl) ?_
    refine G_end ?_
    exact JQ_end 3 rfl rfl (by kernel_rfl)
  dsimp only [List.drop]
  refine Ga ?_
  refine G_end (X_then (G_ret ?_))
  refine G_leaveS (.nil _) (by exact (.cons (.tmp rfl) (.nil))) rfl ?_ ?_
  · exact (.refl _)
  exact ⟨rfl, rfl⟩
theorem sign4_call (c : Int) : CallV Tryz.prog 117 #[.int .u8 c] E L (.bool (isSg c)) := by
  refine CallS.toV (CallS.intro (l := [_]) _ Tryz.func117 rfl Tryz.ntmps117 rfl ?_)
  refine G_seq (G_region ?_)
  refine Ga ?_
  refine G_end (X_then (G_seq (G_region ?_)))
  refine Gm ?_
  refine Gv (V_eql rfl rfl rfl) ?_
  refine Gm ?_
  apply G_joinOr 3 5 8 rfl
  · intro H1
    dsimp only [List.take]
    simp only [Bool.and_eq_true, Bool.or_eq_true, Bool.not_eq_true', Bool.not_eq_false', Bool.and_eq_false_iff, Bool.or_eq_false_iff, Bool.not_not, decide_eq_true_eq, decide_eq_false_iff_not, ne_eq, Decidable.not_not, Bool.decide_eq_true] at H1
    refine Gn ?_
    refine Gn ?_
    refine Gv (V_pick_t rfl rfl rfl) ?_
    refine G_end ?_
    exact JQ_end 3 rfl rfl (by kernel_rfl)
  · intro H2
    dsimp only [List.take]
    simp only [Bool.and_eq_true, Bool.or_eq_true, Bool.not_eq_true', Bool.not_eq_false', Bool.and_eq_false_iff, Bool.or_eq_false_iff, Bool.not_not, decide_eq_true_eq, decide_eq_false_iff_not, ne_eq, Decidable.not_not, Bool.decide_eq_true] at H2
    refine Gy (V_move rfl rfl) ?_
    refine Gy (V_eql rfl rfl rfl) ?_
    refine Gv (V_pick_f rfl rfl rfl) ?_
    refine G_end ?_
    exact JQ_end 3 rfl rfl (by kernel_rfl)
  dsimp only [List.drop]
  refine Gm ?_
  apply G_joinOr 3 9 12 rfl
  · intro H3
    dsimp only [List.take]
    simp only [Bool.and_eq_true, Bool.or_eq_true, Bool.not_eq_true', Bool.not_eq_false', Bool.and_eq_false_iff, Bool.or_eq_false_iff, Bool.not_not, decide_eq_true_eq, decide_eq_false_iff_not, ne_eq, Decidable.not_not, Bool.decide_eq_true] at H3
    refine Gn ?_
    refine Gn ?_
    refine Gv (V_pick_t rfl rfl rfl) ?_
    refine G_end ?_
    exact JQ_end 3 rfl rfl (by kernel_rfl)
  · intro H4
    dsimp only [List.take]
    simp only [Bool.and_eq_true, Bool.or_eq_true, Bool.not_eq_true', Bool.not_eq_false', Bool.and_eq_false_iff, Bool.or_eq_false_iff, Bool.not_not, decide_eq_true_eq, decide_eq_false_iff_not, ne_eq, Decidable.not_not, Bool.decide_eq_true] at H4
    refine Gy (V_move rfl rfl) ?_
    refine Gy (V_eql rfl rfl rfl) ?_
    refine Gv (V_pick_f rfl rfl rfl) ?_
    refine G_end ?_
    exact JQ_end 3 rfl rfl (by kernel_rfl)
  dsimp only [List.drop]
  refine Gm ?_
  apply G_joinOr 3 13 16 rfl
  · intro H5
    dsimp only [List.take]
    simp only [Bool.and_eq_true, Bool.or_eq_true, Bool.not_eq_true', Bool.not_eq_false', Bool.and_eq_false_iff, Bool.or_eq_false_iff, Bool.not_not, decide_eq_true_eq, decide_eq_false_iff_not, ne_eq, Decidable.not_not, Bool.decide_eq_true] at H5
    refine Gn ?_
    refine Gn ?_
    refine Gv (V_pick_t rfl rfl rfl) ?_
    refine G_end ?_
    exact JQ_end 3 rfl rfl (by kernel_rfl)
  · intro H6
    dsimp only [List.take]
    simp only [Bool.and_eq_true, Bool.or_eq_true, Bool.not_eq_true', Bool.not_eq_false', Bool.and_eq_false_iff, Bool.or_eq_false_iff, Bool.not_not, decide_eq_true_eq, decide_eq_false_iff_not, ne_eq, Decidable.not_not, Bool.decide_eq_true] at H6
    refine Gy (V_move rfl rfl) ?_
    refine Gy (V_eql rfl rfl rfl) ?_
    refine Gv (V_pick_f rfl rfl rfl) ?_
    refine G_end ?_
    exact JQ_end 3 rfl rfl (by kernel_rfl)
  dsimp only [List.drop]
  refine Ga ?_
  refine G_end (X_then (G_ret ?_))
  refine G_leaveS (.nil _) (by exact (.cons (.tmp rfl) (.nil))) rfl ?_ ?_
  · exact (.refl _)
  exact ⟨rfl, rfl⟩
theorem letter4_call (c : Int) : CallV Tryz.prog 118 #[.int .u8 c] E L (.bool (isLet c)) := by
  refine CallS.toV (CallS.intro (l := [_]) _ Tryz.func118 rfl Tryz.ntmps118 rfl ?_)
  refine G_seq (G_region ?_)
  refine Ga ?_
  refine G_end (X_then (G_seq (G_region ?_)))
  refine Gm ?_
  refine Gv (V_geq rfl rfl rfl) ?_
  refine Gm ?_
  apply G_joinAnd 3 5 8 rfl
  · intro H1
    dsimp only [List.take]
    simp only [Bool.and_eq_true, Bool.or_eq_true, Bool.not_eq_true', Bool.not_eq_false', Bool.and_eq_false_iff, Bool.or_eq_false_iff, Bool.not_not, decide_eq_true_eq, decide_eq_false_iff_not, ne_eq, Decidable.not_not, Bool.decide_eq_true] at H1
    refine Gy (V_move rfl rfl) ?_
    refine Gy (V_leq rfl rfl rfl) ?_
    refine Gv (V_pick_t rfl rfl rfl) ?_
    refine G_end ?_
    exact JQ_end 3 rfl rfl (by kernel_rfl)
  · intro H2
    dsimp only [List.take]
    simp only [Bool.and_eq_true, Bool.or_eq_true, Bool.not_eq_true', Bool.not_eq_false', Bool.and_eq_false_iff, Bool.or_eq_false_iff, Bool.not_not, decide_eq_true_eq, decide_eq_false_iff_not, ne_eq, Decidable.not_not, Bool.decide_eq_true] at H2
    refine Gn ?_
    refine Gn ?_
    refine Gv (V_pick_f rfl rfl rfl) ?_
    refine G_end ?_
    exact JQ_end 3 rfl rfl (by kernel_rfl)
  dsimp only [List.drop]
  refine Gm ?_
  apply G_joinOr 7 9 16 rfl
  · intro H3
    dsimp only [List.take]
    simp only [Bool.and_eq_true, Bool.or_eq_true, Bool.not_eq_true', Bool.not_eq_false', Bool.and_eq_false_iff, Bool.or_eq_false_iff, Bool.not_not, decide_eq_true_eq, decide_eq_false_iff_not, ne_eq, Decidable.not_not, Bool.decide_eq_true] at H3
    refine Gn ?_
    refine Gn ?_
    refine Gn ?_
    refine G_stay (.un rfl rfl rfl rfl) rfl rfl ?_
    refine G_stay (.un rfl rfl rfl rfl) rfl rfl ?_
    refine Gn ?_
    refine Gv (V_pick_t rfl rfl rfl) ?_
    refine G_end ?_
    exact JQ_end 7 rfl rfl (by kernel_rfl)
  · intro H4
    dsimp only [List.take]
    simp only [Bool.and_eq_true, Bool.or_eq_true, Bool.not_eq_true', Bool.not_eq_false', Bool.and_eq_false_iff, Bool.or_eq_false_iff, Bool.not_not, decide_eq_true_eq, decide_eq_false_iff_not, ne_eq, Decidable.not_not, Bool.decide_eq_true] at H4
    refine Gy (V_move rfl rfl) ?_
    refine Gy (V_geq rfl rfl rfl) ?_
    refine Gy (V_move rfl rfl) ?_
    apply G_joinAnd 3 12 15 rfl
    · intro H5
      dsimp only [List.take]
      simp only [Bool.and_eq_true, Bool.or_eq_true, Bool.not_eq_true', Bool.not_eq_false', Bool.and_eq_false_iff, Bool.or_eq_false_iff, Bool.not_not, decide_eq_true_eq, decide_eq_false_iff_not, ne_eq, Decidable.not_not, Bool.decide_eq_true] at H5
      refine Gy (V_move rfl rfl) ?_
      refine Gy (V_leq rfl rfl rfl) ?_
      refine Gy (V_pick_t rfl rfl rfl) ?_
      refine G_end ?_
      exact JQ_end 3 rfl rfl (by kernel_rfl)
    · intro H6
      dsimp only [List.take]
      simp only [Bool.and_eq_true, Bool.or_eq_true, Bool.not_eq_true', Bool.not_eq_false', Bool.and_eq_false_iff, Bool.or_eq_false_iff, Bool.not_not, decide_eq_true_eq, decide_eq_false_iff_not, ne_eq, Decidable.not_not, Bool.decide_eq_true] at H6
      refine Gn ?_
      refine Gn ?_
      refine Gy (V_pick_f rfl rfl rfl) ?_
      refine G_end ?_
      exact JQ_end 3 rfl rfl (by kernel_rfl)
    dsimp only [List.drop]
    refine Gv (V_pick_f rfl rfl rfl) ?_
    refine G_end ?_
    exact JQ_end 5 rfl rfl (by kernel_rfl)
  dsimp only [List.drop]
  refine Ga ?_
  refine G_end (X_then (G_ret ?_))
  refine G_leaveS (.nil _) (by exact (.cons (.tmp rfl) (.nil))) rfl ?_ ?_
  · exact (.refl _)
  exact ⟨rfl, rfl⟩
theorem digit4_call (c : Int) : CallV Tryz.prog 119 #[.int .u8 c] E L (.bool (isDig c)) := by
  refine CallS.toV (CallS.intro (l := [_]) _ Tryz.func119 rfl Tryz.ntmps119 rfl ?_)
  refine G_seq (G_region ?_)
  refine Ga ?_
  refine G_end (X_then (G_seq (G_region ?_)))
  refine Gm ?_
  refine Gv (V_geq rfl rfl rfl) ?_
  refine Gm ?_
  apply G_joinAnd 3 5 8 rfl
  · intro H1
    dsimp only [List.take]
    simp only [Bool.and_eq_true, Bool.or_eq_true, Bool.not_eq_true', Bool.not_eq_false', Bool.and_eq_false_iff, Bool.or_eq_false_iff, Bool.not_not, decide_eq_true_eq, decide_eq_false_iff_not, ne_eq, Decidable.not_not, Bool.decide_eq_true] at H1
    refine Gy (V_move rfl rfl) ?_
    refine Gy (V_leq rfl rfl rfl) ?_
    refine Gv (V_pick_t rfl rfl rfl) ?_
    refine G_end ?_
    exact JQ_end 3 rfl rfl (by kernel_rfl)
  · intro H2
    dsimp only [List.take]
    simp only [Bool.and_eq_true, Bool.or_eq_true, Bool.not_eq_true', Bool.not_eq_false', Bool.and_eq_false_iff, Bool.or_eq_false_iff, Bool.not_not, decide_eq_true_eq, decide_eq_false_iff_not, ne_eq, Decidable.not_not, Bool.decide_eq_true] at H2
    refine Gn ?_
    refine Gn ?_
    refine Gv (V_pick_f rfl rfl rfl) ?_
    refine G_end ?_
    exact JQ_end 3 rfl rfl (by kernel_rfl)
  dsimp only [List.drop]
  refine Ga ?_
  refine G_end (X_then (G_ret ?_))
  refine G_leaveS (.nil _) (by exact (.cons (.tmp rfl) (.nil))) rfl ?_ ?_
  · exact (.refl _)
  exact ⟨rfl, rfl⟩
theorem begSign_call (c : UInt8) (r : List UInt8) (h : isSg c.toNat = true) (hn : r.length ≤ 1000000) : CallV Tryz.prog 103 #[.string (S (c :: r))] E L (.agg #[.int .i64 3, .string (S [c]), .int .i64 0]) := by
  have hg : (c :: r)[(0 : Int).toNat]? = some c := rfl
  have hlen : (c :: r).length = r.length + 1 := rfl
  refine CallS.toV (CallS.intro (l := [_]) _ Tryz.func103 rfl Tryz.ntmps103 rfl ?_)
  refine G_seq (G_region ?_)
  (refine G_alloc rfl rfl rfl (.none rfl) ?_; intro b2)
  refine G_end (X_then (G_seq (G_region ?_)))
  refine Ga ?_
  refine G_end (X_then (G_seq (G_block (G_seq (G_region ?_)))))
  refine Gm ?_
  refine Gv (V_sidx rfl rfl rfl (by omega) (by assumption)) ?_
  refine G_callv (k := 117) (.mk rfl rfl rfl rfl) rfl rfl (.none rfl) (sign4_call _ _ _) ?_
  refine Ga ?_
  refine G_end (X_then ?_)
  refine G_cond_t rfl (by assumption) ?_
  refine G_seq (G_region ?_)
  refine Gm ?_
  refine Gv (V_front rfl rfl rfl (by omega) (by omega)) ?_
  refine Gv (V_build rfl rfl (by simp [fillV, setLs, setL, Value.cells]; rfl)) ?_
  refine G_storeA rfl rfl rfl rfl (by simp [Value.oneCell']) rfl (.none rfl) (.head _ _ _) rfl ?_
  refine G_end (X_then (G_ret (X_block_ret (X_then_ret ?_))))
  refine G_leaveS (.drop _ (.nil _)) (by exact (.cons (.cellA rfl (Cells.own (.head _)) rfl) (.nil))) rfl ?_ ?_
  · exact (.refl _)
  exact ⟨rfl, rfl⟩
theorem begWord_call (c : UInt8) (r : List UInt8) (h0 : isSg c.toNat = false) (h : isLet c.toNat = true) (hn : r.length ≤ 1000000) : CallV Tryz.prog 103 #[.string (S (c :: r))] E L (.agg #[.int .i64 1, .string (S ((c :: r).take (1 + wl isWc r))), .int .i64 0]) := by
  have hg : (c :: r)[(0 : Int).toNat]? = some c := rfl
  have hlen : (c :: r).length = r.length + 1 := rfl
  have hle := wl_le isWc r
  refine CallS.toV (CallS.intro (l := [_]) _ Tryz.func103 rfl Tryz.ntmps103 rfl ?_)
  refine G_seq (G_region ?_)
  (refine G_alloc rfl rfl rfl (.none rfl) ?_; intro b2)
  refine G_end (X_then (G_seq (G_region ?_)))
  refine Ga ?_
  refine G_end (X_then (G_seq (G_block (G_seq (G_region ?_)))))
  refine Gm ?_
  refine Gv (V_sidx rfl rfl rfl (by omega) (by assumption)) ?_
  refine G_callv (k := 117) (.mk rfl rfl rfl rfl) rfl rfl (.none rfl) (sign4_call _ _ _) ?_
  refine Ga ?_
  refine G_end (X_then ?_)
  refine G_cond_f rfl (by assumption) ?_
  refine G_seq (G_region ?_)
  refine Gm ?_
  refine Gv (V_sidx rfl rfl rfl (by omega) (by assumption)) ?_
  refine G_callv (k := 118) (.mk rfl rfl rfl rfl) rfl rfl (.none rfl) (letter4_call _ _ _) ?_
  refine Ga ?_
  refine G_end (X_then ?_)
  refine G_cond_t rfl (by assumption) ?_
  refine G_seq (G_block ?_)
  refine G_loop (α := Nat) (fun m => [(0, .string (S (c :: r))), (2, .pointer (some ⟨b2, 0, none⟩)), (3, .int .i64 (1 + m : Nat))]) (fun _ => E) (fun _ => .blk b2 (.cells #[.int .i64 0, .string (S []), .int .i64 0] 92 (0, 0)) :: L)
    (fun m => m ≤ wl isWc r) (fun m => r.length - m) 0 (Nat.zero_le _) ⟨rfl, rfl, rfl, trivial⟩ rfl rfl ?_
  intro m hm
  by_cases hlt : m < r.length
  · have hg1 : (c :: r)[((1 + m : Nat) : Int).toNat]? = some r[m] := by
      rw [Int.toNat_natCast, show 1 + m = m + 1 by omega, List.getElem?_cons_succ]
      exact List.getElem?_eq_getElem hlt
    have yes := wl_yes isWc r m hm hlt
    have no := wl_no isWc r m hm hlt
    cases h1 : isLet r[m].toNat with
    | true =>
      have := yes (by simp [isWc, h1])
      refine G_seq (G_seq (G_region ?_))
      refine Gm ?_
      refine Gm ?_
      refine Gv (V_len rfl rfl) ?_
      refine Gv (V_lss rfl rfl rfl) ?_
      refine Gm ?_
      refine G.bool_t 19 rfl (decide_eq_true (by omega)) ?_
      refine Gy (V_move rfl rfl) ?_
      refine Gy (V_move rfl rfl) ?_
      refine Gy (V_sidx rfl rfl rfl (by omega) (by assumption)) ?_
      refine G_callv (k := 118) (.mk rfl rfl rfl rfl) rfl rfl (.yes rfl rfl rfl rfl) (letter4_call _ _ _) ?_
      refine Gy (V_move rfl rfl) ?_
      refine G.bool_t 24 rfl (by assumption) ?_
      refine Gn ?_
      refine Gn ?_
      refine Gn ?_
      refine Gn ?_
      refine Gy (V_pick_t rfl rfl rfl) ?_
      refine Gy (V_move rfl rfl) ?_
      refine Gn ?_
      refine Gn ?_
      refine Gn ?_
      refine Gn ?_
      refine Gy (V_pick_t rfl rfl rfl) ?_
      refine Gv (V_pick_t rfl rfl rfl) ?_
      refine G_end (X_then ?_)
      refine G_cond_t rfl rfl ?_
      refine G_skip (X_then (G_block (G_region ?_)))
      refine Gm ?_
      refine Gv (V_add_i64 rfl rfl rfl (by omega) (by omega)) ?_
      refine Ga ?_
      refine G_end (X_block (X_then ?_))
      exact G_again (m + 1) (by omega) (by omega) ⟨rfl, rfl, rfl, trivial⟩ rfl rfl
    | false =>
      cases h2 : isDig r[m].toNat with
      | true =>
        have := yes (by simp [isWc, h2])
        refine G_seq (G_seq (G_region ?_))
        refine Gm ?_
        refine Gm ?_
        refine Gv (V_len rfl rfl) ?_
        refine Gv (V_lss rfl rfl rfl) ?_
        refine Gm ?_
        refine G.bool_t 19 rfl (decide_eq_true (by omega)) ?_
        refine Gy (V_move rfl rfl) ?_
        refine Gy (V_move rfl rfl) ?_
        refine Gy (V_sidx rfl rfl rfl (by omega) (by assumption)) ?_
        refine G_callv (k := 118) (.mk rfl rfl rfl rfl) rfl rfl (.yes rfl rfl rfl rfl) (letter4_call _ _ _) ?_
        refine Gy (V_move rfl rfl) ?_
        refine G.bool_f 24 rfl (by assumption) ?_
        refine Gy (V_move rfl rfl) ?_
        refine Gy (V_move rfl rfl) ?_
        refine Gy (V_sidx rfl rfl rfl (by omega) (by assumption)) ?_
        refine G_callv (k := 119) (.mk rfl rfl rfl rfl) rfl rfl (.yes rfl rfl rfl rfl) (digit4_call _ _ _) ?_
        refine Gy (V_pick_f rfl rfl rfl) ?_
        refine Gy (V_move rfl rfl) ?_
        refine G.bool_t 30 rfl (by assumption) ?_
        refine Gn ?_
        refine Gn ?_
        refine Gn ?_
        refine Gn ?_
        refine Gy (V_pick_t rfl rfl rfl) ?_
        refine Gv (V_pick_t rfl rfl rfl) ?_
        refine G_end (X_then ?_)
        refine G_cond_t rfl rfl ?_
        refine G_skip (X_then (G_block (G_region ?_)))
        refine Gm ?_
        refine Gv (V_add_i64 rfl rfl rfl (by omega) (by omega)) ?_
        refine Ga ?_
        refine G_end (X_block (X_then ?_))
        exact G_again (m + 1) (by omega) (by omega) ⟨rfl, rfl, rfl, trivial⟩ rfl rfl
      | false =>
        by_cases h3 : (r[m].toNat : Int) = 95
        · have := yes (by simp [isWc, h3])
          refine G_seq (G_seq (G_region ?_))
          refine Gm ?_
          refine Gm ?_
          refine Gv (V_len rfl rfl) ?_
          refine Gv (V_lss rfl rfl rfl) ?_
          refine Gm ?_
          refine G.bool_t 19 rfl (decide_eq_true (by omega)) ?_
          refine Gy (V_move rfl rfl) ?_
          refine Gy (V_move rfl rfl) ?_
          refine Gy (V_sidx rfl rfl rfl (by omega) (by assumption)) ?_
          refine G_callv (k := 118) (.mk rfl rfl rfl rfl) rfl rfl (.yes rfl rfl rfl rfl) (letter4_call _ _ _) ?_
          refine Gy (V_move rfl rfl) ?_
          refine G.bool_f 24 rfl (by assumption) ?_
          refine Gy (V_move rfl rfl) ?_
          refine Gy (V_move rfl rfl) ?_
          refine Gy (V_sidx rfl rfl rfl (by omega) (by assumption)) ?_
          refine G_callv (k := 119) (.mk rfl rfl rfl rfl) rfl rfl (.yes rfl rfl rfl rfl) (digit4_call _ _ _) ?_
          refine Gy (V_pick_f rfl rfl rfl) ?_
          refine Gy (V_move rfl rfl) ?_
          refine G.bool_f 30 rfl (by assumption) ?_
          refine Gy (V_move rfl rfl) ?_
          refine Gy (V_move rfl rfl) ?_
          refine Gy (V_sidx rfl rfl rfl (by omega) (by assumption)) ?_
          refine Gy (V_eql rfl rfl rfl) ?_
          refine Gy (V_pick_f rfl rfl rfl) ?_
          refine Gv (V_pick_t rfl rfl rfl) ?_
          refine G_end (X_then ?_)
          refine G_cond_t rfl (decide_eq_true (by omega)) ?_
          refine G_skip (X_then (G_block (G_region ?_)))
          refine Gm ?_
          refine Gv (V_add_i64 rfl rfl rfl (by omega) (by omega)) ?_
          refine Ga ?_
          refine G_end (X_block (X_then ?_))
          exact G_again (m + 1) (by omega) (by omega) ⟨rfl, rfl, rfl, trivial⟩ rfl rfl
        · have hend := no (by simp [isWc, h1, h2]; omega)
          rw [← hend]
          refine G_seq (G_seq (G_region ?_))
          refine Gm ?_
          refine Gm ?_
          refine Gv (V_len rfl rfl) ?_
          refine Gv (V_lss rfl rfl rfl) ?_
          refine Gm ?_
          refine G.bool_t 19 rfl (decide_eq_true (by omega)) ?_
          refine Gy (V_move rfl rfl) ?_
          refine Gy (V_move rfl rfl) ?_
          refine Gy (V_sidx rfl rfl rfl (by omega) (by assumption)) ?_
          refine G_callv (k := 118) (.mk rfl rfl rfl rfl) rfl rfl (.yes rfl rfl rfl rfl) (letter4_call _ _ _) ?_
          refine Gy (V_move rfl rfl) ?_
          refine G.bool_f 24 rfl (by assumption) ?_
          refine Gy (V_move rfl rfl) ?_
          refine Gy (V_move rfl rfl) ?_
          refine Gy (V_sidx rfl rfl rfl (by omega) (by assumption)) ?_
          refine G_callv (k := 119) (.mk rfl rfl rfl rfl) rfl rfl (.yes rfl rfl rfl rfl) (digit4_call _ _ _) ?_
          refine Gy (V_pick_f rfl rfl rfl) ?_
          refine Gy (V_move rfl rfl) ?_
          refine G.bool_f 30 rfl (by assumption) ?_
          refine Gy (V_move rfl rfl) ?_
          refine Gy (V_move rfl rfl) ?_
          refine Gy (V_sidx rfl rfl rfl (by omega) (by assumption)) ?_
          refine Gy (V_eql rfl rfl rfl) ?_
          refine Gy (V_pick_f rfl rfl rfl) ?_
          refine Gv (V_pick_t rfl rfl rfl) ?_
          refine G_end (X_then ?_)
          refine G_cond_f rfl (decide_eq_false (by omega)) ?_
          refine G_exit (X_then_exit (X_then_exit (X_block_hit (X_then (G_seq (G_region ?_))))))
          refine Gm ?_
          refine Gm ?_
          refine Gv (V_front rfl rfl rfl (by omega) (by omega)) ?_
          refine Gv (V_build rfl rfl (by simp [fillV, setLs, setL, Value.cells]; rfl)) ?_
          refine G_storeA rfl rfl rfl rfl (by simp [Value.oneCell']) rfl (.none rfl) (.head _ _ _) rfl ?_
          refine G_end (X_then (G_ret (X_block_ret (X_then_ret ?_))))
          refine G_leaveS (.drop _ (.nil _)) (by exact (.cons (.cellA rfl (Cells.own (.head _)) rfl) (.nil))) rfl ?_ ?_
          · exact (.refl _)
          exact ⟨rfl, rfl⟩
  · have hend : m = wl isWc r := by omega
    rw [← hend]
    refine G_seq (G_seq (G_region ?_))
    refine Gm ?_
    refine Gm ?_
    refine Gv (V_len rfl rfl) ?_
    refine Gv (V_lss rfl rfl rfl) ?_
    refine Gm ?_
    refine G.bool_f 19 rfl (decide_eq_false (by omega)) ?_
    refine Gn ?_
    refine Gn ?_
    refine Gn ?_
    refine Gn ?_
    refine Gn ?_
    refine G_stay (.un rfl rfl rfl rfl) rfl rfl ?_
    refine G_stay (.un rfl rfl rfl rfl) rfl rfl ?_
    refine G_stay (.un rfl rfl rfl rfl) rfl rfl ?_
    refine G_stay (.un rfl rfl rfl rfl) rfl rfl ?_
    refine Gn ?_
    refine Gn ?_
    refine G_stay (.un rfl rfl rfl rfl) rfl rfl ?_
    refine G_stay (.un rfl rfl rfl rfl) rfl rfl ?_
    refine G_stay (.un rfl rfl rfl rfl) rfl rfl ?_
    refine G_stay (.un rfl rfl rfl rfl) rfl rfl ?_
    refine Gn ?_
    refine Gv (V_pick_f rfl rfl rfl) ?_
    refine G_end (X_then ?_)
    refine G_cond_f rfl rfl ?_
    refine G_exit (X_then_exit (X_then_exit (X_block_hit (X_then (G_seq (G_region ?_))))))
    refine Gm ?_
    refine Gm ?_
    refine Gv (V_front rfl rfl rfl (by omega) (by omega)) ?_
    refine Gv (V_build rfl rfl (by simp [fillV, setLs, setL, Value.cells]; rfl)) ?_
    refine G_storeA rfl rfl rfl rfl (by simp [Value.oneCell']) rfl (.none rfl) (.head _ _ _) rfl ?_
    refine G_end (X_then (G_ret (X_block_ret (X_then_ret ?_))))
    refine G_leaveS (.drop _ (.nil _)) (by exact (.cons (.cellA rfl (Cells.own (.head _)) rfl) (.nil))) rfl ?_ ?_
    · exact (.refl _)
    exact ⟨rfl, rfl⟩
end
end Go.Proofs.YtimiokmgnclggaaGreat
set_option linter.unusedSimpArgs false
set_option linter.unusedVariables false
set_option maxHeartbeats 2000000
set_option maxRecDepth 20000
namespace Go.Proofs.YtimiokmgnclggaaGreat
open Go.RowKit
/-! Lexemes of a text, as the reference finds them: numbers, blanks, the next lexeme. -/
section
variable (E : Env) (L : List Res)
theorem begNum_call (c : UInt8) (r : List UInt8) (h0 : isSg c.toNat = false) (h00 : isLet c.toNat = false) (h : isDig c.toNat = true) (hn : r.length ≤ 1000000) (h48 : ¬ ((c.toNat : Int) = 48 ∧ 0 < wl isDg r))
    (hnx : ∀ d, r[wl isDg r]? = some d → isLet d.toNat = false ∧ ¬ (d.toNat : Int) = 95) : CallV Tryz.prog 103 #[.string (S (c :: r))] E L (.agg #[.int .i64 2, .string (S ((c :: r).take (1 + wl isDg r))), .int .i64 0]) := by
  have hg : (c :: r)[(0 : Int).toNat]? = some c := rfl
  have hlen : (c :: r).length = r.length + 1 := rfl
  have hle := wl_le isDg r
  refine CallS.toV (CallS.intro (l := [_]) _ Tryz.func103 rfl Tryz.ntmps103 rfl ?_)
  refine G_seq (G_region ?_)
  (refine G_alloc rfl rfl rfl (.none rfl) ?_; intro b2)
  refine G_end (X_then (G_seq (G_region ?_)))
  refine Ga ?_
  refine G_end (X_then (G_seq (G_block (G_seq (G_region ?_)))))
  refine Gm ?_
  refine Gv (V_sidx rfl rfl rfl (by omega) (by assumption)) ?_
  refine G_callv (k := 117) (.mk rfl rfl rfl rfl) rfl rfl (.none rfl) (sign4_call _ _ _) ?_
  refine Ga ?_
  refine G_end (X_then ?_)
  refine G_cond_f rfl (by assumption) ?_
  refine G_seq (G_region ?_)
  refine Gm ?_
  refine Gv (V_sidx rfl rfl rfl (by omega) (by assumption)) ?_
  refine G_callv (k := 118) (.mk rfl rfl rfl rfl) rfl rfl (.none rfl) (letter4_call _ _ _) ?_
  refine Ga ?_
  refine G_end (X_then ?_)
  refine G_cond_f rfl (by assumption) ?_
  refine G_seq (G_region ?_)
  refine Gm ?_
  refine Gv (V_sidx rfl rfl rfl (by omega) (by assumption)) ?_
  refine G_callv (k := 119) (.mk rfl rfl rfl rfl) rfl rfl (.none rfl) (digit4_call _ _ _) ?_
  refine Ga ?_
  refine G_end (X_then ?_)
  refine G_cond_t rfl (by assumption) ?_
  refine G_seq (G_block ?_)
  refine G_loop (α := Nat) (fun m => [(0, .string (S (c :: r))), (2, .pointer (some ⟨b2, 0, none⟩)), (3, .int .i64 (1 + m : Nat))]) (fun _ => E) (fun _ => .blk b2 (.cells #[.int .i64 0, .string (S []), .int .i64 0] 92 (0, 0)) :: L)
    (fun m => m ≤ wl isDg r) (fun m => r.length - m) 0 (Nat.zero_le _) ⟨rfl, rfl, rfl, trivial⟩ rfl rfl ?_
  intro m hm
  by_cases hlt : m < r.length
  · have hg1 : (c :: r)[((1 + m : Nat) : Int).toNat]? = some r[m] := by
      rw [Int.toNat_natCast, show 1 + m = m + 1 by omega, List.getElem?_cons_succ]
      exact List.getElem?_eq_getElem hlt
    have yes := wl_yes isDg r m hm hlt
    have no := wl_no isDg r m hm hlt
    cases h1 : isDig r[m].toNat with
    | true =>
      have := yes (by simp [isDg, h1])
      refine G_seq (G_seq (G_region ?_))
      refine Gm ?_
      refine Gm ?_
      refine Gv (V_len rfl rfl) ?_
      refine Gv (V_lss rfl rfl rfl) ?_
      refine Gm ?_
      refine G.bool_t 51 rfl (decide_eq_true (by omega)) ?_
      refine Gy (V_move rfl rfl) ?_
      refine Gy (V_move rfl rfl) ?_
      refine Gy (V_sidx rfl rfl rfl (by omega) (by assumption)) ?_
      refine G_callv (k := 119) (.mk rfl rfl rfl rfl) rfl rfl (.yes rfl rfl rfl rfl) (digit4_call _ _ _) ?_
      refine Gv (V_pick_t rfl rfl rfl) ?_
      refine G_end (X_then ?_)
      refine G_cond_t rfl (by assumption) ?_
      refine G_skip (X_then (G_block (G_region ?_)))
      refine Gm ?_
      refine Gv (V_add_i64 rfl rfl rfl (by omega) (by omega)) ?_
      refine Ga ?_
      refine G_end (X_block (X_then ?_))
      exact G_again (m + 1) (by omega) (by omega) ⟨rfl, rfl, rfl, trivial⟩ rfl rfl
    | false =>
      have hend := no (by simp [isDg, h1])
      rw [← hend] at h48 hnx ⊢
      have hd := hnx _ (List.getElem?_eq_getElem hlt)
      obtain ⟨hd1, hd2⟩ := hd
      by_cases h4 : (c.toNat : Int) = 48
      · obtain rfl : m = 0 := by omega
        refine G_seq (G_seq (G_region ?_))
        refine Gm ?_
        refine Gm ?_
        refine Gv (V_len rfl rfl) ?_
        refine Gv (V_lss rfl rfl rfl) ?_
        refine Gm ?_
        refine G.bool_t 51 rfl (decide_eq_true (by omega)) ?_
        refine Gy (V_move rfl rfl) ?_
        refine Gy (V_move rfl rfl) ?_
        refine Gy (V_sidx rfl rfl rfl (by omega) (by assumption)) ?_
        refine G_callv (k := 119) (.mk rfl rfl rfl rfl) rfl rfl (.yes rfl rfl rfl rfl) (digit4_call _ _ _) ?_
        refine Gv (V_pick_t rfl rfl rfl) ?_
        refine G_end (X_then ?_)
        refine G_cond_f rfl (by assumption) ?_
        refine G_exit (X_then_exit (X_then_exit (X_block_hit (X_then (G_seq (G_seq (G_region ?_)))))))
        refine Gm ?_
        refine Gv (V_sidx rfl rfl rfl (by omega) (by assumption)) ?_
        refine Gv (V_eql rfl rfl rfl) ?_
        refine Gm ?_
        refine G.bool_t 62 rfl (decide_eq_true (by omega)) ?_
        refine Gy (V_move rfl rfl) ?_
        refine Gy (V_gtr rfl rfl rfl) ?_
        refine Gv (V_pick_t rfl rfl rfl) ?_
        refine Gm ?_
        refine G.bool_f 66 rfl (by kernel_rfl) ?_
        refine Gy (V_move rfl rfl) ?_
        refine Gy (V_move rfl rfl) ?_
        refine Gy (V_len rfl rfl) ?_
        refine Gy (V_lss rfl rfl rfl) ?_
        refine Gy (V_move rfl rfl) ?_
        refine G.bool_t 71 rfl (decide_eq_true (by omega)) ?_
        refine Gy (V_move rfl rfl) ?_
        refine Gy (V_move rfl rfl) ?_
        refine Gy (V_sidx rfl rfl rfl (by omega) (by assumption)) ?_
        refine G_callv (k := 118) (.mk rfl rfl rfl rfl) rfl rfl (.yes rfl rfl rfl rfl) (letter4_call _ _ _) ?_
        refine Gy (V_move rfl rfl) ?_
        refine G.bool_f 76 rfl (by assumption) ?_
        refine Gy (V_move rfl rfl) ?_
        refine Gy (V_move rfl rfl) ?_
        refine Gy (V_sidx rfl rfl rfl (by omega) (by assumption)) ?_
        refine Gy (V_eql rfl rfl rfl) ?_
        refine Gy (V_pick_f rfl rfl rfl) ?_
        refine Gy (V_pick_t rfl rfl rfl) ?_
        refine Gv (V_pick_f rfl rfl rfl) ?_
        refine G_end (X_then ?_)
        refine G_cond_f rfl (decide_eq_false (by omega)) ?_
        refine G_skip (X_then (G_seq (G_region ?_)))
        refine Gm ?_
        refine Gm ?_
        refine Gv (V_front rfl rfl rfl (by omega) (by omega)) ?_
        refine Gv (V_build rfl rfl (by simp [fillV, setLs, setL, Value.cells]; rfl)) ?_
        refine G_storeA rfl rfl rfl rfl (by simp [Value.oneCell']) rfl (.none rfl) (.head _ _ _) rfl ?_
        refine G_end (X_then (G_ret (X_block_ret (X_then_ret ?_))))
        refine G_leaveS (.drop _ (.nil _)) (by exact (.cons (.cellA rfl (Cells.own (.head _)) rfl) (.nil))) rfl ?_ ?_
        · exact (.refl _)
        exact ⟨rfl, rfl⟩
      · refine G_seq ?_
        refine G_seq (G_region ?_)
        refine Gm ?_
        refine Gm ?_
        refine Gv (V_len rfl rfl) ?_
        refine Gv (V_lss rfl rfl rfl) ?_
        refine Gm ?_
        refine G.bool_t 51 rfl (decide_eq_true (by omega)) ?_
        refine Gy (V_move rfl rfl) ?_
        refine Gy (V_move rfl rfl) ?_
        refine Gy (V_sidx rfl rfl rfl (by omega) (by assumption)) ?_
        refine G_callv (k := 119) (.mk rfl rfl rfl rfl) rfl rfl (.yes rfl rfl rfl rfl) (digit4_call _ _ _) ?_
        refine Gv (V_pick_t rfl rfl rfl) ?_
        refine G_end (X_then ?_)
        refine G_cond_f rfl (by assumption) ?_
        refine G_exit (X_then_exit (X_then_exit (X_block_hit (X_then (G_seq (G_seq (G_region ?_)))))))
        refine Gm ?_
        refine Gv (V_sidx rfl rfl rfl (by omega) (by assumption)) ?_
        refine Gv (V_eql rfl rfl rfl) ?_
        refine Gm ?_
        refine G.bool_f 62 rfl (decide_eq_false (by omega)) ?_
        refine Gn ?_
        refine Gn ?_
        refine Gv (V_pick_f rfl rfl rfl) ?_
        refine Gm ?_
        refine Gy (V_move rfl rfl) ?_
        refine Gy (V_move rfl rfl) ?_
        refine Gy (V_len rfl rfl) ?_
        refine Gy (V_lss rfl rfl rfl) ?_
        refine Gy (V_move rfl rfl) ?_
        refine G.bool_t 71 rfl (decide_eq_true (by omega)) ?_
        refine Gy (V_move rfl rfl) ?_
        refine Gy (V_move rfl rfl) ?_
        refine Gy (V_sidx rfl rfl rfl (by omega) (by assumption)) ?_
        refine G_callv (k := 118) (.mk rfl rfl rfl rfl) rfl rfl (.yes rfl rfl rfl rfl) (letter4_call _ _ _) ?_
        refine Gy (V_move rfl rfl) ?_
        refine G.bool_f 76 rfl (by assumption) ?_
        refine Gy (V_move rfl rfl) ?_
        refine Gy (V_move rfl rfl) ?_
        refine Gy (V_sidx rfl rfl rfl (by omega) (by assumption)) ?_
        refine Gy (V_eql rfl rfl rfl) ?_
        refine Gy (V_pick_f rfl rfl rfl) ?_
        refine Gy (V_pick_t rfl rfl rfl) ?_
        refine Gv (V_pick_f rfl rfl rfl) ?_
        refine G_end (X_then ?_)
        refine G_cond_f rfl (decide_eq_false (by omega)) ?_
        refine G_skip (X_then (G_seq (G_region ?_)))
        refine Gm ?_
        refine Gm ?_
        refine Gv (V_front rfl rfl rfl (by omega) (by omega)) ?_
        refine Gv (V_build rfl rfl (by simp [fillV, setLs, setL, Value.cells]; rfl)) ?_
        refine G_storeA rfl rfl rfl rfl (by simp [Value.oneCell']) rfl (.none rfl) (.head _ _ _) rfl ?_
        refine G_end (X_then (G_ret (X_block_ret (X_then_ret ?_))))
        refine G_leaveS (.drop _ (.nil _)) (by exact (.cons (.cellA rfl (Cells.own (.head _)) rfl) (.nil))) rfl ?_ ?_
        · exact (.refl _)
        exact ⟨rfl, rfl⟩
  · have hend : m = wl isDg r := by omega
    rw [← hend] at h48 ⊢
    by_cases h4 : (c.toNat : Int) = 48
    · obtain rfl : m = 0 := by omega
      refine G_seq (G_seq (G_region ?_))
      refine Gm ?_
      refine Gm ?_
      refine Gv (V_len rfl rfl) ?_
      refine Gv (V_lss rfl rfl rfl) ?_
      refine Gm ?_
      refine G.bool_f 51 rfl (decide_eq_false (by omega)) ?_
      refine Gn ?_
      refine Gn ?_
      refine Gn ?_
      refine Gn ?_
      refine Gv (V_pick_f rfl rfl rfl) ?_
      refine G_end (X_then ?_)
      refine G_cond_f rfl rfl ?_
      refine G_exit (X_then_exit (X_then_exit (X_block_hit (X_then (G_seq (G_seq (G_region ?_)))))))
      refine Gm ?_
      refine Gv (V_sidx rfl rfl rfl (by omega) (by assumption)) ?_
      refine Gv (V_eql rfl rfl rfl) ?_
      refine Gm ?_
      refine G.bool_t 62 rfl (decide_eq_true (by omega)) ?_
      refine Gy (V_move rfl rfl) ?_
      refine Gy (V_gtr rfl rfl rfl) ?_
      refine Gv (V_pick_t rfl rfl rfl) ?_
      refine Gm ?_
      refine G.bool_f 66 rfl (by kernel_rfl) ?_
      refine Gy (V_move rfl rfl) ?_
      refine Gy (V_move rfl rfl) ?_
      refine Gy (V_len rfl rfl) ?_
      refine Gy (V_lss rfl rfl rfl) ?_
      refine Gy (V_move rfl rfl) ?_
      refine G.bool_f 71 rfl (decide_eq_false (by omega)) ?_
      refine Gn ?_
      refine Gn ?_
      refine Gn ?_
      refine Gn ?_
      refine Gn ?_
      refine G_stay (.un rfl rfl rfl rfl) rfl rfl ?_
      refine G_stay (.un rfl rfl rfl rfl) rfl rfl ?_
      refine G_stay (.un rfl rfl rfl rfl) rfl rfl ?_
      refine G_stay (.un rfl rfl rfl rfl) rfl rfl ?_
      refine Gn ?_
      refine Gy (V_pick_f rfl rfl rfl) ?_
      refine Gv (V_pick_f rfl rfl rfl) ?_
      refine G_end (X_then ?_)
      refine G_cond_f rfl rfl ?_
      refine G_skip (X_then (G_seq (G_region ?_)))
      refine Gm ?_
      refine Gm ?_
      refine Gv (V_front rfl rfl rfl (by omega) (by omega)) ?_
      refine Gv (V_build rfl rfl (by simp [fillV, setLs, setL, Value.cells]; rfl)) ?_
      refine G_storeA rfl rfl rfl rfl (by simp [Value.oneCell']) rfl (.none rfl) (.head _ _ _) rfl ?_
      refine G_end (X_then (G_ret (X_block_ret (X_then_ret ?_))))
      refine G_leaveS (.drop _ (.nil _)) (by exact (.cons (.cellA rfl (Cells.own (.head _)) rfl) (.nil))) rfl ?_ ?_
      · exact (.refl _)
      exact ⟨rfl, rfl⟩
    · refine G_seq ?_
      refine G_seq (G_region ?_)
      refine Gm ?_
      refine Gm ?_
      refine Gv (V_len rfl rfl) ?_
      refine Gv (V_lss rfl rfl rfl) ?_
      refine Gm ?_
      refine G.bool_f 51 rfl (decide_eq_false (by omega)) ?_
      refine Gn ?_
      refine Gn ?_
      refine Gn ?_
      refine Gn ?_
      refine Gv (V_pick_f rfl rfl rfl) ?_
      refine G_end (X_then ?_)
      refine G_cond_f rfl rfl ?_
      refine G_exit (X_then_exit (X_then_exit (X_block_hit (X_then (G_seq (G_seq (G_region ?_)))))))
      refine Gm ?_
      refine Gv (V_sidx rfl rfl rfl (by omega) (by assumption)) ?_
      refine Gv (V_eql rfl rfl rfl) ?_
      refine Gm ?_
      refine G.bool_f 62 rfl (decide_eq_false (by omega)) ?_
      refine Gn ?_
      refine Gn ?_
      refine Gv (V_pick_f rfl rfl rfl) ?_
      refine Gm ?_
      refine Gy (V_move rfl rfl) ?_
      refine Gy (V_move rfl rfl) ?_
      refine Gy (V_len rfl rfl) ?_
      refine Gy (V_lss rfl rfl rfl) ?_
      refine Gy (V_move rfl rfl) ?_
      refine G.bool_f 71 rfl (decide_eq_false (by omega)) ?_
      refine Gn ?_
      refine Gn ?_
      refine Gn ?_
      refine Gn ?_
      refine Gn ?_
      refine G_stay (.un rfl rfl rfl rfl) rfl rfl ?_
      refine G_stay (.un rfl rfl rfl rfl) rfl rfl ?_
      refine G_stay (.un rfl rfl rfl rfl) rfl rfl ?_
      refine G_stay (.un rfl rfl rfl rfl) rfl rfl ?_
      refine Gn ?_
      refine Gy (V_pick_f rfl rfl rfl) ?_
      refine Gv (V_pick_f rfl rfl rfl) ?_
      refine G_end (X_then ?_)
      refine G_cond_f rfl rfl ?_
      refine G_skip (X_then (G_seq (G_region ?_)))
      refine Gm ?_
      refine Gm ?_
      refine Gv (V_front rfl rfl rfl (by omega) (by omega)) ?_
      refine Gv (V_build rfl rfl (by simp [fillV, setLs, setL, Value.cells]; rfl)) ?_
      refine G_storeA rfl rfl rfl rfl (by simp [Value.oneCell']) rfl (.none rfl) (.head _ _ _) rfl ?_
      refine G_end (X_then (G_ret (X_block_ret (X_then_ret ?_))))
      refine G_leaveS (.drop _ (.nil _)) (by exact (.cons (.cellA rfl (Cells.own (.head _)) rfl) (.nil))) rfl ?_ ?_
      · exact (.refl _)
      exact ⟨rfl, rfl⟩
theorem begL_call (s : List UInt8) (k : Int) (t : List UInt8) (h : begL s = (k, t)) (hk : k ≠ 0) (hn : s.length ≤ 1000000) : CallV Tryz.prog 103 #[.string (S s)] E L (.agg #[.int .i64 k, .string (S t), .int .i64 0]) := by
  cases s with
  | nil => simp only [begL, Prod.mk.injEq] at h; exact absurd h.1.symm hk
  | cons c r =>
    have hn' : r.length ≤ 1000000 := by simp at hn; omega
    simp only [begL] at h
    cases h1 : isSg c.toNat with
    | true =>
      rw [if_pos h1] at h
      cases h
      exact begSign_call E L c r h1 hn'
    | false =>
      rw [if_neg (by rw [h1]; decide)] at h
      cases h2 : isLet c.toNat with
      | true =>
        rw [if_pos h2] at h
        cases h
        exact begWord_call E L c r h1 h2 hn'
      | false =>
        rw [if_neg (by rw [h2]; decide)] at h
        cases h3 : isDig c.toNat with
        | true =>
          rw [if_pos h3] at h
          split at h
          · cases h; exact absurd rfl hk
          · rename_i hno
            cases h
            refine begNum_call E L c r h1 h2 h3 hn' (fun q => hno (.inl q)) (fun d hd => ?_)
            have hq := fun q => hno (.inr q)
            rw [hd] at hq
            simp only [badNx, Bool.or_eq_true, decide_eq_true_eq] at hq
            refine ⟨?_, fun q => hq (.inr q)⟩
            cases e : isLet d.toNat with
            | false => rfl
            | true => exact absurd (.inl e) hq
        | false =>
          rw [if_neg (by rw [h3]; decide)] at h
          cases h
          exact absurd rfl hk
/-- No remark begins in the text. -/
def noRem (s : List UInt8) : Bool := s.all fun c => decide (c.toNat ≠ 35)
theorem pass4_call (s : List UInt8) (at' : Nat) (hat : at' ≤ s.length) (hn : s.length ≤ 1000000) (hr : noRem s = true) : CallV Tryz.prog 102 #[.string (S s), .int .i64 at'] E L (.int .i64 (at' + wl isB8 (s.drop at') : Nat)) := by
  have hle := wl_le isB8 (s.drop at')
  rw [List.length_drop] at hle
  refine CallS.toV (CallS.intro (l := [_, _]) _ Tryz.func102 rfl Tryz.ntmps102 rfl ?_)
  refine G_seq (G_region ?_)
  refine Ga ?_
  refine G_end (X_then (G_seq (G_block ?_)))
  refine G_loop (α := Nat) (fun m => [(0, .string (S s)), (1, .int .i64 (at' + m : Nat))]) (fun _ => E) (fun _ => L)
    (fun m => m ≤ wl isB8 (s.drop at')) (fun m => s.length - at' - m) 0 (Nat.zero_le _) ⟨rfl, rfl, trivial⟩ rfl rfl ?_
  intro m hm
  by_cases hlt : at' + m < s.length
  · have hg1 : s[((at' + m : Nat) : Int).toNat]? = some s[at' + m] := by
      rw [Int.toNat_natCast]; exact List.getElem?_eq_getElem hlt
    have hlt2 : m < (s.drop at').length := by rw [List.length_drop]; omega
    have hge : (s.drop at')[m] = s[at' + m] := by rw [List.getElem_drop]
    have yes := wl_yes isB8 (s.drop at') m hm hlt2
    have no := wl_no isB8 (s.drop at') m hm hlt2
    rw [hge] at yes no
    have h35 : ¬ (s[at' + m].toNat : Int) = 35 := by
      have := List.all_eq_true.1 hr _ (List.getElem_mem hlt)
      simp only [ne_eq, decide_eq_true_eq] at this
      omega
    cases h1 : isBl s[at' + m].toNat with
    | true =>
      have := yes (by simp [isB8, h1])
      refine G_seq (G_seq (G_region ?_))
      refine Gm ?_
      refine Gm ?_
      refine Gv (V_len rfl rfl) ?_
      refine Gv (V_lss rfl rfl rfl) ?_
      refine G_end (X_then ?_)
      refine G_cond_t rfl (decide_eq_true (by omega)) ?_
      refine G_skip (X_then (G_block (G_block (G_seq (G_region ?_)))))
      refine Gm ?_
      refine Gm ?_
      refine Gv (V_sidx rfl rfl rfl (by omega) (by assumption)) ?_
      refine G_callv (k := 116) (.mk rfl rfl rfl rfl) rfl rfl (.none rfl) (blank4_call _ _ _) ?_
      refine Ga ?_
      refine G_end (X_then ?_)
      refine G_cond_t rfl (by assumption) ?_
      refine G_region ?_
      refine Gm ?_
      refine Gv (V_add_i64 rfl rfl rfl (by omega) (by omega)) ?_
      refine Ga ?_
      refine G_end (X_block (X_block (X_then ?_)))
      exact G_again (m + 1) (by omega) (by omega) ⟨rfl, rfl, trivial⟩ rfl rfl
    | false =>
      have hend := no (by simp [isB8, h1])
      rw [← hend]
      refine G_seq (G_seq (G_region ?_))
      refine Gm ?_
      refine Gm ?_
      refine Gv (V_len rfl rfl) ?_
      refine Gv (V_lss rfl rfl rfl) ?_
      refine G_end (X_then ?_)
      refine G_cond_t rfl (decide_eq_true (by omega)) ?_
      refine G_skip (X_then (G_block (G_block (G_seq (G_region ?_)))))
      refine Gm ?_
      refine Gm ?_
      refine Gv (V_sidx rfl rfl rfl (by omega) (by assumption)) ?_
      refine G_callv (k := 116) (.mk rfl rfl rfl rfl) rfl rfl (.none rfl) (blank4_call _ _ _) ?_
      refine Ga ?_
      refine G_end (X_then ?_)
      refine G_cond_f rfl (by assumption) ?_
      refine G_seq (G_region ?_)
      refine Gm ?_
      refine Gm ?_
      refine Gv (V_sidx rfl rfl rfl (by omega) (by assumption)) ?_
      refine Gv (V_eql rfl rfl rfl) ?_
      refine Ga ?_
      refine G_end (X_then ?_)
      refine G_cond_f rfl (decide_eq_false (by omega)) ?_
      refine G_seq (G_region ?_)
      refine Gm ?_
      refine Ga ?_
      refine G_end (X_then (G_ret (X_block_ret (X_block_ret (X_then_ret (X_block_ret (X_then_ret ?_)))))))
      refine G_leaveS (.nil _) (by exact (.cons (.tmp rfl) (.nil))) rfl ?_ ?_
      · exact (.refl _)
      exact ⟨rfl, rfl⟩
  · have hend : m = wl isB8 (s.drop at') := by omega
    rw [← hend]
    refine G_seq (G_seq (G_region ?_))
    refine Gm ?_
    refine Gm ?_
    refine Gv (V_len rfl rfl) ?_
    refine Gv (V_lss rfl rfl rfl) ?_
    refine G_end (X_then ?_)
    refine G_cond_f rfl (decide_eq_false (by omega)) ?_
    refine G_exit (X_then_exit (X_then_exit (X_block_hit (X_then (G_seq (G_region ?_))))))
    refine Gm ?_
    refine Ga ?_
    refine G_end (X_then (G_ret ?_))
    refine G_leaveS (.nil _) (by exact (.cons (.tmp rfl) (.nil))) rfl ?_ ?_
    · exact (.refl _)
    exact ⟨rfl, rfl⟩
/-- Where the next lexeme begins. -/
def pos4 (s : List UInt8) (at' : Nat) : Nat := at' + wl isB8 (s.drop at')
theorem pos4_le {s : List UInt8} {at' : Nat} (h : at' ≤ s.length) : pos4 s at' ≤ s.length := by
  have hle := wl_le isB8 (s.drop at')
  rw [List.length_drop] at hle
  unfold pos4
  omega
theorem NextEnd_call (s : List UInt8) (at' : Nat) (hat : at' ≤ s.length) (hn : s.length ≤ 1000000) (hr : noRem s = true) (he : pos4 s at' = s.length) :
    CallV Tryz.prog 68 #[.string (S s), .int .i64 at'] E L (.tuple #[.agg #[.int .i64 0, .string (S []), .int .i64 0], .int .i64 0, .agg #[.int .i64 5, .int .i64 s.length]]) := by
  have hp := fun L0 => pass4_call E L0 s at' hat hn hr
  have he2 : at' + wl isB8 (s.drop at') = s.length := he
  rw [he2] at hp
  refine CallS.toV (CallS.intro (l := [_, _]) _ Tryz.func68 rfl Tryz.ntmps68 rfl ?_)
  refine G_seq (G_region ?_)
  (refine G_alloc rfl rfl rfl (.none rfl) ?_; intro b4)
  refine Ga ?_
  (refine G_alloc rfl rfl rfl (.none rfl) ?_; intro b6)
  refine G_end (X_then (G_seq (G_seq (G_region ?_))))
  refine Gm ?_
  refine Gv (V_lss rfl rfl rfl) ?_
  refine Gm ?_
  refine G.bool_f 10 rfl (decide_eq_false (by omega)) ?_
  refine Gy (V_move rfl rfl) ?_
  refine Gy (V_move rfl rfl) ?_
  refine Gy (V_len rfl rfl) ?_
  refine Gy (V_gtr rfl rfl rfl) ?_
  refine Gv (V_pick_f rfl rfl rfl) ?_
  refine G_end (X_then ?_)
  refine G_cond_f rfl (decide_eq_false (by omega)) ?_
  refine G_skip (X_then (G_seq (G_region ?_)))
  refine Gm ?_
  refine Gm ?_
  refine G_callv (k := 102) (.mk rfl rfl rfl rfl) rfl rfl (.none rfl) (hp _) ?_
  refine Ga ?_
  refine G_end (X_then (G_seq (G_seq (G_region ?_))))
  refine Gm ?_
  refine Gm ?_
  refine Gv (V_len rfl rfl) ?_
  refine Gv (V_eql rfl rfl rfl) ?_
  refine G_end (X_then ?_)
  refine G_cond_t rfl (decide_eq_true (by omega)) ?_
  refine G_seq (G_region ?_)
  refine Gv (V_build rfl rfl (by simp [fillV, setLs, setL, Value.cells]; rfl)) ?_
  refine Gm ?_
  refine Gv (V_build rfl rfl (by simp [fillV, setLs, setL, Value.cells]; rfl)) ?_
  refine G_storeA rfl rfl rfl rfl (by simp [Value.oneCell']) rfl (.none rfl) (.tail _ (.head _ _ _)) rfl ?_
  refine Ga ?_
  refine G_storeA rfl rfl rfl rfl (by simp [Value.oneCell']) rfl (.none rfl) (.head _ _ _) rfl ?_
  refine G_end (X_then (G_ret (X_then_ret ?_)))
  refine G_leaveS (.drop _ (.drop _ (.nil _))) (by exact (.cons (.cellA rfl (Cells.own (.tail _ (.head _))) rfl) (.cons (.tmp rfl) (.cons (.cellA rfl (Cells.own (.head _)) rfl) (.nil))))) rfl ?_ ?_
  · exact (.refl _)
  exact ⟨rfl, rfl⟩
theorem NextLex_call (s : List UInt8) (at' : Nat) (hat : at' ≤ s.length) (hn : s.length ≤ 1000000) (hr : noRem s = true) (he : pos4 s at' < s.length) (k : Int) (t : List UInt8) (h : begL (s.drop (pos4 s at')) = (k, t)) (hk : k ≠ 0) (ht : t.length ≤ 1000000) :
    CallV Tryz.prog 68 #[.string (S s), .int .i64 at'] E L (.tuple #[.agg #[.int .i64 k, .string (S t), .int .i64 (pos4 s at' : Nat)], .int .i64 (pos4 s at' + t.length : Nat), .agg #[.int .i64 0, .int .i64 0]]) := by
  have hp := fun L0 => pass4_call E L0 s at' hat hn hr
  rw [show at' + wl isB8 (s.drop at') = pos4 s at' from rfl] at hp
  generalize pos4 s at' = p at *
  have hb := fun L0 => begL_call E L0 (s.drop p) k t h hk (by rw [List.length_drop]; omega)
  refine CallS.toV (CallS.intro (l := [_, _]) _ Tryz.func68 rfl Tryz.ntmps68 rfl ?_)
  refine G_seq (G_region ?_)
  (refine G_alloc rfl rfl rfl (.none rfl) ?_; intro b4)
  refine Ga ?_
  (refine G_alloc rfl rfl rfl (.none rfl) ?_; intro b6)
  refine G_end (X_then (G_seq (G_seq (G_region ?_))))
  refine Gm ?_
  refine Gv (V_lss rfl rfl rfl) ?_
  refine Gm ?_
  refine G.bool_f 10 rfl (decide_eq_false (by omega)) ?_
  refine Gy (V_move rfl rfl) ?_
  refine Gy (V_move rfl rfl) ?_
  refine Gy (V_len rfl rfl) ?_
  refine Gy (V_gtr rfl rfl rfl) ?_
  refine Gv (V_pick_f rfl rfl rfl) ?_
  refine G_end (X_then ?_)
  refine G_cond_f rfl (decide_eq_false (by omega)) ?_
  refine G_skip (X_then (G_seq (G_region ?_)))
  refine Gm ?_
  refine Gm ?_
  refine G_callv (k := 102) (.mk rfl rfl rfl rfl) rfl rfl (.none rfl) (hp _) ?_
  refine Ga ?_
  refine G_end (X_then (G_seq (G_seq (G_region ?_))))
  refine Gm ?_
  refine Gm ?_
  refine Gv (V_len rfl rfl) ?_
  refine Gv (V_eql rfl rfl rfl) ?_
  refine G_end (X_then ?_)
  refine G_cond_f rfl (decide_eq_false (by omega)) ?_
  refine G_skip (X_then (G_seq (G_region ?_)))
  refine Gm ?_
  refine Gm ?_
  refine Gv (V_back rfl rfl rfl (by omega) (by omega)) ?_
  refine G_callv (k := 103) (.mk rfl rfl rfl rfl) rfl rfl (.none rfl) (begL_call _ _ _ _ _ (by assumption) (by assumption) (by (simp; omega))) ?_
  (refine G_alloc rfl rfl rfl (.none rfl) ?_; intro b7)
  refine G_storeA rfl rfl rfl rfl (by simp [Value.oneCell']) rfl (.none rfl) (.head _ _ _) rfl ?_
  refine G_end (X_then (G_seq (G_seq (G_region ?_))))
  refine Gv (V_fieldAddr rfl rfl (by decide)) ?_
  refine Gv (V_load rfl rfl (Cell.own (.head _) rfl)) ?_
  refine Gv (V_eql rfl rfl rfl) ?_
  refine G_end (X_then ?_)
  refine G_cond_f rfl (decide_eq_false (by omega)) ?_
  refine G_skip (X_then (G_seq (G_region ?_)))
  refine Gm ?_
  refine Gv (V_fieldAddr rfl rfl (by decide)) ?_
  refine G_storeAt rfl rfl rfl rfl rfl rfl (.none rfl) (.head _ _ _) (Nat.le_of_ble_eq_true rfl) (by simp only [putAll, Nat.zero_add, Nat.reduceAdd, List.setIfInBounds_toArray, List.set_cons_succ, List.set_cons_zero]; rfl) ?_
  refine G_end (X_then (G_seq ?_))
  refine G_drawX 10 [(0, 1), (1, 0), (2, 0), (3, 1), (4, 0), (5, 0), (6, 0), (7, 4), (8, 0), (9, 4)] mixed (by kernel_rfl) ?_
  refine F_load rfl (.head _) (V_loadA rfl rfl (Cells.own (.head _)) rfl) rfl rfl (.none rfl) ?_
  refine F_pure rfl (fun _ _ => V_move rfl rfl) rfl rfl (.none rfl) ?_
  refine F_pure rfl (fun _ _ => V_fieldAddr rfl rfl (by decide)) rfl rfl (.none rfl) ?_
  refine F_load rfl (.head _) (V_load rfl rfl (Cell.own (.head _) rfl)) rfl rfl (.none rfl) ?_
  refine F_pure rfl (fun _ _ => V_len rfl rfl) rfl rfl (.none rfl) ?_
  refine F_pure rfl (fun _ _ => V_add_i64 rfl rfl rfl (by omega) (by omega)) rfl rfl (.none rfl) ?_
  refine F_pure rfl (fun _ _ => V_build rfl rfl (by simp [fillV, setLs, setL, Value.cells]; rfl)) rfl rfl (.none rfl) ?_
  refine F_storeF rfl rfl rfl rfl rfl (by simp [Value.oneCell']) rfl (.none rfl) (.tail _ (.tail _ (.head _ _ _))) (Nat.le_of_ble_eq_true rfl) (by simp only [putAll, Nat.zero_add, Nat.reduceAdd, List.setIfInBounds_toArray, List.set_cons_succ, List.set_cons_zero]; rfl) (.cons (by exact .refl _) (by simp) (.drop (by kernel_rfl) (.nil))) ?_
  refine F_pure rfl (fun _ _ => V_assign rfl rfl) rfl rfl (.none rfl) ?_
  refine F_storeF rfl rfl rfl rfl rfl (by simp [Value.oneCell']) rfl (.none rfl) (.tail _ (.head _ _ _)) (Nat.le_of_ble_eq_true rfl) (by simp only [putAll, Nat.zero_add, Nat.reduceAdd, List.setIfInBounds_toArray, List.set_cons_succ, List.set_cons_zero]; rfl) (.drop (by kernel_rfl) (.nil)) ?_
  (refine F_end (.nil _) ?_; dsimp only [List.drop])
  refine G_end (X_then (G_ret ?_))
  refine G_leaveS (.drop _ (.drop _ (.drop _ (.nil _)))) (by exact (.cons (.cellA rfl (Cells.own (.tail _ (.tail _ (.head _)))) rfl) (.cons (.tmp rfl) (.cons (.cellA rfl (Cells.own (.tail _ (.head _))) rfl) (.nil))))) rfl ?_ ?_
  · exact (.refl _)
  exact ⟨rfl, rfl⟩
end
end Go.Proofs.YtimiokmgnclggaaGreat
set_option linter.unusedSimpArgs false
set_option linter.unusedVariables false
set_option maxHeartbeats 2000000
set_option maxRecDepth 20000
namespace Go.Proofs.YtimiokmgnclggaaGreat
open Go.RowKit
/-! All lexemes of a text, as the reference finds them. A lexeme is laid as a token is: kind, text, offset. -/
def lexF : Nat → List UInt8 → Nat → Option (List Tok)
  | 0, _, _ => none
  | f + 1, s, at' => if pos4 s at' = s.length then some [] else
      if (begL (s.drop (pos4 s at'))).1 = 0 then none else
        (lexF f s (pos4 s at' + (begL (s.drop (pos4 s at'))).2.length)).map (⟨(begL (s.drop (pos4 s at'))).1, (begL (s.drop (pos4 s at'))).2, (pos4 s at' : Int)⟩ :: ·)
theorem begL_len (s : List UInt8) : (begL s).2.length ≤ s.length := by
  cases s with
  | nil => simp [begL]
  | cons c r =>
    simp only [begL]
    split
    · simp
    · split
      · exact List.length_take_le' _ _
      · split
        · split
          · simp
          · exact List.length_take_le' _ _
        · simp
section
variable (E : Env) (L : List Res)
theorem Lexemes_call (s : List UInt8) (l : List Tok) (f : Nat) (hf : f ≤ 1000000) (hl : lexF f s 0 = some l) (hn : s.length ≤ 2000) (hr : noRem s = true) : CallS Tryz.prog 40 #[.string (S s)] E L
    (fun r E' L' => ∃ a c, r = .tuple #[.slice a l.length c, .agg #[.int .i64 0, .int .i64 0]] ∧ SlE E' 3 a l.length (toks l) ∧ L = L') := by
  refine CallS.intro (l := [_]) _ Tryz.func40 rfl Tryz.ntmps40 rfl ?_
  refine G_seq (G_region ?_)
  refine Ga ?_
  (refine G_alloc rfl rfl rfl (.none rfl) ?_; intro b3)
  refine G_end (X_then (G_seq (G_seq (G_region ?_))))
  refine Gm ?_
  refine Gv (V_len rfl rfl) ?_
  refine Gv (V_gtr rfl rfl rfl) ?_
  refine G_end (X_then ?_)
  refine G_cond_f rfl (decide_eq_false (by omega)) ?_
  refine G_skip (X_then (G_seq (G_region ?_)))
  refine Ga ?_
  refine G_end (X_then (G_seq (G_region ?_)))
  refine Ga ?_
  refine G_end (X_then (G_block ?_))
  refine G.nilSl 92 3 ?_
  refine G_loop (α := Nat × Nat × List Tok × List Tok × Option Addr × Nat) (fun x => [(0, .string (S s)), (3, .pointer (some ⟨b3, 0, none⟩)), (4, .slice x.2.2.2.2.1 x.2.2.1.length x.2.2.2.2.2), (5, .int .i64 (x.2.1 : Nat))]) (fun _ => E)
    (fun x => .sl 92 3 x.2.2.2.2.1 x.2.2.1.length x.2.2.2.2.2 (toks x.2.2.1) :: .blk b3 (.cells #[.int .i64 0, .int .i64 0] 62 (0, 0)) :: L)
    (fun x => x.2.1 ≤ s.length ∧ lexF x.1 s x.2.1 = some x.2.2.2.1 ∧ l = x.2.2.1 ++ x.2.2.2.1 ∧ x.1 + x.2.2.1.length ≤ f) (fun x => x.1) (f, 0, [], l, none, 0) ⟨Nat.zero_le _, hl, rfl, by simp⟩ ⟨rfl, rfl, rfl, rfl, trivial⟩ rfl rfl ?_
  rintro ⟨k, at', out, rest, p, c⟩ ⟨hat, hk, rfl, hlen⟩
  simp only at hat hk hlen ⊢
  cases k with
  | zero => simp [lexF] at hk
  | succ k =>
    simp only [lexF] at hk
    by_cases he : pos4 s at' = s.length
    · rw [if_pos he] at hk
      obtain rfl := (Option.some.inj hk).symm
      rw [List.append_nil]
      refine G.freezeSl (.head _ _) ?_
      intro E1 hE1 hs1 hc1
      refine G_block (G_seq (G_region ?_))
      refine Gm ?_
      refine Gm ?_
      refine G_callv (k := 68) (.mk rfl rfl rfl rfl) rfl rfl (.none rfl) (NextEnd_call _ _ _ _ (by assumption) (by omega) (by assumption) (by assumption)) ?_
      refine Gm ?_
      refine Gv (V_extract rfl rfl rfl) ?_
      refine Gv (V_extract rfl rfl rfl) ?_
      refine Gv (V_extract rfl rfl rfl) ?_
      (refine G_alloc rfl rfl rfl (.none rfl) ?_; intro b6)
      (refine G_alloc rfl rfl rfl (.none rfl) ?_; intro b8)
      refine G_storeA rfl rfl rfl rfl (by simp [Value.oneCell']) rfl (.none rfl) (.tail _ (.head _ _ _)) rfl ?_
      refine Ga ?_
      refine G_storeA rfl rfl rfl rfl (by simp [Value.oneCell']) rfl (.none rfl) (.head _ _ _) rfl ?_
      refine G_end (X_then (G_seq (G_seq (G_region ?_))))
      refine Gv (V_fieldAddr rfl rfl (by decide)) ?_
      refine Gv (V_load rfl rfl (Cell.own (.head _) rfl)) ?_
      refine Gv (V_eql rfl rfl rfl) ?_
      refine G_end (X_then ?_)
      refine G_cond_t rfl (by kernel_rfl) ?_
      refine G_seq (G_region ?_)
      refine Gm ?_
      refine Gv (V_build rfl rfl (by simp [fillV, setLs, setL, Value.cells]; rfl)) ?_
      refine Ga ?_
      refine G_storeA rfl rfl rfl rfl (by simp [Value.oneCell']) rfl (.none rfl) (.tail _ (.tail _ (.head _ _ _))) rfl ?_
      refine G_end (X_then (G_ret (X_then_ret (X_block_ret (X_then_ret (X_block_ret ?_))))))
      refine G_leaveS (.drop _ (.drop _ (.drop _ (.nil _)))) (by exact (.cons (.tmp rfl) (.cons (.cellA rfl (Cells.own (.tail _ (.tail _ (.head _)))) rfl) (.nil)))) rfl ?_ ?_
      · exact hE1
      exact ⟨_, ⟨_, ⟨rfl, ⟨(by assumption), rfl⟩⟩⟩⟩
    · rw [if_neg he] at hk
      by_cases hz : (begL (s.drop (pos4 s at'))).1 = 0
      · rw [if_pos hz] at hk; cases hk
      · rw [if_neg hz] at hk
        obtain ⟨kd, t, hb⟩ : ∃ kd t, begL (s.drop (pos4 s at')) = (kd, t) := ⟨_, _, rfl⟩
        have hlt : pos4 s at' < s.length := by have := pos4_le hat; omega
        have htl : t.length + pos4 s at' ≤ s.length := by
          have := begL_len (s.drop (pos4 s at'))
          rw [hb, List.length_drop] at this
          simp only at this
          omega
        have hnx := fun L0 => NextLex_call E L0 s at' hat (by omega) hr hlt kd t hb (by rw [hb] at hz; exact hz) (by omega)
        rw [hb] at hk
        simp only at hk
        obtain ⟨rest', h1, rfl⟩ := Option.map_eq_some_iff.1 hk
        have hap : toks out ++ [.int .i64 kd, .string (S t), .int .i64 (pos4 s at' : Nat)] = toks (out ++ [⟨kd, t, (pos4 s at' : Int)⟩]) := by rw [toks_append]; rfl
        have hll : (out ++ [(⟨kd, t, (pos4 s at' : Int)⟩ : Tok)]).length = out.length + 1 := by simp
        refine G_block (G_seq (G_region ?_))
        refine Gm ?_
        refine Gm ?_
        refine G_callv (k := 68) (.mk rfl rfl rfl rfl) rfl rfl (.none rfl) (hnx _) ?_
        refine Gm ?_
        refine Gv (V_extract rfl rfl rfl) ?_
        refine Gv (V_extract rfl rfl rfl) ?_
        refine Gv (V_extract rfl rfl rfl) ?_
        (refine G_alloc rfl rfl rfl (.none rfl) ?_; intro b6)
        (refine G_alloc rfl rfl rfl (.none rfl) ?_; intro b8)
        refine G_storeA rfl rfl rfl rfl (by simp [Value.oneCell']) rfl (.none rfl) (.tail _ (.head _ _ _)) rfl ?_
        refine Ga ?_
        refine G_storeA rfl rfl rfl rfl (by simp [Value.oneCell']) rfl (.none rfl) (.head _ _ _) rfl ?_
        refine G_end (X_then (G_seq (G_seq (G_region ?_))))
        refine Gv (V_fieldAddr rfl rfl (by decide)) ?_
        refine Gv (V_load rfl rfl (Cell.own (.head _) rfl)) ?_
        refine Gv (V_eql rfl rfl rfl) ?_
        refine G_end (X_then ?_)
        refine G_cond_f rfl (by kernel_rfl) ?_
        refine G_skip (X_then (G_seq (G_seq (G_region ?_))))
        refine Gv (V_fieldAddr rfl rfl (by decide)) ?_
        refine Gv (V_load rfl rfl (Cell.own (.head _) rfl)) ?_
        refine Gv (V_neq rfl rfl rfl) ?_
        refine G_end (X_then ?_)
        refine G_cond_f rfl (by kernel_rfl) ?_
        refine G_skip (X_then (G_region ?_))
        refine Gm ?_
        refine Gv (V_loadA rfl rfl (Cells.own (.tail _ (.head _))) rfl) ?_
        (refine G_lit rfl rfl (by decide) (by simp [fillS, zeros, setLs, setL, Value.cells, List.range, List.range.loop]; rfl) rfl rfl (.none rfl) ?_; intro b31)
        (refine G_append rfl rfl rfl (Rd.lit (.head _) rfl) (by simp [Value.oneCell']) (by omega) (by omega) rfl rfl (.none rfl) (fun _ _ => (.tail _ (.tail _ (.tail _ (.head _ _ _))))) ?_; intro a32 c32; refine G.rm (.head _ _) ?_)
        refine Gm ?_
        refine Ga ?_
        refine Ga ?_
        refine G_end (X_block (X_then ?_))
        refine G.drop (G.drop ?_)
        rw [hap]
        exact G_again (k, pos4 s at' + t.length, out ++ [⟨kd, t, (pos4 s at' : Int)⟩], rest', a32, c32) ⟨by simp only; omega, h1, by simp only [List.append_assoc, List.cons_append, List.nil_append], by simp only [hll]; omega⟩ (by simp only; omega)
          ⟨rfl, rfl, by simp only [hll]; rfl, rfl, trivial⟩ rfl (by simp only [hll])
end
end Go.Proofs.YtimiokmgnclggaaGreat
set_option linter.unusedSimpArgs false
set_option linter.unusedVariables false
set_option maxHeartbeats 2000000
set_option maxRecDepth 20000
namespace Go.Proofs.YtimiokmgnclggaaGreat
open Go.RowKit
/-! The reader of the reference, at texts without faults: its small steps. -/
abbrev RDB (r : Nat) (txt : List UInt8) (lp : Option Addr) (ln lc : Nat) (at' : Nat) (alts k : Int) (tp : Option Addr) (tn tc : Nat) (sep start : List UInt8) (rp : Option Addr) (rn rc : Nat) : Res :=
  .blk r (.cells #[.string (S txt), .slice lp ln lc, .int .i64 at', .int .i64 0, .int .i64 0, .int .i64 alts, .int .i64 k, .slice tp tn tc, .string (S sep), .string (S start), .slice rp rn rc] 90 (0, 0))
section
variable (E : Env) (L : List Res) (r : Nat) (txt : List UInt8) (lp : Option Addr) (ln lc : Nat) (at' : Nat) (alts k : Int) (tp : Option Addr) (tn tc : Nat) (sep start : List UInt8) (rp : Option Addr) (rn rc : Nat)
theorem ok8_call (hm : RDB r txt lp ln lc at' alts k tp tn tc sep start rp rn rc ∈ L) : CallV Tryz.prog 42 #[.pointer (some ⟨r, 0, none⟩)] E L (.bool true) := by
  refine CallS.toV (CallS.intro (l := [_]) _ Tryz.func42 rfl Tryz.ntmps42 rfl ?_)
  refine G_seq (G_region ?_)
  refine Ga ?_
  refine G_end (X_then (G_seq (G_region ?_)))
  refine Gm ?_
  refine Gv (V_nilCheck rfl rfl) ?_
  refine Gv (V_fieldAddr rfl rfl (by decide)) ?_
  refine Gv (V_fieldAddr rfl rfl (by decide)) ?_
  refine Gv (V_load rfl rfl (Cell.own (by assumption) rfl)) ?_
  refine Gv (V_eql rfl rfl rfl) ?_
  refine Ga ?_
  refine G_end (X_then (G_ret ?_))
  refine G_leaveS (.nil _) (by exact (.cons (.tmp rfl) (.nil))) rfl ?_ ?_
  · exact (.refl _)
  exact ⟨(by kernel_rfl), rfl⟩
theorem Is4_call (a : Int) (s : List UInt8) (b kd : Int) (t : List UInt8) : CallV Tryz.prog 104 #[.agg #[.int .i64 a, .string (S s), .int .i64 b], .int .i64 kd, .string (S t)] E L (.bool (decide (a = kd) && decide (s = t))) := by
  refine CallS.toV (CallS.intro (l := [_, _, _]) _ Tryz.func104 rfl Tryz.ntmps104 rfl ?_)
  refine G_seq (G_region ?_)
  (refine G_boxA rfl rfl rfl rfl (.none rfl) ?_; intro b3)
  refine Ga ?_
  refine G_end (X_then (G_seq (G_region ?_)))
  refine Gv (V_fieldAddr rfl rfl (by decide)) ?_
  refine Gv (V_load rfl rfl (Cell.own (.head _) rfl)) ?_
  refine Gm ?_
  refine Gv (V_eql rfl rfl rfl) ?_
  refine Gm ?_
  apply G_joinAnd 5 11 16 rfl
  · intro H1
    dsimp only [List.take]
    simp only [Bool.and_eq_true, Bool.or_eq_true, Bool.not_eq_true', Bool.not_eq_false', Bool.and_eq_false_iff, Bool.or_eq_false_iff, Bool.not_not, decide_eq_true_eq, decide_eq_false_iff_not, ne_eq, Decidable.not_not, Bool.decide_eq_true] at H1
    refine Gy (V_fieldAddr rfl rfl (by decide)) ?_
    refine Gy (V_load rfl rfl (Cell.own (.head _) rfl)) ?_
    refine Gy (V_move rfl rfl) ?_
    refine Gy (V_seql rfl rfl rfl) ?_
    refine Gv (V_pick_t rfl rfl rfl) ?_
    refine G_end ?_
    exact JQ_end 5 rfl rfl (by kernel_rfl)
  · intro H2
    dsimp only [List.take]
    simp only [Bool.and_eq_true, Bool.or_eq_true, Bool.not_eq_true', Bool.not_eq_false', Bool.and_eq_false_iff, Bool.or_eq_false_iff, Bool.not_not, decide_eq_true_eq, decide_eq_false_iff_not, ne_eq, Decidable.not_not, Bool.decide_eq_true] at H2
    refine Gn ?_
    refine Gn ?_
    refine Gn ?_
    refine Gn ?_
    refine Gv (V_pick_f rfl rfl rfl) ?_
    refine G_end ?_
    exact JQ_end 5 rfl rfl (by kernel_rfl)
  dsimp only [List.drop]
  refine Ga ?_
  refine G_end (X_then (G_ret ?_))
  refine G_leaveS (.drop _ (.nil _)) (by exact (.cons (.tmp rfl) (.nil))) rfl ?_ ?_
  · exact (.refl _)
  exact ⟨rfl, rfl⟩
variable (l : List Tok) (hl : SlE E 3 lp ln (toks l)) (hn : ln ≤ 1000000)
include hl hn
theorem peek8_call (hm : RDB r txt lp ln lc at' alts k tp tn tc sep start rp rn rc ∈ L) (kd : Int) (t : List UInt8) (p : Int) (hx : l[at']? = some ⟨kd, t, p⟩) : CallV Tryz.prog 74 #[.pointer (some ⟨r, 0, none⟩)] E L (.agg #[.int .i64 kd, .string (S t), .int .i64 p]) := by
  have _ := hn
  have en := hl.nT
  have hlt := (List.getElem?_eq_some_iff.1 hx).1
  have hx1 := toks_get hx
  refine CallS.toV (CallS.intro (l := [_]) _ Tryz.func74 rfl Tryz.ntmps74 rfl ?_)
  refine G_seq (G_region ?_)
  (refine G_alloc rfl rfl rfl (.none rfl) ?_; intro b2)
  refine G_end (X_then (G_seq (G_seq ?_)))
  refine G_draw mixed (by kernel_rfl) ?_
  refine Q_val (V_move rfl rfl) rfl rfl (.none rfl) ?_
  refine Q_val (V_nilCheck rfl rfl) rfl rfl (.none rfl) ?_
  refine Q_val (V_fieldAddr rfl rfl (by decide)) rfl rfl (.none rfl) ?_
  refine Q_val (V_load rfl rfl (Cell.own (.tail _ (by assumption)) rfl)) rfl rfl (.none rfl) ?_
  refine Q_val (V_move rfl rfl) rfl rfl (.none rfl) ?_
  refine Q_val (V_nilCheck rfl rfl) rfl rfl (.none rfl) ?_
  refine Q_val (V_fieldAddr rfl rfl (by decide)) rfl rfl (.none rfl) ?_
  refine Q_val (V_load rfl rfl (Cell.own (.tail _ (by assumption)) rfl)) rfl rfl (.none rfl) ?_
  refine Q_val (V_lenS rfl rfl) rfl rfl (.none rfl) ?_
  refine Q_val (V_geq rfl rfl rfl) rfl rfl (.none rfl) ?_
  refine Q_end ?_
  refine X_then ?_
  refine G_cond_f rfl (decide_eq_false (by omega)) ?_
  refine G_skip (X_then (G_seq ?_))
  (refine G_drawT 10 mixed (by kernel_rfl) ?_; dsimp only [List.take, List.drop])
  refine Q_val (V_move rfl rfl) rfl rfl (.none rfl) ?_
  refine Q_val (V_nilCheck rfl rfl) rfl rfl (.none rfl) ?_
  refine Q_val (V_fieldAddr rfl rfl (by decide)) rfl rfl (.none rfl) ?_
  refine Q_val (V_load rfl rfl (Cell.own (.tail _ (by assumption)) rfl)) rfl rfl (.none rfl) ?_
  refine Q_val (V_move rfl rfl) rfl rfl (.none rfl) ?_
  refine Q_val (V_nilCheck rfl rfl) rfl rfl (.none rfl) ?_
  refine Q_val (V_fieldAddr rfl rfl (by decide)) rfl rfl (.none rfl) ?_
  refine Q_val (V_load rfl rfl (Cell.own (.tail _ (by assumption)) rfl)) rfl rfl (.none rfl) ?_
  refine Q_val (V_idxAddr rfl rfl rfl (SlE.rd (by assumption)) (by omega) (by omega)) rfl rfl (.none rfl) ?_
  refine Q_val (V_loadAS rfl rfl (SlE.rd (by assumption)) (by assumption) (by simp) (by rfl)) rfl rfl (.none rfl) ?_
  refine Q_endT ?_
  refine G_storeA rfl rfl rfl rfl (by simp [Value.oneCell']) rfl (.none rfl) (.head _ _ _) rfl ?_
  refine G_end (X_then (G_ret ?_))
  refine G_leaveS (.drop _ (.nil _)) (by exact (.cons (.cellA rfl (Cells.own (.head _)) rfl) (.nil))) rfl ?_ ?_
  · exact (.refl _)
  exact ⟨rfl, rfl⟩
theorem take8_call (kd : Int) (t : List UInt8) (p : Int) (hx : l[at']? = some ⟨kd, t, p⟩) : CallS Tryz.prog 70 #[.pointer (some ⟨r, 0, none⟩)] E (RDB r txt lp ln lc at' alts k tp tn tc sep start rp rn rc :: L)
    (fun v E' L' => v = .agg #[.int .i64 kd, .string (S t), .int .i64 p] ∧ E = E' ∧ L' = RDB r txt lp ln lc (at' + 1) alts k tp tn tc sep start rp rn rc :: L) := by
  have en := hl.nT
  have hlt := (List.getElem?_eq_some_iff.1 hx).1
  refine CallS.intro (l := [_]) _ Tryz.func70 rfl Tryz.ntmps70 rfl ?_
  refine G_seq (G_region ?_)
  (refine G_alloc rfl rfl rfl (.none rfl) ?_; intro b2)
  refine G_end (X_then (G_seq (G_region ?_)))
  refine Gm ?_
  refine G_callv (k := 74) (.mk rfl rfl rfl rfl) rfl rfl (.none rfl) (peek8_call _ _ _ _ _ _ _ _ _ _ _ _ _ _ _ _ _ _ _ (by assumption) (by assumption) (by exact .tail _ (.head _)) _ _ _ (by assumption)) ?_
  (refine G_alloc rfl rfl rfl (.none rfl) ?_; intro b3)
  refine G_storeA rfl rfl rfl rfl (by simp [Value.oneCell']) rfl (.none rfl) (.head _ _ _) rfl ?_
  refine G_end (X_then (G_seq (G_region ?_)))
  refine Gm ?_
  refine Gv (V_nilCheck rfl rfl) ?_
  refine Gv (V_fieldAddr rfl rfl (by decide)) ?_
  refine Gv (V_load rfl rfl (Cell.own (.tail _ (.tail _ (.head _))) rfl)) ?_
  refine Gv (V_add_i64 rfl rfl rfl (by omega) (by omega)) ?_
  refine Gv (V_nilCheck rfl rfl) ?_
  refine Gv (V_fieldAddr rfl rfl (by decide)) ?_
  refine G_storeAt rfl rfl rfl rfl rfl rfl (.none rfl) (.tail _ (.tail _ (.head _ _ _))) (Nat.le_of_ble_eq_true rfl) (by simp only [putAll, Nat.zero_add, Nat.reduceAdd, List.setIfInBounds_toArray, List.set_cons_succ, List.set_cons_zero]; rfl) ?_
  refine G_end (X_then (G_seq (G_region ?_)))
  refine Gv (V_loadA rfl rfl (Cells.own (.head _)) rfl) ?_
  refine G_storeA rfl rfl rfl rfl (by simp [Value.oneCell']) rfl (.none rfl) (.tail _ (.head _ _ _)) rfl ?_
  refine G_end (X_then (G_ret ?_))
  refine G_leaveS (.drop _ (.drop _ (.keep _ (.nil _)))) (by exact (.cons (.cellA rfl (Cells.own (.tail _ (.head _))) rfl) (.nil))) rfl ?_ ?_
  · exact (.refl _)
  exact ⟨rfl, ⟨rfl, rfl⟩⟩
theorem must8_call (kd : Int) (t : List UInt8) (p : Int) (hx : l[at']? = some ⟨kd, t, p⟩) : CallS Tryz.prog 69 #[.pointer (some ⟨r, 0, none⟩), .int .i64 kd, .string (S t)] E (RDB r txt lp ln lc at' alts k tp tn tc sep start rp rn rc :: L)
    (fun v E' L' => v = .tuple #[] ∧ E = E' ∧ L' = RDB r txt lp ln lc (at' + 1) alts k tp tn tc sep start rp rn rc :: L) := by
  refine CallS.intro (l := [_, _, _]) _ Tryz.func69 rfl Tryz.ntmps69 rfl ?_
  refine G_seq (G_region ?_)
  refine Gm ?_
  refine G_call (k := 70) (.mk rfl rfl rfl rfl) rfl rfl (.none rfl) (take8_call _ _ _ _ _ _ _ _ _ _ _ _ _ _ _ _ _ _ _ (by assumption) (by assumption) _ _ _ (by assumption)) ?_
  rintro r1 E2 L3 hE4 ⟨rfl, ⟨rfl, rfl⟩⟩
  replace hl := hl.mono hE4
  (refine G_alloc rfl rfl rfl (.none rfl) ?_; intro b6)
  refine G_storeA rfl rfl rfl rfl (by simp [Value.oneCell']) rfl (.none rfl) (.head _ _ _) rfl ?_
  refine G_end (X_then (G_seq (G_region ?_)))
  refine Gm ?_
  refine G_callv (k := 42) (.mk rfl rfl rfl rfl) rfl rfl (.none rfl) (ok8_call _ _ _ _ _ _ _ _ _ _ _ _ _ _ _ _ _ _ (by exact .tail _ (.head _))) ?_
  refine Gm ?_
  refine Gy (V_loadA rfl rfl (Cells.own (.head _)) rfl) ?_
  refine Gy (V_move rfl rfl) ?_
  refine Gy (V_move rfl rfl) ?_
  refine G_callv (k := 104) (.mk rfl rfl rfl rfl) rfl rfl (.yes rfl rfl rfl rfl) (Is4_call _ _ _ _ _ _ _) ?_
  refine Gy (V_not rfl rfl) ?_
  refine Gv (V_pick_t rfl rfl rfl) ?_
  refine G_end (X_then ?_)
  refine G_cond_f rfl (by simp [*]; done) ?_
  refine G_skip ?_
  refine G_leaveS_n (.drop _ (.keep _ (.nil _))) (by exact (.nil)) rfl ?_ ?_
  · exact (.refl _)
  exact ⟨(by kernel_rfl), ⟨rfl, rfl⟩⟩
theorem nextT_call (t : List UInt8) (p : Int) (hx : l[at']? = some ⟨3, t, p⟩) : CallS Tryz.prog 73 #[.pointer (some ⟨r, 0, none⟩), .string (S t)] E (RDB r txt lp ln lc at' alts k tp tn tc sep start rp rn rc :: L)
    (fun v E' L' => v = .bool true ∧ E = E' ∧ L' = RDB r txt lp ln lc (at' + 1) alts k tp tn tc sep start rp rn rc :: L) := by
  have en := hl.nT
  have hlt := (List.getElem?_eq_some_iff.1 hx).1
  have hx1 := toks_get hx
  refine CallS.intro (l := [_, _]) _ Tryz.func73 rfl Tryz.ntmps73 rfl ?_
  refine G_seq (G_region ?_)
  refine Ga ?_
  refine G_end (X_then (G_seq (G_seq ?_)))
  refine G_draw mixed (by kernel_rfl) ?_
  refine Q_val (V_move rfl rfl) rfl rfl (.none rfl) ?_
  refine Q_callv (k := 42) (.mk rfl rfl rfl rfl) rfl rfl (.none rfl) (ok8_call _ _ _ _ _ _ _ _ _ _ _ _ _ _ _ _ _ _ (by exact .head _)) ?_
  refine Q_val (V_move rfl rfl) rfl rfl (.none rfl) ?_
  refine Q_val (V_move rfl rfl) rfl rfl (.yes rfl rfl rfl rfl) ?_
  refine Q_val (V_nilCheck rfl rfl) rfl rfl (.yes rfl rfl rfl rfl) ?_
  refine Q_val (V_fieldAddr rfl rfl (by decide)) rfl rfl (.yes rfl rfl rfl rfl) ?_
  refine Q_val (V_load rfl rfl (Cell.own (.head _) rfl)) rfl rfl (.yes rfl rfl rfl rfl) ?_
  refine Q_val (V_move rfl rfl) rfl rfl (.yes rfl rfl rfl rfl) ?_
  refine Q_val (V_nilCheck rfl rfl) rfl rfl (.yes rfl rfl rfl rfl) ?_
  refine Q_val (V_fieldAddr rfl rfl (by decide)) rfl rfl (.yes rfl rfl rfl rfl) ?_
  refine Q_val (V_load rfl rfl (Cell.own (.head _) rfl)) rfl rfl (.yes rfl rfl rfl rfl) ?_
  refine Q_val (V_lenS rfl rfl) rfl rfl (.yes rfl rfl rfl rfl) ?_
  refine Q_val (V_lss rfl rfl rfl) rfl rfl (.yes rfl rfl rfl rfl) ?_
  refine Q_val (V_pick_t rfl rfl rfl) rfl rfl (.none rfl) ?_
  refine Q_val (V_move rfl rfl) rfl rfl (.none rfl) ?_
  refine Q_bool_t 19 rfl (decide_eq_true (by omega)) ?_
  refine Q_val (V_move rfl rfl) rfl rfl (.yes rfl rfl rfl rfl) ?_
  refine Q_val (V_nilCheck rfl rfl) rfl rfl (.yes rfl rfl rfl rfl) ?_
  refine Q_val (V_fieldAddr rfl rfl (by decide)) rfl rfl (.yes rfl rfl rfl rfl) ?_
  refine Q_val (V_load rfl rfl (Cell.own (.head _) rfl)) rfl rfl (.yes rfl rfl rfl rfl) ?_
  refine Q_val (V_move rfl rfl) rfl rfl (.yes rfl rfl rfl rfl) ?_
  refine Q_val (V_nilCheck rfl rfl) rfl rfl (.yes rfl rfl rfl rfl) ?_
  refine Q_val (V_fieldAddr rfl rfl (by decide)) rfl rfl (.yes rfl rfl rfl rfl) ?_
  refine Q_val (V_load rfl rfl (Cell.own (.head _) rfl)) rfl rfl (.yes rfl rfl rfl rfl) ?_
  refine Q_val (V_idxAddr rfl rfl rfl (SlE.rd (by assumption)) (by omega) (by omega)) rfl rfl (.yes rfl rfl rfl rfl) ?_
  refine Q_val (V_loadAS rfl rfl (SlE.rd (by assumption)) (by assumption) (by simp) (by rfl)) rfl rfl (.yes rfl rfl rfl rfl) ?_
  refine Q_val (V_move rfl rfl) rfl rfl (.yes rfl rfl rfl rfl) ?_
  refine Q_callv (k := 104) (.mk rfl rfl rfl rfl) rfl rfl (.yes rfl rfl rfl rfl) (Is4_call _ _ _ _ _ _ _) ?_
  refine Q_val (V_pick_t rfl rfl rfl) rfl rfl (.none rfl) ?_
  refine Q_end ?_
  refine X_then ?_
  refine G_cond_t rfl (by simp [*]; done) ?_
  refine G_seq (G_region ?_)
  refine Gm ?_
  refine Gv (V_nilCheck rfl rfl) ?_
  refine Gv (V_fieldAddr rfl rfl (by decide)) ?_
  refine Gv (V_load rfl rfl (Cell.own (.head _) rfl)) ?_
  refine Gv (V_add_i64 rfl rfl rfl (by omega) (by omega)) ?_
  refine Gv (V_nilCheck rfl rfl) ?_
  refine Gv (V_fieldAddr rfl rfl (by decide)) ?_
  refine G_storeAt rfl rfl rfl rfl rfl rfl (.none rfl) (.head _ _ _) (Nat.le_of_ble_eq_true rfl) (by simp only [putAll, Nat.zero_add, Nat.reduceAdd, List.setIfInBounds_toArray, List.set_cons_succ, List.set_cons_zero]; rfl) ?_
  refine G_end (X_then (G_seq (G_region ?_)))
  refine Ga ?_
  refine G_end (X_then (G_ret (X_then_ret ?_)))
  refine G_leaveS (.keep _ (.nil _)) (by exact (.cons (.tmp rfl) (.nil))) rfl ?_ ?_
  · exact (.refl _)
  exact ⟨(by kernel_rfl), ⟨rfl, rfl⟩⟩
theorem nextF_call (t : List UInt8) (kd : Int) (t' : List UInt8) (p : Int) (hx : l[at']? = some ⟨kd, t', p⟩) (hne : ¬ (kd = 3 ∧ t' = t)) : CallV Tryz.prog 73 #[.pointer (some ⟨r, 0, none⟩), .string (S t)] E (RDB r txt lp ln lc at' alts k tp tn tc sep start rp rn rc :: L) (.bool false) := by
  have _ := hn
  have en := hl.nT
  have hlt := (List.getElem?_eq_some_iff.1 hx).1
  have hx1 := toks_get hx
  have hf : (decide (kd = 3) && decide (t' = t)) = false := by
    cases e : (decide (kd = 3) && decide (t' = t)) with
    | false => rfl
    | true => simp only [Bool.and_eq_true, decide_eq_true_eq] at e; exact absurd e hne
  refine CallS.toV (CallS.intro (l := [_, _]) _ Tryz.func73 rfl Tryz.ntmps73 rfl ?_)
  refine G_seq (G_region ?_)
  refine Ga ?_
  refine G_end (X_then (G_seq (G_seq ?_)))
  refine G_draw mixed (by kernel_rfl) ?_
  refine Q_val (V_move rfl rfl) rfl rfl (.none rfl) ?_
  refine Q_callv (k := 42) (.mk rfl rfl rfl rfl) rfl rfl (.none rfl) (ok8_call _ _ _ _ _ _ _ _ _ _ _ _ _ _ _ _ _ _ (by exact .head _)) ?_
  refine Q_val (V_move rfl rfl) rfl rfl (.none rfl) ?_
  refine Q_val (V_move rfl rfl) rfl rfl (.yes rfl rfl rfl rfl) ?_
  refine Q_val (V_nilCheck rfl rfl) rfl rfl (.yes rfl rfl rfl rfl) ?_
  refine Q_val (V_fieldAddr rfl rfl (by decide)) rfl rfl (.yes rfl rfl rfl rfl) ?_
  refine Q_val (V_load rfl rfl (Cell.own (.head _) rfl)) rfl rfl (.yes rfl rfl rfl rfl) ?_
  refine Q_val (V_move rfl rfl) rfl rfl (.yes rfl rfl rfl rfl) ?_
  refine Q_val (V_nilCheck rfl rfl) rfl rfl (.yes rfl rfl rfl rfl) ?_
  refine Q_val (V_fieldAddr rfl rfl (by decide)) rfl rfl (.yes rfl rfl rfl rfl) ?_
  refine Q_val (V_load rfl rfl (Cell.own (.head _) rfl)) rfl rfl (.yes rfl rfl rfl rfl) ?_
  refine Q_val (V_lenS rfl rfl) rfl rfl (.yes rfl rfl rfl rfl) ?_
  refine Q_val (V_lss rfl rfl rfl) rfl rfl (.yes rfl rfl rfl rfl) ?_
  refine Q_val (V_pick_t rfl rfl rfl) rfl rfl (.none rfl) ?_
  refine Q_val (V_move rfl rfl) rfl rfl (.none rfl) ?_
  refine Q_bool_t 19 rfl (decide_eq_true (by omega)) ?_
  refine Q_val (V_move rfl rfl) rfl rfl (.yes rfl rfl rfl rfl) ?_
  refine Q_val (V_nilCheck rfl rfl) rfl rfl (.yes rfl rfl rfl rfl) ?_
  refine Q_val (V_fieldAddr rfl rfl (by decide)) rfl rfl (.yes rfl rfl rfl rfl) ?_
  refine Q_val (V_load rfl rfl (Cell.own (.head _) rfl)) rfl rfl (.yes rfl rfl rfl rfl) ?_
  refine Q_val (V_move rfl rfl) rfl rfl (.yes rfl rfl rfl rfl) ?_
  refine Q_val (V_nilCheck rfl rfl) rfl rfl (.yes rfl rfl rfl rfl) ?_
  refine Q_val (V_fieldAddr rfl rfl (by decide)) rfl rfl (.yes rfl rfl rfl rfl) ?_
  refine Q_val (V_load rfl rfl (Cell.own (.head _) rfl)) rfl rfl (.yes rfl rfl rfl rfl) ?_
  refine Q_val (V_idxAddr rfl rfl rfl (SlE.rd (by assumption)) (by omega) (by omega)) rfl rfl (.yes rfl rfl rfl rfl) ?_
  refine Q_val (V_loadAS rfl rfl (SlE.rd (by assumption)) (by assumption) (by simp) (by rfl)) rfl rfl (.yes rfl rfl rfl rfl) ?_
  refine Q_val (V_move rfl rfl) rfl rfl (.yes rfl rfl rfl rfl) ?_
  refine Q_callv (k := 104) (.mk rfl rfl rfl rfl) rfl rfl (.yes rfl rfl rfl rfl) (Is4_call _ _ _ _ _ _ _) ?_
  refine Q_val (V_pick_t rfl rfl rfl) rfl rfl (.none rfl) ?_
  refine Q_end ?_
  refine X_then ?_
  refine G_cond_f rfl (by assumption) ?_
  refine G_skip (X_then (G_seq (G_region ?_)))
  refine Ga ?_
  refine G_end (X_then (G_ret ?_))
  refine G_leaveS (.keep _ (.nil _)) (by exact (.cons (.tmp rfl) (.nil))) rfl ?_ ?_
  · exact (.refl _)
  exact ⟨(by kernel_rfl), rfl⟩
theorem nameT_call (t : List UInt8) (p : Int) (hx : l[at']? = some ⟨1, t, p⟩) (hc : capB t = true) (ht : t.length ≤ 1000000) : CallS Tryz.prog 75 #[.pointer (some ⟨r, 0, none⟩), .bool true] E (RDB r txt lp ln lc at' alts k tp tn tc sep start rp rn rc :: L)
    (fun v E' L' => v = .string (S t) ∧ E = E' ∧ L' = RDB r txt lp ln lc (at' + 1) alts k tp tn tc sep start rp rn rc :: L) := by
  refine CallS.intro (l := [_, _]) _ Tryz.func75 rfl Tryz.ntmps75 rfl ?_
  refine G_seq (G_region ?_)
  refine Ga ?_
  refine G_end (X_then (G_seq (G_region ?_)))
  refine Gm ?_
  refine G_call (k := 70) (.mk rfl rfl rfl rfl) rfl rfl (.none rfl) (take8_call _ _ _ _ _ _ _ _ _ _ _ _ _ _ _ _ _ _ _ (by assumption) (by assumption) _ _ _ (by assumption)) ?_
  rintro r1 E2 L3 hE4 ⟨rfl, ⟨rfl, rfl⟩⟩
  replace hl := hl.mono hE4
  (refine G_alloc rfl rfl rfl (.none rfl) ?_; intro b5)
  refine G_storeA rfl rfl rfl rfl (by simp [Value.oneCell']) rfl (.none rfl) (.head _ _ _) rfl ?_
  refine G_end (X_then (G_seq (G_block (G_seq (G_region ?_)))))
  refine Gm ?_
  refine G_callv (k := 42) (.mk rfl rfl rfl rfl) rfl rfl (.none rfl) (ok8_call _ _ _ _ _ _ _ _ _ _ _ _ _ _ _ _ _ _ (by exact .tail _ (.head _))) ?_
  refine Gv (V_not rfl rfl) ?_
  refine Ga ?_
  refine G_end (X_then ?_)
  refine G_cond_f rfl (by kernel_rfl) ?_
  refine G_seq (G_region ?_)
  refine Gv (V_fieldAddr rfl rfl (by decide)) ?_
  refine Gv (V_load rfl rfl (Cell.own (.head _) rfl)) ?_
  refine Gv (V_neq rfl rfl rfl) ?_
  refine Ga ?_
  refine G_end (X_then ?_)
  refine G_cond_f rfl (by kernel_rfl) ?_
  refine G_seq (G_region ?_)
  refine Gm ?_
  refine Gm ?_
  refine Gy (V_fieldAddr rfl rfl (by decide)) ?_
  refine Gy (V_load rfl rfl (Cell.own (.head _) rfl)) ?_
  refine G_callv (k := 106) (.mk rfl rfl rfl rfl) rfl rfl (.yes rfl rfl rfl rfl) (CapitalR_call _ _ _ (by assumption)) ?_
  refine Gy (V_not rfl rfl) ?_
  refine Gv (V_pick_t rfl rfl rfl) ?_
  refine Gm ?_
  refine G.bool_f 28 rfl (by simp [*]; done) ?_
  refine Gy (V_move rfl rfl) ?_
  refine Gy (V_not rfl rfl) ?_
  refine Gy (V_move rfl rfl) ?_
  refine G.bool_f 31 rfl (by kernel_rfl) ?_
  refine Gn ?_
  refine Gn ?_
  refine Gn ?_
  refine Gn ?_
  refine Gy (V_pick_f rfl rfl rfl) ?_
  refine Gv (V_pick_f rfl rfl rfl) ?_
  refine Ga ?_
  refine G_end (X_then ?_)
  refine G_cond_f rfl rfl ?_
  refine G_skip (X_block (X_then (G_seq (G_region ?_))))
  refine Gv (V_fieldAddr rfl rfl (by decide)) ?_
  refine Gv (V_load rfl rfl (Cell.own (.head _) rfl)) ?_
  refine Ga ?_
  refine G_end (X_then (G_ret ?_))
  refine G_leaveS (.drop _ (.keep _ (.nil _))) (by exact (.cons (.tmp rfl) (.nil))) rfl ?_ ?_
  · exact (.refl _)
  exact ⟨rfl, ⟨rfl, rfl⟩⟩
theorem nameF_call (t : List UInt8) (p : Int) (hx : l[at']? = some ⟨1, t, p⟩) (hc : smallB t = true) (ht : t.length ≤ 1000000) : CallS Tryz.prog 75 #[.pointer (some ⟨r, 0, none⟩), .bool false] E (RDB r txt lp ln lc at' alts k tp tn tc sep start rp rn rc :: L)
    (fun v E' L' => v = .string (S t) ∧ E = E' ∧ L' = RDB r txt lp ln lc (at' + 1) alts k tp tn tc sep start rp rn rc :: L) := by
  refine CallS.intro (l := [_, _]) _ Tryz.func75 rfl Tryz.ntmps75 rfl ?_
  refine G_seq (G_region ?_)
  refine Ga ?_
  refine G_end (X_then (G_seq (G_region ?_)))
  refine Gm ?_
  refine G_call (k := 70) (.mk rfl rfl rfl rfl) rfl rfl (.none rfl) (take8_call _ _ _ _ _ _ _ _ _ _ _ _ _ _ _ _ _ _ _ (by assumption) (by assumption) _ _ _ (by assumption)) ?_
  rintro r1 E2 L3 hE4 ⟨rfl, ⟨rfl, rfl⟩⟩
  replace hl := hl.mono hE4
  (refine G_alloc rfl rfl rfl (.none rfl) ?_; intro b5)
  refine G_storeA rfl rfl rfl rfl (by simp [Value.oneCell']) rfl (.none rfl) (.head _ _ _) rfl ?_
  refine G_end (X_then (G_seq (G_block (G_seq (G_region ?_)))))
  refine Gm ?_
  refine G_callv (k := 42) (.mk rfl rfl rfl rfl) rfl rfl (.none rfl) (ok8_call _ _ _ _ _ _ _ _ _ _ _ _ _ _ _ _ _ _ (by exact .tail _ (.head _))) ?_
  refine Gv (V_not rfl rfl) ?_
  refine Ga ?_
  refine G_end (X_then ?_)
  refine G_cond_f rfl (by kernel_rfl) ?_
  refine G_seq (G_region ?_)
  refine Gv (V_fieldAddr rfl rfl (by decide)) ?_
  refine Gv (V_load rfl rfl (Cell.own (.head _) rfl)) ?_
  refine Gv (V_neq rfl rfl rfl) ?_
  refine Ga ?_
  refine G_end (X_then ?_)
  refine G_cond_f rfl (by kernel_rfl) ?_
  refine G_seq (G_region ?_)
  refine Gm ?_
  refine Gm ?_
  refine Gn ?_
  refine Gn ?_
  refine Gn ?_
  refine Gn ?_
  refine Gv (V_pick_f rfl rfl rfl) ?_
  refine Gm ?_
  refine Gy (V_move rfl rfl) ?_
  refine Gy (V_not rfl rfl) ?_
  refine Gy (V_move rfl rfl) ?_
  refine G.bool_t 31 rfl (by kernel_rfl) ?_
  refine Gy (V_fieldAddr rfl rfl (by decide)) ?_
  refine Gy (V_load rfl rfl (Cell.own (.head _) rfl)) ?_
  refine G_callv (k := 107) (.mk rfl rfl rfl rfl) rfl rfl (.yes rfl rfl rfl rfl) (SmallR_call _ _ _ (by assumption)) ?_
  refine Gy (V_not rfl rfl) ?_
  refine Gy (V_pick_t rfl rfl rfl) ?_
  refine Gv (V_pick_f rfl rfl rfl) ?_
  refine Ga ?_
  refine G_end (X_then ?_)
  refine G_cond_f rfl (by simp [*]; done) ?_
  refine G_skip (X_block (X_then (G_seq (G_region ?_))))
  refine Gv (V_fieldAddr rfl rfl (by decide)) ?_
  refine Gv (V_load rfl rfl (Cell.own (.head _) rfl)) ?_
  refine Ga ?_
  refine G_end (X_then (G_ret ?_))
  refine G_leaveS (.drop _ (.keep _ (.nil _))) (by exact (.cons (.tmp rfl) (.nil))) rfl ?_ ?_
  · exact (.refl _)
  exact ⟨rfl, ⟨rfl, rfl⟩⟩
end
end Go.Proofs.YtimiokmgnclggaaGreat
set_option linter.unusedSimpArgs false
set_option linter.unusedVariables false
set_option maxHeartbeats 2000000
set_option maxRecDepth 20000
namespace Go.Proofs.YtimiokmgnclggaaGreat
open Go.RowKit
/-! The reader of the reference: lists of names, alternatives. -/
/-- A list of names, where it lies. -/
abbrev AltRow := Option Addr × Nat × List (List UInt8)
def altC (l : List AltRow) : List Value := l.map fun x => .slice x.1 x.2.2.length x.2.1
theorem altC_get {l : List AltRow} {i : Nat} {x : AltRow} (h : l[i]? = some x) : (altC l)[i]? = some (.slice x.1 x.2.2.length x.2.1) := by simp [altC, h]
def AltsE (E : Env) (l : List AltRow) : Prop := ∀ x, x ∈ l → SlE E 1 x.1 x.2.2.length (strs x.2.2)
theorem AltsE.mono {E E' : Env} {l : List AltRow} (h : AltsE E l) (hE : E.Le E') : AltsE E' l := fun x hx => (h x hx).mono hE
/-- A rule: its name, its alternatives, where they lie. -/
abbrev RulRow := List UInt8 × Option Addr × Nat × List AltRow
def rulC (l : List RulRow) : List Value := l.flatMap fun x => [.string (S x.1), .slice x.2.1 x.2.2.2.length x.2.2.1]
theorem rulC_len (l : List RulRow) : (rulC l).length = l.length * 2 := by
  induction l with
  | nil => rfl
  | cons x l ih => simp only [rulC, List.flatMap_cons, List.length_append, List.length_cons, List.length_nil] at *; omega
theorem rulC_append (a b : List RulRow) : rulC (a ++ b) = rulC a ++ rulC b := List.flatMap_append
theorem rulC_drop (l : List RulRow) (k : Nat) : (rulC l).drop (k * 2) = rulC (l.drop k) := by
  induction l generalizing k with
  | nil => simp [rulC]
  | cons t l ih =>
    cases k with
    | zero => simp
    | succ k =>
      have e : (k + 1) * 2 = k * 2 + 1 + 1 := by omega
      rw [e]
      show (Value.string (S t.1) :: .slice t.2.1 t.2.2.2.length t.2.2.1 :: rulC l : List Value).drop (k * 2 + 1 + 1) = _
      simp only [List.drop_succ_cons, ih k]
theorem rulC_get {l : List RulRow} {k : Nat} {x : RulRow} (h : l[k]? = some x) : ((rulC l).drop (k * 2)).take 2 = [.string (S x.1), .slice x.2.1 x.2.2.2.length x.2.2.1] := by
  rw [rulC_drop, List.drop_eq_getElem_cons (List.getElem?_eq_some_iff.1 h).1]
  have := (List.getElem?_eq_some_iff.1 h).2
  rw [this]
  simp [rulC]
theorem rulC_name {l : List RulRow} {k : Nat} {x : RulRow} (h : l[k]? = some x) : (rulC l)[k * 2]? = some (.string (S x.1)) := by
  have h2 : (((rulC l).drop (k * 2)).take 2)[0]? = some (.string (S x.1)) := by rw [rulC_get h]; rfl
  simpa [List.getElem?_take, List.getElem?_drop] using h2
theorem rulC_alts {l : List RulRow} {k : Nat} {x : RulRow} (h : l[k]? = some x) : (rulC l)[k * 2 + 1]? = some (.slice x.2.1 x.2.2.2.length x.2.2.1) := by
  have h2 : (((rulC l).drop (k * 2)).take 2)[1]? = some (.slice x.2.1 x.2.2.2.length x.2.2.1) := by rw [rulC_get h]; rfl
  simpa [List.getElem?_take, List.getElem?_drop] using h2
def RulsE (E : Env) (l : List RulRow) : Prop := ∀ x, x ∈ l → SlE E 1 x.2.1 x.2.2.2.length (altC x.2.2.2) ∧ AltsE E x.2.2.2
theorem RulsE.mono {E E' : Env} {l : List RulRow} (h : RulsE E l) (hE : E.Le E') : RulsE E' l := fun x hx => ⟨(h x hx).1.mono hE, (h x hx).2.mono hE⟩
section
variable (E : Env) (L : List Res)
theorem has8_call (p : Option Addr) (n c : Nat) (l : List (List UInt8)) (hr : Rd E L 1 p n (strs l)) (hn : n ≤ 1000000) (t : List UInt8) : CallV Tryz.prog 76 #[.slice p n c, .string (S t)] E L (.bool (decide (t ∈ l))) := by
  have en : n = l.length := by have := hr.1; simp [strs] at this; omega
  subst en
  refine CallS.toV (CallS.intro (l := [_, _]) _ Tryz.func76 rfl Tryz.ntmps76 rfl ?_)
  refine G_seq (G_region ?_)
  refine Ga ?_
  refine G_end (X_then (G_seq (G_seq (G_region ?_))))
  refine Ga ?_
  refine G_end (X_then (G_block ?_))
  refine G_loop (α := Nat) (fun i => [(0, .slice p l.length c), (1, .string (S t)), (5, .int .i64 i)]) (fun _ => E) (fun _ => L) (fun i => i ≤ l.length ∧ ∀ k, k < i → (hk : k < l.length) → l[k] ≠ t) (fun i => l.length - i) 0 ⟨Nat.zero_le _, fun k h => by omega⟩ ⟨rfl, rfl, rfl, trivial⟩ rfl rfl ?_
  rintro i ⟨hi, hall⟩
  by_cases hlt : i < l.length
  · have hx := strs_get (List.getElem?_eq_getElem hlt)
    by_cases he : l[i] = t
    · rw [decide_eq_true (show t ∈ l by rw [← he]; exact List.getElem_mem hlt)]
      refine G_seq (G_seq (G_region ?_))
      refine Gm ?_
      refine Gm ?_
      refine Gv (V_lenS rfl rfl) ?_
      refine Gv (V_lss rfl rfl rfl) ?_
      refine G_end (X_then ?_)
      refine G_cond_t rfl (decide_eq_true (by omega)) ?_
      refine G_skip (X_then (G_seq (G_block (G_seq (G_region ?_)))))
      refine Gm ?_
      refine Gm ?_
      refine Gv (V_idxAddr rfl rfl rfl (by assumption) (by omega) (by omega)) ?_
      refine Gv (V_loadS rfl rfl (by assumption) (by assumption) (by simp)) ?_
      refine Gm ?_
      refine Gv (V_seql rfl rfl rfl) ?_
      refine G_end (X_then ?_)
      refine G_cond_t rfl (decide_eq_true (by omega)) ?_
      refine G_seq (G_region ?_)
      refine Ga ?_
      refine G_end (X_then (G_ret (X_block_ret (X_then_ret (X_then_ret (X_block_ret (X_then_ret ?_)))))))
      refine G_leaveS (.nil _) (by exact (.cons (.tmp rfl) (.nil))) rfl ?_ ?_
      · exact (.refl _)
      exact ⟨(by kernel_rfl), rfl⟩
    · refine G_seq ?_
      refine G_seq (G_region ?_)
      refine Gm ?_
      refine Gm ?_
      refine Gv (V_lenS rfl rfl) ?_
      refine Gv (V_lss rfl rfl rfl) ?_
      refine G_end (X_then ?_)
      refine G_cond_t rfl (decide_eq_true (by omega)) ?_
      refine G_skip (X_then (G_seq (G_block (G_seq (G_region ?_)))))
      refine Gm ?_
      refine Gm ?_
      refine Gv (V_idxAddr rfl rfl rfl (by assumption) (by omega) (by omega)) ?_
      refine Gv (V_loadS rfl rfl (by assumption) (by assumption) (by simp)) ?_
      refine Gm ?_
      refine Gv (V_seql rfl rfl rfl) ?_
      refine G_end (X_then ?_)
      refine G_cond_f rfl (decide_eq_false (by omega)) ?_
      refine G_skip (X_block (X_then (G_region ?_)))
      refine Gm ?_
      refine Gv (V_add_i64 rfl rfl rfl (by omega) (by omega)) ?_
      refine Ga ?_
      refine G_end (X_then ?_)
      refine G_again (i + 1) ⟨hlt, fun k hk hk2 => ?_⟩ (by omega) ⟨rfl, rfl, rfl, trivial⟩ rfl rfl
      by_cases e : k = i
      · subst e; exact he
      · exact hall k (by omega) hk2
  · rw [decide_eq_false (fun h => by
      obtain ⟨k, hk, e⟩ := List.getElem_of_mem h
      exact hall k (by omega) hk e)]
    refine G_seq (G_seq (G_region ?_))
    refine Gm ?_
    refine Gm ?_
    refine Gv (V_lenS rfl rfl) ?_
    refine Gv (V_lss rfl rfl rfl) ?_
    refine G_end (X_then ?_)
    refine G_cond_f rfl (decide_eq_false (by omega)) ?_
    refine G_exit (X_then_exit (X_then_exit (X_block_hit (X_then (G_seq (G_region ?_))))))
    refine Ga ?_
    refine G_end (X_then (G_ret ?_))
    refine G_leaveS (.nil _) (by exact (.cons (.tmp rfl) (.nil))) rfl ?_ ?_
    · exact (.refl _)
    exact ⟨(by kernel_rfl), rfl⟩
theorem has8S_call (p : Option Addr) (n c : Nat) (l : List (List UInt8)) (hr : SlE E 1 p n (strs l)) (hn : n ≤ 1000000) (t : List UInt8) : CallV Tryz.prog 76 #[.slice p n c, .string (S t)] E L (.bool (decide (t ∈ l))) := has8_call E L p n c l (SlE.rd hr) hn t
theorem has8O_call (T : TypeId) (p : Option Addr) (n c : Nat) (l : List (List UInt8)) (hm : .sl T 1 p n c (strs l) ∈ L) (en : n = l.length) (hn : n ≤ 1000000) (t : List UInt8) : CallV Tryz.prog 76 #[.slice p n c, .string (S t)] E L (.bool (decide (t ∈ l))) := has8_call E L p n c l (Rd.sl hm (by rw [en]; simp [strs])) hn t
theorem rulesO_call (k : Int) (tp : Option Addr) (tn tc : Nat) (sep start : List UInt8) (rp : Option Addr) (rn rc : Nat) (rs : List RulRow) (hm : .sl 101 2 rp rn rc (rulC rs) ∈ L) (hn : rn ≤ 1000000) (en : rn = rs.length) :
    CallS Tryz.prog 77 #[.agg #[.int .i64 k, .slice tp tn tc, .string (S sep), .string (S start), .slice rp rn rc]] E L (fun v E' L' => ∃ a c, v = .slice a rn c ∧ SlE E' 1 a rn (strs (rs.map (·.1))) ∧ L = L') := by
  subst en
  refine CallS.intro (l := [_]) _ Tryz.func77 rfl Tryz.ntmps77 rfl ?_
  refine G_seq (G_region ?_)
  (refine G_boxA rfl rfl rfl rfl (.none rfl) ?_; intro b1)
  refine Ga ?_
  refine G_end (X_then (G_seq (G_region ?_)))
  refine Ga ?_
  refine G_end (X_then (G_seq (G_seq (G_region ?_))))
  refine Ga ?_
  refine G_end (X_then (G_block ?_))
  refine G.nilSl 9 1 ?_
  refine G_loop (α := Nat × Option Addr × Nat) (fun x => [(1, .pointer (some ⟨b1, 0, none⟩)), (3, .slice x.2.1 x.1 x.2.2), (4, .int .i64 (x.1 : Nat))]) (fun _ => E)
    (fun x => .sl 9 1 x.2.1 x.1 x.2.2 (strs ((rs.take x.1).map (·.1))) :: .blk b1 (.cells #[.int .i64 k, .slice tp tn tc, .string (S sep), .string (S start), .slice rp rs.length rc] 60 (0, 0)) :: L)
    (fun x => x.1 ≤ rs.length) (fun x => rs.length - x.1) (0, none, 0) (Nat.zero_le _) ⟨rfl, rfl, rfl, trivial⟩ rfl rfl ?_
  rintro ⟨i, p, c⟩ hi
  simp only at hi ⊢
  by_cases hlt : i < rs.length
  · have hx := rulC_name (List.getElem?_eq_getElem hlt)
    have hm2 : Res.sl 101 2 rp rs.length rc (rulC rs) ∈ (.sl 9 1 p i c (strs ((rs.take i).map (·.1))) :: .blk b1 (.cells #[.int .i64 k, .slice tp tn tc, .string (S sep), .string (S start), .slice rp rs.length rc] 60 (0, 0)) :: L : List Res) := .tail _ (.tail _ hm)
    have hr2 : Rd E (.sl 9 1 p i c (strs ((rs.take i).map (·.1))) :: .blk b1 (.cells #[.int .i64 k, .slice tp tn tc, .string (S sep), .string (S start), .slice rp rs.length rc] 60 (0, 0)) :: L) 2 rp rs.length (rulC rs) := Rd.sl hm2 (rulC_len rs)
    have hap : strs ((rs.take i).map (·.1)) ++ [.string (S rs[i].1)] = strs ((rs.take (i + 1)).map (·.1)) := by
      rw [List.take_succ_eq_append_getElem hlt, List.map_append]
      simp only [strs, List.map_append, List.map_cons, List.map_nil]
    refine G_seq (G_seq (G_region ?_))
    refine Gm ?_
    refine Gv (V_fieldAddr rfl rfl (by decide)) ?_
    refine Gv (V_load rfl rfl (Cell.own (.tail _ (.head _)) rfl)) ?_
    refine Gv (V_lenS rfl rfl) ?_
    refine Gv (V_lss rfl rfl rfl) ?_
    refine G_end (X_then ?_)
    refine G_cond_t rfl (decide_eq_true (by omega)) ?_
    refine G_skip (X_then (G_seq (G_block (G_region ?_))))
    refine Gm ?_
    refine Gv (V_fieldAddr rfl rfl (by decide)) ?_
    refine Gv (V_load rfl rfl (Cell.own (.tail _ (.head _)) rfl)) ?_
    refine Gm ?_
    refine Gv (V_idxAddr rfl rfl rfl (by assumption) (by omega) (by omega)) ?_
    refine Gv (V_fieldAddrO rfl rfl hm2 (by omega) (by decide)) ?_
    refine Gv (V_loadS rfl rfl (by assumption) (by assumption) (by simp)) ?_
    (refine G_lit1 rfl rfl rfl rfl rfl (.none rfl) ?_; intro b19)
    (refine G_append rfl rfl rfl (Rd.lit (.head _) rfl) (by simp [Value.oneCell']) (by omega) (by omega) rfl rfl (.none rfl) (fun _ _ => (.tail _ (.head _ _ _))) ?_; intro a20 c20; refine G.rm (.head _ _) ?_)
    refine Ga ?_
    refine G_end (X_block (X_then (G_region ?_)))
    refine Gm ?_
    refine Gv (V_add_i64 rfl rfl rfl (by omega) (by omega)) ?_
    refine Ga ?_
    refine G_end (X_then ?_)
    rw [hap]
    exact G_again (i + 1, _, _) hlt (by simp only; omega) ⟨rfl, rfl, rfl, trivial⟩ rfl rfl
  · obtain rfl : i = rs.length := by omega
    rw [List.take_length]
    refine G.freezeSl (.head _ _) ?_
    intro E1 hE1 hs1 hc1
    refine G_seq (G_seq (G_region ?_))
    refine Gm ?_
    refine Gv (V_fieldAddr rfl rfl (by decide)) ?_
    refine Gv (V_load rfl rfl (Cell.own (.head _) rfl)) ?_
    refine Gv (V_lenS rfl rfl) ?_
    refine Gv (V_lss rfl rfl rfl) ?_
    refine G_end (X_then ?_)
    refine G_cond_f rfl (decide_eq_false (by omega)) ?_
    refine G_exit (X_then_exit (X_then_exit (X_block_hit (X_then (G_seq (G_region ?_))))))
    refine Gm ?_
    refine Ga ?_
    refine G_end (X_then (G_ret ?_))
    refine G_leaveS (.drop _ (.nil _)) (by exact (.cons (.tmp rfl) (.nil))) rfl ?_ ?_
    · exact hE1
    exact ⟨_, ⟨_, ⟨rfl, ⟨(by assumption), rfl⟩⟩⟩⟩
variable (r : Nat) (txt : List UInt8) (lp : Option Addr) (ln lc : Nat) (at' : Nat) (alts k : Int) (tp : Option Addr) (tn tc : Nat) (sep start : List UInt8) (rp : Option Addr) (rn rc : Nat)
variable (l : List Tok) (hl : SlE E 3 lp ln (toks l)) (hn : ln ≤ 1000000)
include hl hn
theorem alternative_call (ws : List Tok) (y : Tok) (hw : ∀ i, (h : i < ws.length) → l[at' + i]? = some ws[i] ∧ ws[i].sym = 1 ∧ (smallB ws[i].text = true ∨ capB ws[i].text = true) ∧ ws[i].text.length ≤ 1000) (hy : l[at' + ws.length]? = some y) (hy1 : y.sym ≠ 1) (h6 : ws.length ≤ 6) (ha : 0 ≤ alts) (ha2 : alts < 24) :
    CallS Tryz.prog 78 #[.pointer (some ⟨r, 0, none⟩)] E (RDB r txt lp ln lc at' alts k tp tn tc sep start rp rn rc :: L)
    (fun v E' L' => ∃ a c, v = .slice a ws.length c ∧ SlE E' 1 a ws.length (strs (ws.map Tok.text)) ∧ L' = RDB r txt lp ln lc (at' + ws.length) (alts + 1) k tp tn tc sep start rp rn rc :: L) := by
  refine CallS.intro (l := [_]) _ Tryz.func78 rfl Tryz.ntmps78 rfl ?_
  refine G_seq (G_region ?_)
  refine Ga ?_
  refine G_end (X_then (G_seq (G_seq (G_region ?_))))
  refine Gm ?_
  refine Gv (V_nilCheck rfl rfl) ?_
  refine Gv (V_fieldAddr rfl rfl (by decide)) ?_
  refine Gv (V_load rfl rfl (Cell.own (.head _) rfl)) ?_
  refine Gv (V_eql rfl rfl rfl) ?_
  refine G_end (X_then ?_)
  refine G_cond_f rfl (decide_eq_false (by omega)) ?_
  refine G_skip (X_then (G_seq (G_region ?_)))
  refine Gm ?_
  refine Gv (V_nilCheck rfl rfl) ?_
  refine Gv (V_fieldAddr rfl rfl (by decide)) ?_
  refine Gv (V_load rfl rfl (Cell.own (.head _) rfl)) ?_
  refine Gv (V_add_i64 rfl rfl rfl (by omega) (by omega)) ?_
  refine Gv (V_nilCheck rfl rfl) ?_
  refine Gv (V_fieldAddr rfl rfl (by decide)) ?_
  refine G_storeAt rfl rfl rfl rfl rfl rfl (.none rfl) (.head _ _ _) (Nat.le_of_ble_eq_true rfl) (by simp only [putAll, Nat.zero_add, Nat.reduceAdd, List.setIfInBounds_toArray, List.set_cons_succ, List.set_cons_zero]; rfl) ?_
  refine G_end (X_then (G_seq (G_region ?_)))
  refine Ga ?_
  refine G_end (X_then (G_seq (G_block ?_)))
  refine G.nilSl 9 1 ?_
  refine G_loop (α := Nat × Option Addr × Nat) (fun x => [(0, .pointer (some ⟨r, 0, none⟩)), (3, .slice x.2.1 x.1 x.2.2)]) (fun _ => E)
    (fun x => .sl 9 1 x.2.1 x.1 x.2.2 (strs ((ws.take x.1).map Tok.text)) :: RDB r txt lp ln lc (at' + x.1) (alts + 1) k tp tn tc sep start rp rn rc :: L)
    (fun x => x.1 ≤ ws.length) (fun x => ws.length - x.1) (0, none, 0) (Nat.zero_le _) ⟨rfl, rfl, trivial⟩ rfl rfl ?_
  rintro ⟨i, p, c⟩ hi
  simp only at hi ⊢
  by_cases hlt : i < ws.length
  · obtain ⟨w1, w2, w3, w4⟩ := hw i hlt
    obtain ⟨⟨ka, kt, kp⟩, hwi⟩ : ∃ t, ws[i] = t := ⟨_, rfl⟩
    rw [hwi] at w1 w2 w3 w4
    simp only at w2 w3 w4
    subst w2
    have hap : strs ((ws.take i).map Tok.text) ++ [.string (S kt)] = strs ((ws.take (i + 1)).map Tok.text) := by
      rw [List.take_succ_eq_append_getElem hlt, List.map_append, hwi]
      simp only [strs, List.map_append, List.map_cons, List.map_nil]
    cases hsm : smallB kt with
    | true =>
      refine G_seq (G_seq (G_region ?_))
      refine Gm ?_
      refine G_callv (k := 42) (.mk rfl rfl rfl rfl) rfl rfl (.none rfl) (ok8_call _ _ _ _ _ _ _ _ _ _ _ _ _ _ _ _ _ _ (by exact .tail _ (.head _))) ?_
      refine Gm ?_
      refine Gy (V_move rfl rfl) ?_
      refine G_callv (k := 74) (.mk rfl rfl rfl rfl) rfl rfl (.yes rfl rfl rfl rfl) (peek8_call _ _ _ _ _ _ _ _ _ _ _ _ _ _ _ _ _ _ _ (by assumption) (by assumption) (by exact .tail _ (.head _)) _ _ _ (by assumption)) ?_
      refine Gy (V_field rfl rfl rfl) ?_
      refine Gy (V_eql rfl rfl rfl) ?_
      refine Gv (V_pick_t rfl rfl rfl) ?_
      refine G_end (X_then ?_)
      refine G_cond_t rfl (by kernel_rfl) ?_
      refine G_skip (X_then (G_block (G_seq (G_region ?_))))
      refine Gm ?_
      refine G.front (.tail _ (.head _ _)) ?_
      refine G_call (k := 70) (.mk rfl rfl rfl rfl) rfl rfl (.none rfl) (take8_call _ _ _ _ _ _ _ _ _ _ _ _ _ _ _ _ _ _ _ (by assumption) (by assumption) _ _ _ (by assumption)) ?_
      rintro r1 E2 L3 hE4 ⟨rfl, ⟨rfl, rfl⟩⟩
      replace hl := hl.mono hE4
      (refine G_alloc rfl rfl rfl (.none rfl) ?_; intro b4)
      refine G_storeA rfl rfl rfl rfl (by simp [Value.oneCell']) rfl (.none rfl) (.head _ _ _) rfl ?_
      refine G_end (X_then (G_seq (G_seq (G_region ?_))))
      refine Gv (V_fieldAddr rfl rfl (by decide)) ?_
      refine Gv (V_load rfl rfl (Cell.own (.head _) rfl)) ?_
      refine G_callv (k := 107) (.mk rfl rfl rfl rfl) rfl rfl (.none rfl) (SmallR_call _ _ _ (by omega)) ?_
      refine Gv (V_not rfl rfl) ?_
      refine Gm ?_
      refine G.bool_f 45 rfl (by simp [*]; done) ?_
      refine Gn ?_
      refine Gn ?_
      refine Gn ?_
      refine Gn ?_
      refine Gv (V_pick_f rfl rfl rfl) ?_
      refine G_end (X_then ?_)
      refine G_cond_f rfl rfl ?_
      refine G_skip (X_then (G_seq (G_seq (G_region ?_))))
      refine Gm ?_
      refine Gv (V_lenS rfl rfl) ?_
      refine Gv (V_eql rfl rfl rfl) ?_
      refine G_end (X_then ?_)
      refine G_cond_f rfl (decide_eq_false (by omega)) ?_
      refine G_skip (X_then (G_region ?_))
      refine Gm ?_
      refine Gv (V_fieldAddr rfl rfl (by decide)) ?_
      refine Gv (V_load rfl rfl (Cell.own (.head _) rfl)) ?_
      (refine G_lit1 rfl rfl rfl rfl rfl (.none rfl) ?_; intro b65)
      (refine G_append rfl rfl rfl (Rd.lit (.head _) rfl) (by simp [Value.oneCell']) (by omega) (by omega) rfl rfl (.none rfl) (fun _ _ => (.tail _ (.tail _ (.tail _ (.head _ _ _))))) ?_; intro a66 c66; refine G.rm (.head _ _) ?_)
      refine Ga ?_
      refine G_end (X_block (X_then ?_))
      rw [hap]
      refine G.drop ?_
      refine G.front (.tail _ (.head _ _)) ?_
      exact G_again (i + 1, _, _) hlt (by simp only; omega) ⟨rfl, rfl, trivial⟩ rfl rfl
    | false =>
      have hcp : capB kt = true := by rcases w3 with h | h; rw [hsm] at h; cases h; exact h
      refine G_seq (G_seq (G_region ?_))
      refine Gm ?_
      refine G_callv (k := 42) (.mk rfl rfl rfl rfl) rfl rfl (.none rfl) (ok8_call _ _ _ _ _ _ _ _ _ _ _ _ _ _ _ _ _ _ (by exact .tail _ (.head _))) ?_
      refine Gm ?_
      refine Gy (V_move rfl rfl) ?_
      refine G_callv (k := 74) (.mk rfl rfl rfl rfl) rfl rfl (.yes rfl rfl rfl rfl) (peek8_call _ _ _ _ _ _ _ _ _ _ _ _ _ _ _ _ _ _ _ (by assumption) (by assumption) (by exact .tail _ (.head _)) _ _ _ (by assumption)) ?_
      refine Gy (V_field rfl rfl rfl) ?_
      refine Gy (V_eql rfl rfl rfl) ?_
      refine Gv (V_pick_t rfl rfl rfl) ?_
      refine G_end (X_then ?_)
      refine G_cond_t rfl (by kernel_rfl) ?_
      refine G_skip (X_then (G_block (G_seq (G_region ?_))))
      refine Gm ?_
      refine G.front (.tail _ (.head _ _)) ?_
      refine G_call (k := 70) (.mk rfl rfl rfl rfl) rfl rfl (.none rfl) (take8_call _ _ _ _ _ _ _ _ _ _ _ _ _ _ _ _ _ _ _ (by assumption) (by assumption) _ _ _ (by assumption)) ?_
      rintro r1 E2 L3 hE4 ⟨rfl, ⟨rfl, rfl⟩⟩
      replace hl := hl.mono hE4
      (refine G_alloc rfl rfl rfl (.none rfl) ?_; intro b4)
      refine G_storeA rfl rfl rfl rfl (by simp [Value.oneCell']) rfl (.none rfl) (.head _ _ _) rfl ?_
      refine G_end (X_then (G_seq (G_seq (G_region ?_))))
      refine Gv (V_fieldAddr rfl rfl (by decide)) ?_
      refine Gv (V_load rfl rfl (Cell.own (.head _) rfl)) ?_
      refine G_callv (k := 107) (.mk rfl rfl rfl rfl) rfl rfl (.none rfl) (SmallR_call _ _ _ (by omega)) ?_
      refine Gv (V_not rfl rfl) ?_
      refine Gm ?_
      refine G.bool_t 45 rfl (by simp [*]; done) ?_
      refine Gy (V_fieldAddr rfl rfl (by decide)) ?_
      refine Gy (V_load rfl rfl (Cell.own (.head _) rfl)) ?_
      refine G_callv (k := 106) (.mk rfl rfl rfl rfl) rfl rfl (.yes rfl rfl rfl rfl) (CapitalR_call _ _ _ (by omega)) ?_
      refine Gy (V_not rfl rfl) ?_
      refine Gv (V_pick_t rfl rfl rfl) ?_
      refine G_end (X_then ?_)
      refine G_cond_f rfl (by simp [*]; done) ?_
      refine G_skip (X_then (G_seq (G_seq (G_region ?_))))
      refine Gm ?_
      refine Gv (V_lenS rfl rfl) ?_
      refine Gv (V_eql rfl rfl rfl) ?_
      refine G_end (X_then ?_)
      refine G_cond_f rfl (decide_eq_false (by omega)) ?_
      refine G_skip (X_then (G_region ?_))
      refine Gm ?_
      refine Gv (V_fieldAddr rfl rfl (by decide)) ?_
      refine Gv (V_load rfl rfl (Cell.own (.head _) rfl)) ?_
      (refine G_lit1 rfl rfl rfl rfl rfl (.none rfl) ?_; intro b65)
      (refine G_append rfl rfl rfl (Rd.lit (.head _) rfl) (by simp [Value.oneCell']) (by omega) (by omega) rfl rfl (.none rfl) (fun _ _ => (.tail _ (.tail _ (.tail _ (.head _ _ _))))) ?_; intro a66 c66; refine G.rm (.head _ _) ?_)
      refine Ga ?_
      refine G_end (X_block (X_then ?_))
      rw [hap]
      refine G.drop ?_
      refine G.front (.tail _ (.head _ _)) ?_
      exact G_again (i + 1, _, _) hlt (by simp only; omega) ⟨rfl, rfl, trivial⟩ rfl rfl
  · obtain rfl : i = ws.length := by omega
    rw [List.take_length]
    obtain ⟨ya, yt, yp⟩ := y
    simp only at hy1
    refine G.freezeSl (.head _ _) ?_
    intro E1 hE1 hs1 hc1
    replace hl := hl.mono hE1
    refine G_seq (G_seq (G_region ?_))
    refine Gm ?_
    refine G_callv (k := 42) (.mk rfl rfl rfl rfl) rfl rfl (.none rfl) (ok8_call _ _ _ _ _ _ _ _ _ _ _ _ _ _ _ _ _ _ (by exact .head _)) ?_
    refine Gm ?_
    refine Gy (V_move rfl rfl) ?_
    refine G_callv (k := 74) (.mk rfl rfl rfl rfl) rfl rfl (.yes rfl rfl rfl rfl) (peek8_call _ _ _ _ _ _ _ _ _ _ _ _ _ _ _ _ _ _ _ (by assumption) (by assumption) (by exact .head _) _ _ _ (by assumption)) ?_
    refine Gy (V_field rfl rfl rfl) ?_
    refine Gy (V_eql rfl rfl rfl) ?_
    refine Gv (V_pick_t rfl rfl rfl) ?_
    refine G_end (X_then ?_)
    refine G_cond_f rfl (decide_eq_false (by omega)) ?_
    refine G_exit (X_then_exit (X_then_exit (X_block_hit (X_then (G_seq (G_region ?_))))))
    refine Gm ?_
    refine Ga ?_
    refine G_end (X_then (G_ret ?_))
    refine G_leaveS (.keep _ (.nil _)) (by exact (.cons (.tmp rfl) (.nil))) rfl ?_ ?_
    · exact hE1
    exact ⟨_, ⟨_, ⟨rfl, ⟨(by assumption), rfl⟩⟩⟩⟩
end
end Go.Proofs.YtimiokmgnclggaaGreat
set_option linter.unusedSimpArgs false
set_option linter.unusedVariables false
set_option maxHeartbeats 2000000
set_option maxRecDepth 20000
namespace Go.Proofs.YtimiokmgnclggaaGreat
open Go.RowKit
/-! The reader of the reference: rules. -/
def wdB (t : Tok) : Bool := decide (t.sym = 1)
/-- The words that stand at a place. -/
def wsF (l : List Tok) (at' : Nat) : List Tok := (l.drop at').takeWhile wdB
def okW (ws : List Tok) : Bool := decide (ws.length ≤ 6) && ws.all fun t => (smallB t.text || capB t.text) && decide (t.text.length ≤ 1000)
theorem wsF_at {l : List Tok} {at' i : Nat} (h : i < (wsF l at').length) : l[at' + i]? = some (wsF l at')[i] ∧ (wsF l at')[i].sym = 1 := by
  have hp : wsF l at' <+: l.drop at' := List.takeWhile_prefix _
  have h1 := hp.getElem h
  have hlen := hp.length_le
  refine ⟨?_, ?_⟩
  · rw [h1, List.getElem_drop]
    exact List.getElem?_eq_getElem _
  · have hall := List.all_takeWhile (p := wdB) (l := l.drop at')
    have := List.all_eq_true.1 hall _ (List.getElem_mem (l := wsF l at') h)
    simpa [wdB] using this
def altsF : Nat → List Tok → Nat → Option (List (List (List UInt8)) × Nat)
  | 0, _, _ => none
  | f + 1, l, at' =>
    if okW (wsF l at') = true then
      match l[at' + (wsF l at').length]? with
      | none => none
      | some y =>
        if y.sym = 1 then none
        else if y.sym = 3 ∧ y.text = [124] then (altsF f l (at' + (wsF l at').length + 1)).map fun r => ((wsF l at').map Tok.text :: r.1, r.2)
        else some ([(wsF l at').map Tok.text], at' + (wsF l at').length)
    else none
theorem altsF_step {f : Nat} {l : List Tok} {at' : Nat} {als : List (List (List UInt8))} {e : Nat} (h : altsF (f + 1) l at' = some (als, e)) :
    okW (wsF l at') = true ∧ ∃ y, l[at' + (wsF l at').length]? = some y ∧ y.sym ≠ 1 ∧
      ((y.sym = 3 ∧ y.text = [124] ∧ ∃ als', als = (wsF l at').map Tok.text :: als' ∧ altsF f l (at' + (wsF l at').length + 1) = some (als', e)) ∨
       (¬ (y.sym = 3 ∧ y.text = [124]) ∧ als = [(wsF l at').map Tok.text] ∧ e = at' + (wsF l at').length)) := by
  simp only [altsF] at h
  split at h
  · rename_i h1
    refine ⟨h1, ?_⟩
    split at h
    · cases h
    · rename_i y hy
      refine ⟨y, hy, ?_⟩
      split at h
      · cases h
      · rename_i h2
        refine ⟨h2, ?_⟩
        split at h
        · rename_i h3
          obtain ⟨⟨als', e'⟩, h4, h5⟩ := Option.map_eq_some_iff.1 h
          cases h5
          exact .inl ⟨h3.1, h3.2, als', rfl, h4⟩
        · rename_i h3
          cases h
          exact .inr ⟨h3, rfl, rfl⟩
  · cases h
section
variable (E : Env) (L : List Res) (r : Nat) (txt : List UInt8) (lp : Option Addr) (ln lc : Nat) (at' : Nat) (alts k : Int) (tp : Option Addr) (tn tc : Nat) (sep start : List UInt8) (rp : Option Addr) (rn rc : Nat)
variable (l : List Tok) (hl : SlE E 3 lp ln (toks l)) (hn : ln ≤ 1000000)
include hl hn
theorem alternativeF_call (h : okW (wsF l at') = true) (y : Tok) (hy : l[at' + (wsF l at').length]? = some y) (hy1 : y.sym ≠ 1) (ha : 0 ≤ alts) (ha2 : alts < 24) :
    CallS Tryz.prog 78 #[.pointer (some ⟨r, 0, none⟩)] E (RDB r txt lp ln lc at' alts k tp tn tc sep start rp rn rc :: L)
    (fun v E' L' => ∃ a c, v = .slice a (wsF l at').length c ∧ SlE E' 1 a (wsF l at').length (strs ((wsF l at').map Tok.text)) ∧ L' = RDB r txt lp ln lc (at' + (wsF l at').length) (alts + 1) k tp tn tc sep start rp rn rc :: L) := by
  simp only [okW, Bool.and_eq_true, decide_eq_true_eq, List.all_eq_true, Bool.or_eq_true] at h
  refine alternative_call E L r txt lp ln lc at' alts k tp tn tc sep start rp rn rc l hl hn (wsF l at') y (fun i hi => ?_) hy hy1 h.1 ha ha2
  obtain ⟨w1, w2⟩ := wsF_at hi
  have w3 := h.2 _ (List.getElem_mem hi)
  exact ⟨w1, w2, w3.1, w3.2⟩
theorem rule8_call (rs : List RulRow) (ern : rn = rs.length) (nm : List UInt8) (p0 p1 p2 : Int) (h1 : l[at']? = some ⟨1, nm, p0⟩) (hc : capB nm = true) (hnm : nm.length ≤ 1000) (hnew : nm ∉ rs.map (·.1)) (h8 : rn < 8) (h2 : l[at' + 1]? = some ⟨3, [61], p1⟩)
    (f : Nat) (als : List (List (List UInt8))) (e : Nat) (hf : altsF f l (at' + 2) = some (als, e)) (h3 : l[e]? = some ⟨3, [59], p2⟩) (ha : 0 ≤ alts) (ha2 : alts + als.length ≤ 24) :
    CallS Tryz.prog 43 #[.pointer (some ⟨r, 0, none⟩)] E (RDB r txt lp ln lc at' alts k tp tn tc sep start rp rn rc :: .sl 101 2 rp rn rc (rulC rs) :: L)
    (fun v E' L' => ∃ a c ars rp' rc', v = .tuple #[] ∧ SlE E' 1 a als.length (altC ars) ∧ ars.map (·.2.2) = als ∧ AltsE E' ars ∧
      L' = RDB r txt lp ln lc (e + 1) (alts + als.length) k tp tn tc sep start rp' (rn + 1) rc' :: .sl 101 2 rp' (rn + 1) rc' (rulC rs ++ [.string (S nm), .slice a als.length c]) :: L) := by
  have hnew2 : decide (nm ∈ rs.map (·.1)) = false := decide_eq_false hnew
  refine CallS.intro (l := [_]) _ Tryz.func43 rfl Tryz.ntmps43 rfl ?_
  refine G_seq (G_region ?_)
  refine Gm ?_
  refine G_callv (k := 74) (.mk rfl rfl rfl rfl) rfl rfl (.none rfl) (peek8_call _ _ _ _ _ _ _ _ _ _ _ _ _ _ _ _ _ _ _ (by assumption) (by assumption) (by exact .head _) _ _ _ (by assumption)) ?_
  refine Gv (V_field rfl rfl rfl) ?_
  refine Ga ?_
  refine G_end (X_then (G_seq (G_region ?_)))
  refine Gm ?_
  refine G_call (k := 75) (.mk rfl rfl rfl rfl) rfl rfl (.none rfl) (nameT_call _ _ _ _ _ _ _ _ _ _ _ _ _ _ _ _ _ _ _ (by assumption) (by assumption) _ _ (by assumption) (by assumption) (by omega)) ?_
  rintro r1 E2 L3 hE4 ⟨rfl, ⟨rfl, rfl⟩⟩
  replace hl := hl.mono hE4
  refine Ga ?_
  refine G_end (X_then (G_seq (G_seq (G_region ?_))))
  refine Gm ?_
  refine G_callv (k := 42) (.mk rfl rfl rfl rfl) rfl rfl (.none rfl) (ok8_call _ _ _ _ _ _ _ _ _ _ _ _ _ _ _ _ _ _ (by exact .head _)) ?_
  refine Gm ?_
  refine Gy (V_move rfl rfl) ?_
  refine Gy (V_nilCheck rfl rfl) ?_
  refine Gy (V_fieldAddr rfl rfl (by decide)) ?_
  refine Gy (V_loadF rfl rfl (.head _) (by simp only [Nat.zero_add, List.drop_succ_cons, List.drop_zero, List.take_succ_cons, List.take_zero]; rfl) (by rfl)) ?_
  refine G_call (k := 77) (.mk rfl rfl rfl rfl) rfl rfl (.yes rfl rfl rfl rfl) (rulesO_call _ _ _ _ _ _ _ _ _ _ _ _ (by exact .tail _ (.head _)) (by omega) (by assumption)) ?_
  rintro r5 E6 L7 hE8 ⟨z9, ⟨z10, ⟨rfl, ⟨Z11, rfl⟩⟩⟩⟩
  replace hl := hl.mono hE8
  refine Gy (V_move rfl rfl) ?_
  refine G_callv (k := 76) (.mk rfl rfl rfl rfl) rfl rfl (.yes rfl rfl rfl rfl) (has8S_call _ _ _ _ _ _ (by assumption) (by omega) _) ?_
  refine Gv (V_pick_t rfl rfl rfl) ?_
  refine G_end (X_then ?_)
  refine G_cond_f rfl (decide_eq_false (by omega)) ?_
  refine G_skip (X_then (G_seq (G_seq (G_region ?_))))
  refine Gm ?_
  refine Gv (V_nilCheck rfl rfl) ?_
  refine Gv (V_fieldAddr rfl rfl (by decide)) ?_
  refine Gv (V_fieldAddr rfl rfl (by decide)) ?_
  refine Gv (V_load rfl rfl (Cell.own (.head _) rfl)) ?_
  refine Gv (V_lenS rfl rfl) ?_
  refine Gv (V_eql rfl rfl rfl) ?_
  refine G_end (X_then ?_)
  refine G_cond_f rfl (decide_eq_false (by omega)) ?_
  refine G_skip (X_then (G_seq (G_region ?_)))
  refine Gm ?_
  refine Gv (V_build rfl rfl (by simp [fillV, setLs, setL, Value.cells]; rfl)) ?_
  (refine G_alloc rfl rfl rfl (.none rfl) ?_; intro b4)
  refine G_storeA rfl rfl rfl rfl (by simp [Value.oneCell']) rfl (.none rfl) (.head _ _ _) rfl ?_
  refine G_end (X_then (G_seq (G_region ?_)))
  refine Gm ?_
  refine G.front (.tail _ (.head _ _)) ?_
  refine G_call (k := 69) (.mk rfl rfl rfl rfl) rfl rfl (.none rfl) (must8_call _ _ _ _ _ _ _ _ _ _ _ _ _ _ _ _ _ _ _ (by assumption) (by assumption) _ _ _ (by assumption)) ?_
  rintro r12 E13 L14 hE15 ⟨rfl, ⟨rfl, rfl⟩⟩
  replace Z11 := Z11.mono hE15
  replace hl := hl.mono hE15
  refine G_end (X_then (G_seq (G_seq (G_region ?_))))
  refine Gm ?_
  refine G_callv (k := 42) (.mk rfl rfl rfl rfl) rfl rfl (.none rfl) (ok8_call _ _ _ _ _ _ _ _ _ _ _ _ _ _ _ _ _ _ (by exact .head _)) ?_
  refine Ga ?_
  refine G_end (X_then (G_block ?_))
  refine G.nilSl 23 1 ?_
  refine G.front (.tail _ (.head _ _)) ?_
  refine G_loop (α := (Nat × Nat) × List AltRow × Env × Option Addr × Nat × Bool) (fun x => [(0, .pointer (some ⟨r, 0, none⟩)), (4, .pointer (some ⟨b4, 0, none⟩)), (5, .bool x.2.2.2.2.2)]) (fun x => x.2.2.1)
    (fun x => RDB r txt lp ln lc x.1.2 (alts + x.2.1.length) k tp tn tc sep start rp rn rc :: .sl 23 1 x.2.2.2.1 x.2.1.length x.2.2.2.2.1 (altC x.2.1) :: .blk b4 (.cells #[.string (S nm), .slice x.2.2.2.1 x.2.1.length x.2.2.2.2.1] 101 (0, 0)) :: .sl 101 2 rp rn rc (rulC rs) :: L)
    (fun x => E6.Le x.2.2.1 ∧ AltsE x.2.2.1 x.2.1 ∧ ((x.2.2.2.2.2 = true ∧ ∃ rest, als = x.2.1.map (·.2.2) ++ rest ∧ altsF x.1.1 l x.1.2 = some (rest, e)) ∨ (x.2.2.2.2.2 = false ∧ als = x.2.1.map (·.2.2) ∧ x.1.2 = e))) (fun x => 2 * x.1.1 + x.2.2.2.2.2.toNat)
    ((f, at' + 2), [], E6, none, 0, true) ⟨.refl _, (fun x hx => by cases hx), .inl ⟨rfl, als, rfl, hf⟩⟩ ⟨rfl, rfl, rfl, trivial⟩ rfl (by simp [altC]) ?_
  rintro ⟨⟨q, pos⟩, ars, E0, p, c, again⟩ ⟨hE, hars, hcase⟩
  simp only at hE hars hcase ⊢
  replace hl := hl.mono hE
  rcases hcase with ⟨rfl, rest, hals, hq⟩ | ⟨rfl, hals, rfl⟩
  · cases q with
    | zero => simp [altsF] at hq
    | succ q =>
      obtain ⟨w1, ⟨ys, yt, yp⟩, w2, w3, w4⟩ := altsF_step hq
      simp only at w3 w4
      have hcnt : (alts + ars.length : Int) < 24 := by
        have hl1 := congrArg List.length hals
        simp only [List.length_append, List.length_map] at hl1
        rcases w4 with ⟨_, _, als', h5, _⟩ | ⟨_, h5, _⟩
        · rw [h5] at hl1; simp only [List.length_cons] at hl1; omega
        · rw [h5] at hl1; simp only [List.length_cons] at hl1; omega
      refine G_seq (G_seq (G_region ?_))
      refine Gm ?_
      refine G_end (X_then ?_)
      refine G_cond_t rfl rfl ?_
      refine G_skip (X_then (G_seq (G_block ?_)))
      refine G_drawX 8 [(0, 0), (1, 1), (2, 0), (3, 4), (4, 2), (5, 4), (6, 0), (7, 4)] mixed (by kernel_rfl) ?_
      refine F_pure rfl (fun _ _ => V_fieldAddr rfl rfl (by decide)) rfl rfl (.none rfl) ?_
      refine F_load rfl (.tail _ (.tail _ (.head _))) (V_load rfl rfl (Cell.own (.head _) rfl)) rfl rfl (.none rfl) ?_
      refine F_pure rfl (fun _ _ => V_move rfl rfl) rfl rfl (.none rfl) ?_
      apply F_callT (k := 78) rfl (.mk rfl rfl rfl rfl) rfl rfl (.none rfl) (.head _ _)
      · (intro L0; refine CallS.mono (alternativeF_call _ _ _ _ _ _ _ _ _ _ _ _ _ _ _ _ _ _ _ (by assumption) (by assumption) (by assumption) _ (by assumption) (by assumption) (by omega) (by assumption)) ?_; exact fun _ _ _ _ h => h)
      · (rintro L0 r E' L' ⟨z1, ⟨z2, ⟨rfl, ⟨Z3, rfl⟩⟩⟩⟩; exact ⟨_, rfl, ⟨_, ⟨_, ⟨rfl, ⟨(by assumption), rfl⟩⟩⟩⟩⟩)
      rintro r4 E5 L6 hE7 ⟨z8, ⟨z11, ⟨rfl, ⟨Z12, rfl⟩⟩⟩⟩
      refine ⟨_, (.cons (by assumption) (by simp) (.nil)), ?_⟩
      replace hars := hars.mono hE7
      replace hl := hl.mono hE7
      (refine F_litZ rfl rfl rfl (by decide) (by simp [fillS, zeros, setLs, setL, Value.cells, List.range, List.range.loop]; rfl) (by rfl) rfl rfl (.none rfl) ?_; intro b48 E48 hE48 hs48)
      replace Z12 := Z12.mono hE48
      replace hars := hars.mono hE48
      replace hl := hl.mono hE48
      (refine F_appendT rfl rfl rfl rfl (by assumption) (by simp [Value.oneCell', strs, i64s]) (by omega) (by omega) rfl rfl (.none rfl) (fun _ _ => (.tail _ (.head _ _ _))) ?_; intro a49 c49; refine ⟨_, (.drop (by kernel_rfl) (.nil)), ?_⟩)
      refine F_pure rfl (fun _ _ => V_fieldAddr rfl rfl (by decide)) rfl rfl (.none rfl) ?_
      refine F_storeAt rfl rfl rfl rfl rfl rfl rfl (.none rfl) (.tail _ (.tail _ (.head _ _ _))) (Nat.le_of_ble_eq_true rfl) (by simp only [putAll, Nat.zero_add, Nat.reduceAdd, List.setIfInBounds_toArray, List.set_cons_succ, List.set_cons_zero]; rfl) (.nil) ?_
      (refine F_end (.nil _) ?_; dsimp only [List.drop])
      refine G_end (X_block (X_then (G_region ?_)))
      refine Gm ?_
      have hap : altC ars ++ [.slice z8 (wsF l pos).length z11] = altC (ars ++ [(z8, z11, (wsF l pos).map Tok.text)]) := by simp [altC]
      have hll : (ars ++ [((z8, z11, (wsF l pos).map Tok.text) : AltRow)]).length = ars.length + 1 := by simp
      have hars' : AltsE E48 (ars ++ [(z8, z11, (wsF l pos).map Tok.text)]) := fun x hx => by
        rcases List.mem_append.1 hx with h | h
        · exact hars x h
        · rw [List.mem_singleton.1 h]; simpa using Z12
      rw [hap]
      rcases w4 with ⟨rfl, rfl, als', h5, h6⟩ | ⟨h4, h5, h6⟩
      · refine G_call (k := 73) (.mk rfl rfl rfl rfl) rfl rfl (.none rfl) (nextT_call _ _ _ _ _ _ _ _ _ _ _ _ _ _ _ _ _ _ _ (by assumption) (by assumption) _ _ (by assumption)) ?_
        rintro r1 E2 L3 hE5 ⟨rfl, ⟨rfl, rfl⟩⟩
        replace hs48 := hs48.mono hE5
        replace Z12 := Z12.mono hE5
        replace hars := hars.mono hE5
        replace hl := hl.mono hE5
        replace hars' := hars'.mono hE5
        refine Ga ?_
        refine G_end (X_then ?_)
        exact G_again ((q, pos + (wsF l pos).length + 1), ars ++ [(z8, z11, (wsF l pos).map Tok.text)], E48, a49, c49, true)
          ⟨(hE.trans hE7).trans hE48, hars', .inl ⟨rfl, als', by rw [hals, h5]; simp, h6⟩⟩ (by simp only [Bool.toNat_true]; omega) ⟨rfl, rfl, rfl, trivial⟩ rfl (by simp only [hll]; rw [show alts + ((ars.length + 1 : Nat) : Int) = alts + (ars.length : Int) + 1 by omega])
      · refine G_callv (k := 73) (.mk rfl rfl rfl rfl) rfl rfl (.none rfl) (nextF_call _ _ _ _ _ _ _ _ _ _ _ _ _ _ _ _ _ _ _ (by assumption) (by assumption) _ _ _ _ (by assumption) (by assumption)) ?_
        refine Ga ?_
        refine G_end (X_then ?_)
        exact G_again ((q, pos + (wsF l pos).length), ars ++ [(z8, z11, (wsF l pos).map Tok.text)], E48, a49, c49, false)
          ⟨(hE.trans hE7).trans hE48, hars', .inr ⟨rfl, by rw [hals, h5]; simp, h6.symm⟩⟩ (by simp only [Bool.toNat_true, Bool.toNat_false]; omega) ⟨rfl, rfl, rfl, trivial⟩ rfl (by simp only [hll]; rw [show alts + ((ars.length + 1 : Nat) : Int) = alts + (ars.length : Int) + 1 by omega])
  · subst hals
    rw [List.length_map]
    refine G.freezeSl (.tail _ (.head _ _)) ?_
    intro E9 hE9 hs9 hc9
    replace hl := hl.mono hE9
    replace hars := hars.mono hE9
    refine G_seq (G_seq (G_region ?_))
    refine Gm ?_
    refine G_end (X_then ?_)
    refine G_cond_f rfl rfl ?_
    refine G_exit (X_then_exit (X_then_exit (X_block_hit (X_then (G_seq (G_region ?_))))))
    refine Gm ?_
    refine G_call (k := 69) (.mk rfl rfl rfl rfl) rfl rfl (.none rfl) (must8_call E9 _ r txt lp ln lc pos (alts + ars.length) k tp tn tc sep start rp rn rc l hl hn 3 [59] p2 h3) ?_
    rintro r1 E1 L1 hE1 ⟨rfl, rfl, rfl⟩
    refine G.front (.tail _ (.head _ _)) ?_
    refine G_end (X_then ?_)
    refine G_drawX 13 [(0, 0), (1, 0), (2, 0), (3, 0), (4, 0), (5, 1), (6, 1), (7, 2), (8, 4), (9, 0), (10, 0), (11, 0), (12, 4)] mixed (by kernel_rfl) ?_
    refine F_pure rfl (fun _ _ => V_move rfl rfl) rfl rfl (.none rfl) ?_
    refine F_pure rfl (fun _ _ => V_move rfl rfl) rfl rfl (.none rfl) ?_
    refine F_pure rfl (fun _ _ => V_nilCheck rfl rfl) rfl rfl (.none rfl) ?_
    refine F_pure rfl (fun _ _ => V_fieldAddr rfl rfl (by decide)) rfl rfl (.none rfl) ?_
    refine F_pure rfl (fun _ _ => V_fieldAddr rfl rfl (by decide)) rfl rfl (.none rfl) ?_
    refine F_load rfl (.tail _ (.head _)) (V_load rfl rfl (Cell.own (.head _) rfl)) rfl rfl (.none rfl) ?_
    refine F_load rfl (.head _) (V_loadA rfl rfl (Cells.own (.head _)) rfl) rfl rfl (.none rfl) ?_
    (refine F_litZ rfl rfl rfl (by decide) (by simp [fillS, zeros, setLs, setL, Value.cells, List.range, List.range.loop]; rfl) (by rfl) rfl rfl (.none rfl) ?_; intro b60 E60 hE60 hs60)
    replace hs9 := hs9.mono hE60
    replace hl := hl.mono hE60
    replace hars := hars.mono hE60
    (refine F_appendT rfl rfl rfl rfl (by assumption) (by simp [Value.oneCell', strs, i64s]) (by omega) (by omega) rfl rfl (.none rfl) (fun _ _ => (.tail _ (.tail _ (.head _ _ _)))) ?_; intro a61 c61; refine ⟨_, (.drop (by kernel_rfl) (.drop (by kernel_rfl) (.nil))), ?_⟩)
    refine F_pure rfl (fun _ _ => V_nilCheck rfl rfl) rfl rfl (.none rfl) ?_
    refine F_pure rfl (fun _ _ => V_fieldAddr rfl rfl (by decide)) rfl rfl (.none rfl) ?_
    refine F_pure rfl (fun _ _ => V_fieldAddr rfl rfl (by decide)) rfl rfl (.none rfl) ?_
    refine F_storeAt rfl rfl rfl rfl rfl rfl rfl (.none rfl) (.tail _ (.head _ _ _)) (Nat.le_of_ble_eq_true rfl) (by simp only [putAll, Nat.zero_add, Nat.reduceAdd, List.setIfInBounds_toArray, List.set_cons_succ, List.set_cons_zero]; rfl) (.nil) ?_
    (refine F_end (.nil _) ?_; dsimp only [List.drop])
    refine G_end ?_
    refine G_leaveS_n (.drop _ (.keep _ (.keep _ (.nil _)))) (by exact (.nil)) rfl ?_ ?_
    · exact (((hE8.trans hE).trans hE9).trans hE60)
    exact ⟨_, ⟨_, ⟨_, ⟨_, ⟨_, ⟨(by kernel_rfl), ⟨(by assumption), ⟨rfl, ⟨(by assumption), rfl⟩⟩⟩⟩⟩⟩⟩⟩⟩
end
end Go.Proofs.YtimiokmgnclggaaGreat
set_option linter.unusedSimpArgs false
set_option linter.unusedVariables false
set_option maxHeartbeats 2000000
set_option maxRecDepth 20000
namespace Go.Proofs.YtimiokmgnclggaaGreat
open Go.RowKit
/-! The reader of the reference: what stands before the rules. -/
section
variable (E : Env) (L : List Res)
theorem Check4_call (d : UInt8) (p : Int) (h1 : 49 ≤ d.toNat) (h2 : d.toNat ≤ 52) (hp : 0 ≤ p) : CallV Tryz.prog 105 #[.agg #[.int .i64 2, .string (S [d]), .int .i64 p]] E L (.int .i64 0) := by
  have hb : begL [d] = (2, [d]) := by
    simp only [begL]
    rw [if_neg, if_neg, if_pos, if_neg]
    · rfl
    · simp [wl, badNx]
    · simp [isDig]; omega
    · simp [isLet]; omega
    · simp [isSg]; omega
  have hc := fun L0 => begL_call E L0 [d] 2 [d] hb (by decide) (by simp)
  refine CallS.toV (CallS.intro (l := [_]) _ Tryz.func105 rfl Tryz.ntmps105 rfl ?_)
  refine G_seq (G_region ?_)
  (refine G_boxA rfl rfl rfl rfl (.none rfl) ?_; intro b1)
  refine Ga ?_
  refine G_end (X_then (G_seq (G_seq (G_region ?_))))
  refine Gv (V_fieldAddr rfl rfl (by decide)) ?_
  refine Gv (V_load rfl rfl (Cell.own (.head _) rfl)) ?_
  refine Gv (V_lss rfl rfl rfl) ?_
  refine Gm ?_
  refine G.bool_f 7 rfl (by kernel_rfl) ?_
  refine Gy (V_fieldAddr rfl rfl (by decide)) ?_
  refine Gy (V_load rfl rfl (Cell.own (.head _) rfl)) ?_
  refine Gy (V_gtr rfl rfl rfl) ?_
  refine Gv (V_pick_f rfl rfl rfl) ?_
  refine G_end (X_then ?_)
  refine G_cond_f rfl (by kernel_rfl) ?_
  refine G_skip (X_then (G_seq (G_seq (G_region ?_))))
  refine Gv (V_fieldAddr rfl rfl (by decide)) ?_
  refine Gv (V_load rfl rfl (Cell.own (.head _) rfl)) ?_
  refine Gv (V_seql rfl rfl rfl) ?_
  refine G_end (X_then ?_)
  refine G_cond_f rfl (by simp [*]; done) ?_
  refine G_skip (X_then (G_seq (G_seq (G_region ?_))))
  refine Gv (V_fieldAddr rfl rfl (by decide)) ?_
  refine Gv (V_load rfl rfl (Cell.own (.head _) rfl)) ?_
  refine G_callv (k := 103) (.mk rfl rfl rfl rfl) rfl rfl (.none rfl) (begL_call _ _ _ _ _ (by assumption) (by omega) (by (simp; done))) ?_
  (refine G_alloc rfl rfl rfl (.none rfl) ?_; intro b3)
  refine G_storeA rfl rfl rfl rfl (by simp [Value.oneCell']) rfl (.none rfl) (.head _ _ _) rfl ?_
  refine G_end (X_then (G_seq (G_region ?_)))
  refine Gv (V_fieldAddr rfl rfl (by decide)) ?_
  refine Gv (V_load rfl rfl (Cell.own (.head _) rfl)) ?_
  refine Gv (V_fieldAddr rfl rfl (by decide)) ?_
  refine Gv (V_load rfl rfl (Cell.own (.tail _ (.head _)) rfl)) ?_
  refine Gv (V_neq rfl rfl rfl) ?_
  refine Gm ?_
  refine G.bool_f 23 rfl (by kernel_rfl) ?_
  refine Gy (V_fieldAddr rfl rfl (by decide)) ?_
  refine Gy (V_load rfl rfl (Cell.own (.head _) rfl)) ?_
  refine Gy (V_fieldAddr rfl rfl (by decide)) ?_
  refine Gy (V_load rfl rfl (Cell.own (.tail _ (.head _)) rfl)) ?_
  refine Gy (V_sneq rfl rfl rfl) ?_
  refine Gv (V_pick_f rfl rfl rfl) ?_
  refine G_end (X_then ?_)
  refine G_cond_f rfl (by simp [*]; done) ?_
  refine G_skip (X_then (G_seq (G_seq (G_region ?_))))
  refine Gv (V_fieldAddr rfl rfl (by decide)) ?_
  refine Gv (V_load rfl rfl (Cell.own (.tail _ (.head _)) rfl)) ?_
  refine Gv (V_lss rfl rfl rfl) ?_
  refine G_end (X_then ?_)
  refine G_cond_f rfl (decide_eq_false (by omega)) ?_
  refine G_skip (X_then (G_seq (G_region ?_)))
  refine Ga ?_
  refine G_end (X_then (G_ret ?_))
  refine G_leaveS (.drop _ (.drop _ (.nil _))) (by exact (.cons (.tmp rfl) (.nil))) rfl ?_ ?_
  · exact (.refl _)
  exact ⟨(by kernel_rfl), rfl⟩
theorem Number4_call (d : UInt8) (p : Int) (h1 : 49 ≤ d.toNat) (h2 : d.toNat ≤ 52) (hp : 0 ≤ p) : CallV Tryz.prog 72 #[.agg #[.int .i64 2, .string (S [d]), .int .i64 p], .int .i64 1, .int .i64 4] E L (.tuple #[.int .i64 ((d.toNat : Int) - 48), .int .i64 0]) := by
  have hg : [d][(0 : Int).toNat]? = some d := rfl
  refine CallS.toV (CallS.intro (l := [_, _, _]) _ Tryz.func72 rfl Tryz.ntmps72 rfl ?_)
  refine G_seq (G_region ?_)
  (refine G_boxA rfl rfl rfl rfl (.none rfl) ?_; intro b3)
  refine Ga ?_
  refine Ga ?_
  refine G_end (X_then (G_seq (G_seq (G_region ?_))))
  refine Gv (V_loadA rfl rfl (Cells.own (.head _)) rfl) ?_
  refine G_callv (k := 105) (.mk rfl rfl rfl rfl) rfl rfl (.none rfl) (Check4_call _ _ _ _ (by assumption) (by assumption) (by assumption)) ?_
  refine Ga ?_
  refine G_end (X_then (G_seq (G_region ?_)))
  refine Gm ?_
  refine Gv (V_neq rfl rfl rfl) ?_
  refine G_end (X_then ?_)
  refine G_cond_f rfl (by kernel_rfl) ?_
  refine G_skip (X_then (G_seq (G_seq (G_region ?_))))
  refine Gv (V_fieldAddr rfl rfl (by decide)) ?_
  refine Gv (V_load rfl rfl (Cell.own (.head _) rfl)) ?_
  refine Gv (V_neq rfl rfl rfl) ?_
  refine G_end (X_then ?_)
  refine G_cond_f rfl (by kernel_rfl) ?_
  refine G_skip (X_then (G_seq (G_region ?_)))
  refine Ga ?_
  refine G_end (X_then (G_seq (G_seq (G_region ?_))))
  refine Ga ?_
  refine G_end (X_then (G_block ?_))
  refine G_loop (α := Int × Int) (fun x => [(1, .int .i64 1), (2, .int .i64 4), (3, .pointer (some ⟨b3, 0, none⟩)), (9, .int .i64 x.1), (10, .int .i64 x.2)]) (fun _ => E) (fun _ => .blk b3 (.cells #[.int .i64 2, .string (S [d]), .int .i64 p] 92 (0, 0)) :: L)
    (fun x => x = (0, 0) ∨ x = ((d.toNat : Int) - 48, 1)) (fun x => (1 - x.2).toNat) (0, 0) (.inl rfl) ⟨rfl, rfl, rfl, rfl, rfl, trivial⟩ rfl rfl ?_
  rintro _ (rfl | rfl)
  · refine G_seq ?_
    refine G_seq (G_region ?_)
    refine Gm ?_
    refine Gv (V_fieldAddr rfl rfl (by decide)) ?_
    refine Gv (V_load rfl rfl (Cell.own (.head _) rfl)) ?_
    refine Gv (V_len rfl rfl) ?_
    refine Gv (V_lss rfl rfl rfl) ?_
    refine G_end (X_then ?_)
    refine G_cond_t rfl (by simp [*]; done) ?_
    refine G_skip (X_then (G_seq (G_block (G_seq (G_region ?_)))))
    refine Gv (V_fieldAddr rfl rfl (by decide)) ?_
    refine Gv (V_load rfl rfl (Cell.own (.head _) rfl)) ?_
    refine Gm ?_
    refine Gv (V_sidx rfl rfl rfl (by omega) (by assumption)) ?_
    refine Gv (V_sub_u8 rfl rfl rfl (by omega) (by omega)) ?_
    refine Gv (V_conv_i64 rfl rfl (by omega) (by omega)) ?_
    refine Ga ?_
    refine G_end (X_then (G_seq (G_seq (G_region ?_))))
    refine Gm ?_
    refine Gm ?_
    refine Gv (V_sub_i64 rfl rfl rfl (by omega) (by omega)) ?_
    refine Gv (V_quo_n rfl rfl rfl (by omega) (by omega) (by simp [IntKind.max, IntKind.signed, IntKind.bits]; omega)) ?_
    refine Gv (V_gtr rfl rfl rfl) ?_
    refine G_end (X_then ?_)
    refine G_cond_f rfl (decide_eq_false (by omega)) ?_
    refine G_skip (X_then (G_region ?_))
    refine Gm ?_
    refine Gv (V_mul_i64 rfl rfl rfl (by omega) (by omega)) ?_
    refine Gm ?_
    refine Gv (V_add_i64 rfl rfl rfl (by omega) (by omega)) ?_
    refine Ga ?_
    refine G_end (X_block (X_then (G_region ?_)))
    refine Gm ?_
    refine Gv (V_add_i64 rfl rfl rfl (by omega) (by omega)) ?_
    refine Ga ?_
    refine G_end (X_then ?_)
    exact G_again ((d.toNat : Int) - 48, 1) (.inr rfl) (by simp) ⟨rfl, rfl, rfl, by show some (Value.int .i64 (10 * (0 : Int) + ((d.toNat : Int) - 48))) = _; rw [Int.mul_zero, Int.zero_add], rfl, trivial⟩ rfl rfl
  · refine G_seq ?_
    refine G_seq (G_region ?_)
    refine Gm ?_
    refine Gv (V_fieldAddr rfl rfl (by decide)) ?_
    refine Gv (V_load rfl rfl (Cell.own (.head _) rfl)) ?_
    refine Gv (V_len rfl rfl) ?_
    refine Gv (V_lss rfl rfl rfl) ?_
    refine G_end (X_then ?_)
    refine G_cond_f rfl (by simp [*]; done) ?_
    refine G_exit (X_then_exit (X_then_exit (X_block_hit (X_then (G_seq (G_seq (G_region ?_)))))))
    refine Gm ?_
    refine Gm ?_
    refine Gv (V_lss rfl rfl rfl) ?_
    refine Gm ?_
    refine G.bool_f 45 rfl (decide_eq_false (by omega)) ?_
    refine Gy (V_move rfl rfl) ?_
    refine Gy (V_move rfl rfl) ?_
    refine Gy (V_gtr rfl rfl rfl) ?_
    refine Gv (V_pick_f rfl rfl rfl) ?_
    refine G_end (X_then ?_)
    refine G_cond_f rfl (decide_eq_false (by omega)) ?_
    refine G_skip (X_then (G_seq (G_region ?_)))
    refine Gm ?_
    refine Ga ?_
    refine Ga ?_
    refine G_end (X_then (G_ret ?_))
    refine G_leaveS (.drop _ (.nil _)) (by exact (.cons (.tmp rfl) (.cons (.tmp rfl) (.nil)))) rfl ?_ ?_
    · exact (.refl _)
    exact ⟨rfl, rfl⟩
end
end Go.Proofs.YtimiokmgnclggaaGreat
