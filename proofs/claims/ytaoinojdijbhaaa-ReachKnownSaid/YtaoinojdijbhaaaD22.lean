import Derived.Test.YtaoinojdijbhaaaSep19
import Derived.Test.YtaoinojdijbhaaaSep20
import Derived.Test.YtaoinojdijbhaaaSep21
import Derived.Test.YtaoinojdijbhaaaSep22
import Derived.Test.YtaoinojdijbhaaaSep23
import Derived.Test.YtaoinojdijbhaaaSep24
import Derived.Test.YtaoinojdijbhaaaInst
import Derived.Test.YtaoinojdijbhaaaD12
set_option linter.unusedSimpArgs false
set_option linter.unusedVariables false
set_option maxHeartbeats 2000000
set_option maxRecDepth 20000
namespace Go.Proofs.Ytaoinojdijbhaaa
open Go.RowKit
theorem bools_nB {E : Env} {p : Option Addr} {n : Nat} {l : List Bool} (h : SlE E 1 p n (bools l)) : n = l.length := by have := h.1; simp [bools] at this; exact this.symm
def unB : List Value → Option (List Bool)
  | [] => some []
  | .bool b :: l => (unB l).map (b :: ·)
  | _ :: _ => none
theorem unB_eq : ∀ (l : List Value) (xs : List Bool), unB l = some xs → l = bools xs := by
  intro l
  induction l with
  | nil => intro xs h; rw [← Option.some.inj h]; rfl
  | cons v l ih =>
    intro xs h
    cases v with
    | bool b =>
      obtain ⟨ys, h1, rfl⟩ := Option.map_eq_some_iff.1 h
      rw [ih ys h1]; rfl
    | _ => cases h
theorem SlE.toB {E : Env} {sz : Nat} {a : Option Addr} {n : Nat} {l : List Value} {xs : List Bool} (h : SlE E sz a n l) (e : unB l = some xs) : SlE E sz a n (bools xs) := by rw [← unB_eq l xs e]; exact h
def shownG (ps : List Pr) : Gr := ⟨1, [[97], [98]], [115], [[65], [66], [67]], 16, ps⟩
abbrev firstG : Gr := shownG [(16, [0, 17]), (17, [1]), (17, []), (18, [18, 0])]
abbrev secondG : Gr := shownG [(16, [17, 17]), (17, [18, 18]), (17, [0]), (18, [])]
abbrev thirdG : Gr := shownG [(16, [0]), (17, [1]), (18, [16])]
section
variable (E : Env) (L : List Res)
theorem same_call (p q : Option Addr) (n m c d : Nat) (xs ys : List Bool) (hx : SlE E 1 p n (bools xs)) (hy : SlE E 1 q m (bools ys)) (hn : n ≤ 9223372036854775806) (hm : m ≤ 9223372036854775806) :
    CallV Try.prog 35 #[.slice p n c, .slice q m d] E L (.bool (decide (xs = ys))) := by
  have e1 := bools_nB hx
  have e2 := bools_nB hy
  subst e1 e2
  refine CallS.toV (CallS.intro (l := [_, _]) _ Try.func35 rfl Try.ntmps35 rfl ?_)
  by_cases hlen : xs.length ≠ ys.length
  · have hne : xs ≠ ys := fun h => hlen (congrArg List.length h)
    refine G_seq (G_region ?_)
    refine G_val (V_assign rfl rfl) rfl rfl (.none rfl) ?_
    refine G_end (X_then (G_seq (G_seq (G_region ?_))))
    refine G_val (V_move rfl rfl) rfl rfl (.none rfl) ?_
    refine G_val (V_lenS rfl rfl) rfl rfl (.none rfl) ?_
    refine G_val (V_move rfl rfl) rfl rfl (.none rfl) ?_
    refine G_val (V_lenS rfl rfl) rfl rfl (.none rfl) ?_
    refine G_val (V_neq rfl rfl rfl) rfl rfl (.none rfl) ?_
    refine G_end (X_then ?_)
    refine G_cond_t rfl (decide_eq_true (by omega)) ?_
    refine G_seq (G_region ?_)
    refine G_val (V_assign rfl rfl) rfl rfl (.none rfl) ?_
    refine G_end (X_then (G_ret (X_then_ret ?_)))
    refine G_leaveS (.nil _) (by exact (.cons (.tmp rfl) (.nil))) rfl ?_ ?_
    · exact (.refl _)
    exact ⟨(by (simp [resVal, *]; done)), (by rfl)⟩
  refine G_seq (G_region ?_)
  refine G_val (V_assign rfl rfl) rfl rfl (.none rfl) ?_
  refine G_end (X_then (G_seq (G_seq (G_region ?_))))
  refine G_val (V_move rfl rfl) rfl rfl (.none rfl) ?_
  refine G_val (V_lenS rfl rfl) rfl rfl (.none rfl) ?_
  refine G_val (V_move rfl rfl) rfl rfl (.none rfl) ?_
  refine G_val (V_lenS rfl rfl) rfl rfl (.none rfl) ?_
  refine G_val (V_neq rfl rfl rfl) rfl rfl (.none rfl) ?_
  refine G_end (X_then ?_)
  refine G_cond_f rfl (decide_eq_false (by omega)) ?_
  refine G_skip (X_then (G_seq (G_seq (G_region ?_))))
  refine G_val (V_assign rfl rfl) rfl rfl (.none rfl) ?_
  refine G_end (X_then (G_block ?_))
  refine G_loop (α := Nat) (fun k => [(0, .slice p xs.length c), (1, .slice q ys.length d), (5, .int .i64 k)]) (fun _ => E) (fun _ => L)
    (fun k => k ≤ xs.length ∧ xs.take k = ys.take k) (fun k => xs.length - k) 0 ⟨Nat.zero_le _, by simp⟩ ⟨rfl, rfl, rfl, trivial⟩ rfl rfl ?_
  rintro k ⟨hk, hall⟩
  by_cases hlt : k < xs.length
  · have hlt' : k < ys.length := by omega
    have h1 := bools_at hlt
    have h2 := bools_at hlt'
    by_cases he : xs[k] = ys[k]
    · refine G_seq ?_
      refine G_seq (G_region ?_)
      refine G_val (V_move rfl rfl) rfl rfl (.none rfl) ?_
      refine G_val (V_move rfl rfl) rfl rfl (.none rfl) ?_
      refine G_val (V_lenS rfl rfl) rfl rfl (.none rfl) ?_
      refine G_val (V_lss rfl rfl rfl) rfl rfl (.none rfl) ?_
      refine G_end (X_then ?_)
      refine G_cond_t rfl (decide_eq_true (by omega)) ?_
      refine G_skip (X_then (G_seq (G_block (G_seq ?_))))
      refine G_draw mixed (by kernel_rfl) ?_
      refine Q_val (V_move rfl rfl) rfl rfl (.none rfl) ?_
      refine Q_val (V_move rfl rfl) rfl rfl (.none rfl) ?_
      refine Q_val (V_idxAddr rfl rfl rfl (SlE.rd (by assumption)) (by omega) (by omega)) rfl rfl (.none rfl) ?_
      refine Q_val (V_loadS rfl rfl (SlE.rd (by assumption)) (by assumption) (by simp)) rfl rfl (.none rfl) ?_
      refine Q_val (V_move rfl rfl) rfl rfl (.none rfl) ?_
      refine Q_val (V_move rfl rfl) rfl rfl (.none rfl) ?_
      refine Q_val (V_idxAddr rfl rfl rfl (SlE.rd (by assumption)) (by omega) (by omega)) rfl rfl (.none rfl) ?_
      refine Q_val (V_loadS rfl rfl (SlE.rd (by assumption)) (by assumption) (by simp)) rfl rfl (.none rfl) ?_
      refine Q_val (V_bneq rfl rfl rfl) rfl rfl (.none rfl) ?_
      refine Q_end ?_
      refine X_then ?_
      refine G_cond_f rfl (by simp [*]; done) ?_
      refine G_skip (X_block (X_then (G_region ?_)))
      refine G_val (V_move rfl rfl) rfl rfl (.none rfl) ?_
      refine G_val (V_add_i64 rfl rfl rfl (by omega) (by omega)) rfl rfl (.none rfl) ?_
      refine G_val (V_assign rfl rfl) rfl rfl (.none rfl) ?_
      refine G_end (X_then ?_)
      exact G_again (k + 1) ⟨hlt, take_next hall hlt hlt' he⟩ (by omega) ⟨rfl, rfl, rfl, trivial⟩ rfl rfl
    · have hne : xs ≠ ys := fun h => he (by subst h; rfl)
      refine G_seq (G_seq (G_region ?_))
      refine G_val (V_move rfl rfl) rfl rfl (.none rfl) ?_
      refine G_val (V_move rfl rfl) rfl rfl (.none rfl) ?_
      refine G_val (V_lenS rfl rfl) rfl rfl (.none rfl) ?_
      refine G_val (V_lss rfl rfl rfl) rfl rfl (.none rfl) ?_
      refine G_end (X_then ?_)
      refine G_cond_t rfl (decide_eq_true (by omega)) ?_
      refine G_skip (X_then (G_seq (G_block (G_seq ?_))))
      refine G_draw mixed (by kernel_rfl) ?_
      refine Q_val (V_move rfl rfl) rfl rfl (.none rfl) ?_
      refine Q_val (V_move rfl rfl) rfl rfl (.none rfl) ?_
      refine Q_val (V_idxAddr rfl rfl rfl (SlE.rd (by assumption)) (by omega) (by omega)) rfl rfl (.none rfl) ?_
      refine Q_val (V_loadS rfl rfl (SlE.rd (by assumption)) (by assumption) (by simp)) rfl rfl (.none rfl) ?_
      refine Q_val (V_move rfl rfl) rfl rfl (.none rfl) ?_
      refine Q_val (V_move rfl rfl) rfl rfl (.none rfl) ?_
      refine Q_val (V_idxAddr rfl rfl rfl (SlE.rd (by assumption)) (by omega) (by omega)) rfl rfl (.none rfl) ?_
      refine Q_val (V_loadS rfl rfl (SlE.rd (by assumption)) (by assumption) (by simp)) rfl rfl (.none rfl) ?_
      refine Q_val (V_bneq rfl rfl rfl) rfl rfl (.none rfl) ?_
      refine Q_end ?_
      refine X_then ?_
      refine G_cond_t rfl (decide_eq_true (by omega)) ?_
      refine G_seq (G_region ?_)
      refine G_val (V_assign rfl rfl) rfl rfl (.none rfl) ?_
      refine G_end (X_then (G_ret (X_block_ret (X_then_ret (X_then_ret (X_block_ret (X_then_ret ?_)))))))
      refine G_leaveS (.nil _) (by exact (.cons (.tmp rfl) (.nil))) rfl ?_ ?_
      · exact (.refl _)
      exact ⟨(by (simp [resVal, *]; done)), (by rfl)⟩
  · have heq : xs = ys := by rw [List.take_of_length_le (by omega), List.take_of_length_le (by omega)] at hall; exact hall
    refine G_seq (G_seq (G_region ?_))
    refine G_val (V_move rfl rfl) rfl rfl (.none rfl) ?_
    refine G_val (V_move rfl rfl) rfl rfl (.none rfl) ?_
    refine G_val (V_lenS rfl rfl) rfl rfl (.none rfl) ?_
    refine G_val (V_lss rfl rfl rfl) rfl rfl (.none rfl) ?_
    refine G_end (X_then ?_)
    refine G_cond_f rfl (decide_eq_false (by omega)) ?_
    refine G_exit (X_then_exit (X_then_exit (X_block_hit (X_then (G_seq (G_region ?_))))))
    refine G_val (V_assign rfl rfl) rfl rfl (.none rfl) ?_
    refine G_end (X_then (G_ret ?_))
    refine G_leaveS (.nil _) (by exact (.cons (.tmp rfl) (.nil))) rfl ?_ ?_
    · exact (.refl _)
    exact ⟨(by (simp [resVal, *]; done)), (by rfl)⟩
theorem p_call (l : Int) (a : Option Addr) (n c : Nat) : CallV Try.prog 90 #[.int .i64 l, .slice a n c] E L (.agg #[.int .i64 l, .slice a n c]) := by
  refine CallS.toV (CallS.intro (l := [_, _]) _ Try.func90 rfl Try.ntmps90 rfl ?_)
  refine G_seq (G_region ?_)
  (refine G_alloc rfl rfl rfl (.none rfl) ?_; intro b4)
  refine G_end (X_then (G_seq (G_region ?_)))
  refine G_val (V_move rfl rfl) rfl rfl (.none rfl) ?_
  refine G_val (V_move rfl rfl) rfl rfl (.none rfl) ?_
  refine G_val (V_build rfl rfl (by simp [fillV, setLs, setL, Value.cells]; rfl)) rfl rfl (.none rfl) ?_
  refine G_storeA rfl rfl rfl rfl (by simp [Value.oneCell']) rfl (.none rfl) (.head _ _ _) rfl ?_
  refine G_end (X_then (G_ret ?_))
  refine G_leaveS (.drop _ (.nil _)) (by exact (.cons (.cellA rfl (Cells.own (.head _)) rfl) (.nil))) rfl ?_ ?_
  · exact (.refl _)
  exact ⟨rfl, rfl⟩
theorem shown_own (pp : Option Addr) (n pc : Nat) : CallS Try.prog 89 #[.slice pp n pc] E L (fun r E' L' => ∃ b3 b4, r = .agg #[.int .i64 1, .slice (some ⟨b3, 0, none⟩) 2 2, .string (S [115]), .slice (some ⟨b4, 0, none⟩) 3 3, .int .i64 16, .slice pp n pc] ∧ E = E' ∧
    L' = .blk b4 (.cells #[.string (S [65]), .string (S [66]), .string (S [67])] 9 (0, 0)) :: .blk b3 (.cells #[.string (S [97]), .string (S [98])] 9 (0, 0)) :: L) := by
  refine CallS.intro (l := [_]) _ Try.func89 rfl Try.ntmps89 rfl ?_
  refine G_seq (G_region ?_)
  (refine G_alloc rfl rfl rfl (.none rfl) ?_; intro b2)
  refine G_end (X_then (G_seq (G_region ?_)))
  (refine G_lit2 rfl rfl rfl rfl rfl rfl rfl (.none rfl) ?_; intro b3)
  (refine G_lit rfl rfl (by decide) (by simp [fillS, zeros, setLs, setL, Value.cells, List.range, List.range.loop]; rfl) rfl rfl (.none rfl) ?_; intro b4)
  refine G_val (V_move rfl rfl) rfl rfl (.none rfl) ?_
  refine G_val (V_build rfl rfl (by simp [fillV, setLs, setL, Value.cells]; rfl)) rfl rfl (.none rfl) ?_
  refine G_storeA rfl rfl rfl rfl (by simp [Value.oneCell']) rfl (.none rfl) (.tail _ (.tail _ (.head _ _ _))) rfl ?_
  refine G_end (X_then (G_ret ?_))
  refine G_leaveS (.keep _ (.keep _ (.drop _ (.nil _)))) (by exact (.cons (.cellA rfl (Cells.own (.tail _ (.tail _ (.head _)))) rfl) (.nil))) rfl ?_ ?_
  · exact (.refl _)
  exact ⟨_, ⟨_, ⟨rfl, ⟨rfl, rfl⟩⟩⟩⟩
theorem shown_own' (pp : Option Addr) (n pc : Nat) (ps : List Pr) (h : PsE E pp n ps) (hc : n ≤ pc) : CallS Try.prog 89 #[.slice pp n pc] E L (fun r E' L' => GrE E' r (shownG ps) ∧ L' = L) :=
  fun w hw => (shown_own E L pp n pc w hw).mono fun _ _ ⟨r, E', L', he, hE, hs, b3, b4, hr, _, hL⟩ => by
    subst hL hr
    obtain ⟨E2, hE2, hs2, hok2⟩ := hs.freeze
    obtain ⟨E3, hE3, hs3, hok3⟩ := hs2.freeze
    have e1 := h.len
    subst e1
    refine ⟨_, E3, L, he, (hE.trans hE2).trans hE3, hs3, ?_, rfl⟩
    exact GrE.mk (g := shownG ps) (SlE.lit (l := strs [[97], [98]]) hok3 rfl) ((SlE.lit (l := strs [[65], [66], [67]]) hok2 rfl).mono hE3) (h.mono ((hE.trans hE2).trans hE3)) (Nat.le_refl _) (Nat.le_refl _) hc
theorem first_call : CallS Try.prog 50 #[] E L (fun r E' L' => GrE E' r firstG ∧ L' = L) := by
  refine CallS.intro (l := []) _ Try.func50 rfl Try.ntmps50 rfl ?_
  refine G_seq (G_region ?_)
  (refine G_alloc rfl rfl rfl (.none rfl) ?_; intro b0)
  refine G_end (X_then (G_seq (G_region ?_)))
  (refine G_litZ rfl rfl (by decide) (by simp [fillS, zeros, setLs, setL, Value.cells, List.range, List.range.loop]; rfl) (by rfl) rfl rfl (.none rfl) ?_; intro b1 E1 hE1 hs1)
  refine G_callv (k := 90) (.mk rfl rfl rfl rfl) rfl rfl (.none rfl) (p_call _ _ _ _ _ _) ?_
  (refine G_litZ rfl rfl (by decide) (by simp [fillS, zeros, setLs, setL, Value.cells, List.range, List.range.loop]; rfl) (by rfl) rfl rfl (.none rfl) ?_; intro b3 E3 hE3 hs3)
  replace hs1 := hs1.mono hE3
  refine G_callv (k := 90) (.mk rfl rfl rfl rfl) rfl rfl (.none rfl) (p_call _ _ _ _ _ _) ?_
  refine G_callv (k := 90) (.mk rfl rfl rfl rfl) rfl rfl (.none rfl) (p_call _ _ _ _ _ _) ?_
  (refine G_litZ rfl rfl (by decide) (by simp [fillS, zeros, setLs, setL, Value.cells, List.range, List.range.loop]; rfl) (by rfl) rfl rfl (.none rfl) ?_; intro b6 E6 hE6 hs6)
  replace hs3 := hs3.mono hE6
  replace hs1 := hs1.mono hE6
  refine G_callv (k := 90) (.mk rfl rfl rfl rfl) rfl rfl (.none rfl) (p_call _ _ _ _ _ _) ?_
  (refine G_litZ rfl rfl (by decide) (by simp [fillS, zeros, setLs, setL, Value.cells, List.range, List.range.loop]; rfl) (by rfl) rfl rfl (.none rfl) ?_; intro b8 E8 hE8 hs8)
  replace hs6 := hs6.mono hE8
  replace hs3 := hs3.mono hE8
  replace hs1 := hs1.mono hE8
  have hps : PsE E8 (some ⟨b8, 0, none⟩) 4 [(16, [0, 17]), (17, [1]), (17, []), (18, [18, 0])] := by
    refine ⟨[(some ⟨b1, 0, none⟩, 2, (16, [0, 17])), (some ⟨b3, 0, none⟩, 1, (17, [1])), (none, 0, (17, [])), (some ⟨b6, 0, none⟩, 2, (18, [18, 0]))], rfl, hs8, fun r hr => ?_⟩
    simp only [List.mem_cons, List.not_mem_nil, or_false] at hr
    rcases hr with rfl | rfl | rfl | rfl <;> first | assumption | exact SlE.nil
  refine G_call (k := 89) (.mk rfl rfl rfl rfl) rfl rfl (.none rfl) (shown_own' _ _ _ _ _ _ (by assumption) (by omega)) ?_
  rintro r1 E2 L3 hE4 ⟨Z5, rfl⟩
  replace hs8 := hs8.mono hE4
  replace hs6 := hs6.mono hE4
  replace hs3 := hs3.mono hE4
  replace hs1 := hs1.mono hE4
  replace hps := hps.mono hE4
  have hgr : GrE E2 r1 firstG := by assumption
  have hg0 := hgr
  obtain ⟨tp, tc, np, nc, pp, pc, rfl, _⟩ := hgr
  refine G_storeA rfl rfl rfl rfl (by simp [Value.oneCell']) rfl (.none rfl) (.head _ _ _) rfl ?_
  refine G_end (X_then (G_ret ?_))
  refine G_leaveS (.drop _ (.nil _)) (by exact (.cons (.cellA rfl (Cells.own (.head _)) rfl) (.nil))) rfl ?_ ?_
  · exact ((((hE1.trans hE3).trans hE6).trans hE8).trans hE4)
  exact ⟨(by assumption), rfl⟩
theorem second_call : CallS Try.prog 51 #[] E L (fun r E' L' => GrE E' r secondG ∧ L' = L) := by
  refine CallS.intro (l := []) _ Try.func51 rfl Try.ntmps51 rfl ?_
  refine G_seq (G_region ?_)
  (refine G_alloc rfl rfl rfl (.none rfl) ?_; intro b0)
  refine G_end (X_then (G_seq (G_region ?_)))
  (refine G_litZ rfl rfl (by decide) (by simp [fillS, zeros, setLs, setL, Value.cells, List.range, List.range.loop]; rfl) (by rfl) rfl rfl (.none rfl) ?_; intro b1 E1 hE1 hs1)
  refine G_callv (k := 90) (.mk rfl rfl rfl rfl) rfl rfl (.none rfl) (p_call _ _ _ _ _ _) ?_
  (refine G_litZ rfl rfl (by decide) (by simp [fillS, zeros, setLs, setL, Value.cells, List.range, List.range.loop]; rfl) (by rfl) rfl rfl (.none rfl) ?_; intro b3 E3 hE3 hs3)
  replace hs1 := hs1.mono hE3
  refine G_callv (k := 90) (.mk rfl rfl rfl rfl) rfl rfl (.none rfl) (p_call _ _ _ _ _ _) ?_
  (refine G_litZ rfl rfl (by decide) (by simp [fillS, zeros, setLs, setL, Value.cells, List.range, List.range.loop]; rfl) (by rfl) rfl rfl (.none rfl) ?_; intro b5 E5 hE5 hs5)
  replace hs3 := hs3.mono hE5
  replace hs1 := hs1.mono hE5
  refine G_callv (k := 90) (.mk rfl rfl rfl rfl) rfl rfl (.none rfl) (p_call _ _ _ _ _ _) ?_
  refine G_callv (k := 90) (.mk rfl rfl rfl rfl) rfl rfl (.none rfl) (p_call _ _ _ _ _ _) ?_
  (refine G_litZ rfl rfl (by decide) (by simp [fillS, zeros, setLs, setL, Value.cells, List.range, List.range.loop]; rfl) (by rfl) rfl rfl (.none rfl) ?_; intro b8 E8 hE8 hs8)
  replace hs5 := hs5.mono hE8
  replace hs3 := hs3.mono hE8
  replace hs1 := hs1.mono hE8
  have hps : PsE E8 (some ⟨b8, 0, none⟩) 4 [(16, [17, 17]), (17, [18, 18]), (17, [0]), (18, [])] := by
    refine ⟨[(some ⟨b1, 0, none⟩, 2, (16, [17, 17])), (some ⟨b3, 0, none⟩, 2, (17, [18, 18])), (some ⟨b5, 0, none⟩, 1, (17, [0])), (none, 0, (18, []))], rfl, hs8, fun r hr => ?_⟩
    simp only [List.mem_cons, List.not_mem_nil, or_false] at hr
    rcases hr with rfl | rfl | rfl | rfl <;> first | assumption | exact SlE.nil
  refine G_call (k := 89) (.mk rfl rfl rfl rfl) rfl rfl (.none rfl) (shown_own' _ _ _ _ _ _ (by assumption) (by omega)) ?_
  rintro r1 E2 L3 hE4 ⟨Z5, rfl⟩
  replace hs8 := hs8.mono hE4
  replace hs5 := hs5.mono hE4
  replace hs3 := hs3.mono hE4
  replace hs1 := hs1.mono hE4
  replace hps := hps.mono hE4
  have hgr : GrE E2 r1 secondG := by assumption
  have hg0 := hgr
  obtain ⟨tp, tc, np, nc, pp, pc, rfl, _⟩ := hgr
  refine G_storeA rfl rfl rfl rfl (by simp [Value.oneCell']) rfl (.none rfl) (.head _ _ _) rfl ?_
  refine G_end (X_then (G_ret ?_))
  refine G_leaveS (.drop _ (.nil _)) (by exact (.cons (.cellA rfl (Cells.own (.head _)) rfl) (.nil))) rfl ?_ ?_
  · exact ((((hE1.trans hE3).trans hE5).trans hE8).trans hE4)
  exact ⟨(by assumption), rfl⟩
theorem third_call : CallS Try.prog 52 #[] E L (fun r E' L' => GrE E' r thirdG ∧ L' = L) := by
  refine CallS.intro (l := []) _ Try.func52 rfl Try.ntmps52 rfl ?_
  refine G_seq (G_region ?_)
  (refine G_alloc rfl rfl rfl (.none rfl) ?_; intro b0)
  refine G_end (X_then (G_seq (G_region ?_)))
  (refine G_litZ rfl rfl (by decide) (by simp [fillS, zeros, setLs, setL, Value.cells, List.range, List.range.loop]; rfl) (by rfl) rfl rfl (.none rfl) ?_; intro b1 E1 hE1 hs1)
  refine G_callv (k := 90) (.mk rfl rfl rfl rfl) rfl rfl (.none rfl) (p_call _ _ _ _ _ _) ?_
  (refine G_litZ rfl rfl (by decide) (by simp [fillS, zeros, setLs, setL, Value.cells, List.range, List.range.loop]; rfl) (by rfl) rfl rfl (.none rfl) ?_; intro b3 E3 hE3 hs3)
  replace hs1 := hs1.mono hE3
  refine G_callv (k := 90) (.mk rfl rfl rfl rfl) rfl rfl (.none rfl) (p_call _ _ _ _ _ _) ?_
  (refine G_litZ rfl rfl (by decide) (by simp [fillS, zeros, setLs, setL, Value.cells, List.range, List.range.loop]; rfl) (by rfl) rfl rfl (.none rfl) ?_; intro b5 E5 hE5 hs5)
  replace hs3 := hs3.mono hE5
  replace hs1 := hs1.mono hE5
  refine G_callv (k := 90) (.mk rfl rfl rfl rfl) rfl rfl (.none rfl) (p_call _ _ _ _ _ _) ?_
  (refine G_litZ rfl rfl (by decide) (by simp [fillS, zeros, setLs, setL, Value.cells, List.range, List.range.loop]; rfl) (by rfl) rfl rfl (.none rfl) ?_; intro b7 E7 hE7 hs7)
  replace hs5 := hs5.mono hE7
  replace hs3 := hs3.mono hE7
  replace hs1 := hs1.mono hE7
  have hps : PsE E7 (some ⟨b7, 0, none⟩) 3 [(16, [0]), (17, [1]), (18, [16])] := by
    refine ⟨[(some ⟨b1, 0, none⟩, 1, (16, [0])), (some ⟨b3, 0, none⟩, 1, (17, [1])), (some ⟨b5, 0, none⟩, 1, (18, [16]))], rfl, hs7, fun r hr => ?_⟩
    simp only [List.mem_cons, List.not_mem_nil, or_false] at hr
    rcases hr with rfl | rfl | rfl <;> first | assumption | exact SlE.nil
  refine G_call (k := 89) (.mk rfl rfl rfl rfl) rfl rfl (.none rfl) (shown_own' _ _ _ _ _ _ (by assumption) (by omega)) ?_
  rintro r1 E2 L3 hE4 ⟨Z5, rfl⟩
  replace hs7 := hs7.mono hE4
  replace hs5 := hs5.mono hE4
  replace hs3 := hs3.mono hE4
  replace hs1 := hs1.mono hE4
  replace hps := hps.mono hE4
  have hgr : GrE E2 r1 thirdG := by assumption
  have hg0 := hgr
  obtain ⟨tp, tc, np, nc, pp, pc, rfl, _⟩ := hgr
  refine G_storeA rfl rfl rfl rfl (by simp [Value.oneCell']) rfl (.none rfl) (.head _ _ _) rfl ?_
  refine G_end (X_then (G_ret ?_))
  refine G_leaveS (.drop _ (.nil _)) (by exact (.cons (.cellA rfl (Cells.own (.head _)) rfl) (.nil))) rfl ?_ ?_
  · exact ((((hE1.trans hE3).trans hE5).trans hE7).trans hE4)
  exact ⟨(by assumption), rfl⟩
end
end Go.Proofs.Ytaoinojdijbhaaa
