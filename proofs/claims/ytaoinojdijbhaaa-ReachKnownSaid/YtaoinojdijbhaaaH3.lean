import Derived.Test.YtaoinojdijbhaaaSep19
import Derived.Test.YtaoinojdijbhaaaSep20
import Derived.Test.YtaoinojdijbhaaaSep21
import Derived.Test.YtaoinojdijbhaaaSep22
import Derived.Test.YtaoinojdijbhaaaSep23
import Derived.Test.YtaoinojdijbhaaaSep24
import Derived.Test.YtaoinojdijbhaaaInst
import Derived.Test.YtaoinojdijbhaaaH1
import Derived.Test.YtaoinojdijbhaaaH2
set_option linter.unusedSimpArgs false
set_option linter.unusedVariables false
set_option maxHeartbeats 2000000
set_option maxRecDepth 20000
namespace Go.Proofs.Ytaoinojdijbhaaa
open Go.RowKit

/-! The program's check of a grammar. -/
abbrev rowEnc (x : Row × Nat) : List Value := [.int .i64 (x.2 : Int), .agg #[.int .i64 x.1.2.2.1, .slice x.1.1 x.1.2.2.2.length x.1.2.1]]
theorem zip_pre {α : Type} {l : List α} {pre : List (α × Nat)} {x : α × Nat} (h : pre ++ [x] <+: l.zipIdx) : l[pre.length]? = some x.1 ∧ x.2 = pre.length ∧ pre.length < l.length := by
  obtain ⟨t, ht⟩ := h
  have h1 : (l.zipIdx)[pre.length]? = some x := by rw [← ht]; simp
  rw [List.getElem?_zipIdx] at h1
  simp only [Option.map_eq_some_iff, Nat.zero_add] at h1
  obtain ⟨a, h2, h3⟩ := h1
  subst h3
  exact ⟨h2, rfl, (List.getElem?_eq_some_iff.1 h2).1⟩
theorem zip_take {α : Type} {l : List α} {pre : List (α × Nat)} (h : pre <+: l.zipIdx) : pre.map (·.1) = l.take pre.length := by
  obtain ⟨t, ht⟩ := h
  have h1 : (l.zipIdx.map (·.1)).take pre.length = pre.map (·.1) := by rw [← ht]; simp
  rw [← h1]
  simp
abbrev GB (b : Nat) (g : Gr) (tp : Option Addr) (tc : Nat) (np : Option Addr) (nc : Nat) (pp : Option Addr) (pc : Nat) : Res := .blk b (.cells #[.int .i64 g.k, .slice tp g.toks.length tc, .string (S g.sep), .slice np g.names.length nc, .int .i64 g.start, .slice pp g.prods.length pc] 26 (0, 0))
section
variable (E : Env) (L : List Res)
theorem iter_prods (c : Nat) (p : Option Addr) (n cc : Nat) (rows : List Row) (hl : SlE E 2 p n (prows rows)) (hn : n ≤ 1000) :
    Iter Try.prog 136 #[.pointer (some ⟨c, 0, none⟩)] (fun x => (rowEnc x).toArray) rows.zipIdx E [.blk c (.cells #[.slice p n cc] 24 (0, 0))] := by
  have e1 := hl.nR
  subst e1
  intro y E0 L0 Inv InvX hE0 h0 hy
  replace hl := hl.mono hE0
  refine CallS.intro (L := .blk c (.cells #[.slice p rows.length cc] 24 (0, 0)) :: L0) (l := [.func (.yield y) #[] #[], .pointer (some ⟨c, 0, none⟩)]) _ Try.func136 rfl Try.ntmps136 rfl ?_
  refine G_seq (G_region ?_)
  refine G_val (V_load rfl rfl (Cell.own1 (.head _))) rfl rfl (.none rfl) ?_
  refine G_val (V_lenS rfl rfl) rfl rfl (.none rfl) ?_
  refine G_val (V_move rfl rfl) rfl rfl (.none rfl) ?_
  refine G_end (X_then (G_block ?_))
  refine G_loop (α := Nat × Env × List Res) (fun x => [(0, .func (.yield y) #[] #[]), (5, .slice p rows.length cc), (6, .int .i64 rows.length), (7, .int .i64 x.1)]) (fun x => x.2.1) (fun x => .blk c (.cells #[.slice p rows.length cc] 24 (0, 0)) :: x.2.2)
    (fun x => E0.Le x.2.1 ∧ x.1 ≤ rows.length ∧ Inv (rows.zipIdx.take x.1) x.2.1 x.2.2) (fun x => rows.length - x.1) (0, E0, L0)
    ⟨.refl _, Nat.zero_le _, h0⟩ ⟨rfl, rfl, rfl, rfl, trivial⟩ rfl rfl ?_
  rintro ⟨k, E, L⟩ ⟨hE, hk, hI⟩
  simp only at hE hk hI ⊢
  replace hl := hl.mono hE
  by_cases hlt : k < rows.length
  · have hx := prows_get (List.getElem?_eq_getElem hlt)
    have hz : rows.zipIdx.take (k + 1) = rows.zipIdx.take k ++ [(rows[k], k)] := by
      rw [List.take_succ_eq_append_getElem (by simpa using hlt)]; simp
    have hpre : rows.zipIdx.take k ++ [(rows[k], k)] <+: rows.zipIdx := by rw [← hz]; exact List.take_prefix _ _
    refine G_seq (G_region ?_)
    refine G_val (V_lss rfl rfl rfl) rfl rfl (.none rfl) ?_
    refine G_end (X_then (G_seq ?_))
    refine G_cond_t rfl (decide_eq_true (by omega)) ?_
    refine G_skip (X_then (G_seq (G_block (G_seq (G_region ?_)))))
    refine G_val (V_move rfl rfl) rfl rfl (.none rfl) ?_
    refine G_val (V_idxAddr rfl rfl rfl (SlE.rd (by assumption)) (by omega) (by omega)) rfl rfl (.none rfl) ?_
    refine G_val (V_loadAS rfl rfl (SlE.rd (by assumption)) (by assumption) (by simp) (by rfl)) rfl rfl (.none rfl) ?_
    (refine G_alloc rfl rfl rfl (.none rfl) ?_; intro b4)
    refine G_val (V_assign rfl rfl) rfl rfl (.none rfl) ?_
    refine G_storeA rfl rfl rfl rfl (by simp [Value.oneCell']) rfl (.none rfl) (.head _ _ _) rfl ?_
    refine G_end (X_then (G_seq (G_region ?_)))
    refine G_val (V_move rfl rfl) rfl rfl (.none rfl) ?_
    refine G_val (V_move rfl rfl) rfl rfl (.none rfl) ?_
    refine G_val (V_loadA rfl rfl (Cells.own (.head _)) rfl) rfl rfl (.none rfl) ?_
    refine G.drop ?_
    refine G_yield (.mk rfl rfl rfl rfl) rfl rfl (.none rfl) (hy _ (rows[k], k) E L [_] hE hpre hI) ?_
    rintro r E' L' hE' ⟨L3, rfl, (⟨rfl, hI'⟩ | ⟨rfl, hI'⟩)⟩
    · refine G_val (V_not rfl rfl) rfl rfl (.none rfl) ?_
      refine G_end (X_then ?_)
      refine G_cond_f rfl (by kernel_rfl) ?_
      refine G_skip (X_block (X_then (G_region ?_)))
      refine G_val (V_add_i64 rfl rfl rfl (by omega) (by omega)) rfl rfl (.none rfl) ?_
      refine G_val (V_move rfl rfl) rfl rfl (.none rfl) ?_
      refine G_end (X_then ?_)
      exact G_again (k + 1, E', L3) ⟨hE.trans hE', by simp only; omega, by rw [hz]; exact hI'⟩ (by simp only; omega) ⟨rfl, rfl, rfl, rfl, trivial⟩ rfl rfl
    · refine G_val (V_not rfl rfl) rfl rfl (.none rfl) ?_
      refine G_end (X_then ?_)
      refine G_cond_t rfl (by kernel_rfl) ?_
      refine G_ret (X_block_ret (X_then_ret (X_then_ret (X_block_ret ?_))))
      exact G_leave_n 0 .nil rfl (hE.trans hE') ⟨[_], L3, rfl, .inr ⟨_, hpre, hI'⟩⟩
  · have hke : k = rows.length := by omega
    subst hke
    rw [List.take_of_length_le (by simp)] at hI
    refine G_seq (G_region ?_)
    refine G_val (V_lss rfl rfl rfl) rfl rfl (.none rfl) ?_
    refine G_end (X_then (G_seq ?_))
    refine G_cond_f rfl (decide_eq_false (by omega)) ?_
    refine G_exit (X_then_exit (X_then_exit (X_block_hit ?_)))
    exact G_leave_n 0 .nil rfl hE ⟨[_], L, rfl, .inl hI⟩
theorem All_call (p : Option Addr) (n c : Nat) : CallS Try.prog 131 #[.slice p n c] E L (fun r E' L' => ∃ b, r = .func (.func 136) #[] #[.pointer (some ⟨b, 0, none⟩)] ∧ E = E' ∧ L' = .blk b (.cells #[.slice p n c] 24 (0, 0)) :: L) := by
  refine CallS.intro (l := [.slice p n c]) _ Try.func131 rfl Try.ntmps131 rfl ?_
  refine G_seq (G_region ?_)
  (refine G_box1 rfl rfl rfl rfl rfl (.none rfl) ?_; intro b1)
  refine G_val (V_assign rfl rfl) rfl rfl (.none rfl) ?_
  refine G_end (X_then (G_seq (G_region ?_)))
  refine G_val (V_makeFunc rfl rfl rfl) rfl rfl (.none rfl) ?_
  refine G_val (V_assign rfl rfl) rfl rfl (.none rfl) ?_
  refine G_end (X_then (G_ret ?_))
  refine G_leaveS (.keep _ (.nil _)) (by exact (.cons (.tmp rfl) (.nil))) rfl ?_ ?_
  · exact (.refl _)
  exact ⟨_, ⟨rfl, ⟨rfl, rfl⟩⟩⟩
theorem prods_call (a b c d e : Value) (p : Option Addr) (n m : Nat) : CallS Try.prog 116 #[.agg #[a, b, c, d, e, .slice p n m]] E L (fun r E' L' => ∃ b, r = .func (.func 136) #[] #[.pointer (some ⟨b, 0, none⟩)] ∧ E = E' ∧ L' = .blk b (.cells #[.slice p n m] 24 (0, 0)) :: L) := by
  refine CallS.intro (l := [.agg #[a, b, c, d, e, .slice p n m]]) _ Try.func116 rfl Try.ntmps116 rfl ?_
  refine G_seq (G_region ?_)
  (refine G_boxA rfl rfl rfl rfl (.none rfl) ?_; intro b1)
  refine G_val (V_assign rfl rfl) rfl rfl (.none rfl) ?_
  refine G_end (X_then (G_seq (G_region ?_)))
  refine G_val (V_fieldAddr rfl rfl (by decide)) rfl rfl (.none rfl) ?_
  refine G_val (V_load rfl rfl (Cell.own (.head _) rfl)) rfl rfl (.none rfl) ?_
  refine G_call (k := 131) (.mk rfl rfl rfl rfl) rfl rfl (.none rfl) (All_call _ _ _ _ _) ?_
  rintro r1 E2 L3 hE4 ⟨z5, ⟨rfl, ⟨rfl, rfl⟩⟩⟩
  refine G_val (V_assign rfl rfl) rfl rfl (.none rfl) ?_
  refine G_end (X_then (G_ret ?_))
  refine G_leaveS (.keep _ (.drop _ (.nil _))) (by exact (.cons (.tmp rfl) (.nil))) rfl ?_ ?_
  · exact (.refl _)
  exact ⟨_, ⟨rfl, ⟨rfl, rfl⟩⟩⟩
end
end Go.Proofs.Ytaoinojdijbhaaa
