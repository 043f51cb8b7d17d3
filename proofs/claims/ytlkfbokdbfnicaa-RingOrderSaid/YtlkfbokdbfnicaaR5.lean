import Derived.Test.YtlkfbokdbfnicaaSep19
import Derived.Test.YtlkfbokdbfnicaaInst
import Derived.Test.YtlkfbokdbfnicaaR4
set_option linter.unusedSimpArgs false
set_option linter.unusedVariables false
set_option maxHeartbeats 2000000
set_option maxRecDepth 20000
namespace Go.Proofs.Ytlkfbokdbfnicaa
open Go.RowKit

def tk0 : Tok := ⟨0, [], 0⟩
/-- The tokens with their numbers, from the last of the first k on. -/
def bk (l : List Tok) : Nat → List (Nat × Tok)
  | 0 => []
  | k + 1 => (k, l.getD k tk0) :: bk l k
abbrev bkEnc (x : Nat × Tok) : List Value := [.int .i64 (x.1 : Int), x.2.v]
theorem iter_back (c : Nat) (p : Option Addr) (cc : Nat) (l : List Tok) (E : Env) (hl : SlE E 3 p l.length (toks l)) (hn : l.length ≤ 1000) :
    Iter Try.prog 103 #[.pointer (some ⟨c, 0, none⟩)] (fun x => (bkEnc x).toArray) (bk l l.length) E [.blk c (.cells #[.slice p l.length cc] 48 (0, 0))] := by
  intro y E0 L0 Inv InvX hE0 h0 hy
  replace hl := hl.mono hE0
  refine CallS.intro (L := .blk c (.cells #[.slice p l.length cc] 48 (0, 0)) :: L0) (l := [.func (.yield y) #[] #[], .pointer (some ⟨c, 0, none⟩)]) _ Try.func103 rfl Try.ntmps103 rfl ?_
  refine G_seq ?_
  refine G_region ?_
  refine G_val (V_load rfl rfl (Cell.own1 (.head _))) rfl rfl (.none rfl) ?_
  refine G_val (V_lenS rfl rfl) rfl rfl (.none rfl) ?_
  refine G_val (V_sub_i64 rfl rfl rfl (by omega) (by omega)) rfl rfl (.none rfl) ?_
  refine G_val (V_assign rfl rfl) rfl rfl (.none rfl) ?_
  refine G_end ?_
  refine X_then ?_
  refine G_block ?_
  refine G_loop (α := List (Nat × Tok) × Nat × Env × List Res) (fun x => [(0, .func (.yield y) #[] #[]), (1, .pointer (some ⟨c, 0, none⟩)), (3, .int .i64 ((x.2.1 : Int) - 1))]) (fun x => x.2.2.1) (fun x => .blk c (.cells #[.slice p l.length cc] 48 (0, 0)) :: x.2.2.2)
    (fun x => E0.Le x.2.2.1 ∧ x.2.1 ≤ l.length ∧ bk l l.length = x.1 ++ bk l x.2.1 ∧ Inv x.1 x.2.2.1 x.2.2.2) (fun x => x.2.1) ([], l.length, E0, L0)
    ⟨.refl _, Nat.le_refl _, rfl, h0⟩ ⟨rfl, rfl, rfl, trivial⟩ rfl rfl ?_
  rintro ⟨pre, k, E, L⟩ ⟨hE, hk, hv, hI⟩
  simp only at hE hk hv hI ⊢
  replace hl := hl.mono hE
  cases k with
  | zero =>
    refine G_seq ?_
    refine G_seq ?_
    refine G_region ?_
    refine G_val (V_move rfl rfl) rfl rfl (.none rfl) ?_
    refine G_val (V_geq rfl rfl rfl) rfl rfl (.none rfl) ?_
    refine G_end ?_
    refine X_then ?_
    refine G_cond_f rfl (by kernel_rfl) ?_
    refine G_exit ?_
    refine X_then_exit ?_
    refine X_then_exit ?_
    refine X_block_hit ?_
    exact G_leave_n 0 .nil rfl hE ⟨[_], L, rfl, .inl (by rw [hv, bk, List.append_nil]; exact hI)⟩
  | succ k =>
    have hk1 : k < l.length := by omega
    have hx := toks_get (List.getElem?_eq_getElem hk1)
    have hge : l.getD k tk0 = l[k] := by simp [List.getD, List.getElem?_eq_getElem hk1]
    have hpre : pre ++ [(k, l[k])] <+: bk l l.length := by rw [hv, bk, hge]; exact ⟨bk l k, by simp⟩
    refine G.spell 3 (.int .i64 (k : Int)) rfl (by congr 1; omega) ?_
    refine G_seq ?_
    refine G_seq ?_
    refine G_region ?_
    refine G_val (V_move rfl rfl) rfl rfl (.none rfl) ?_
    refine G_val (V_geq rfl rfl rfl) rfl rfl (.none rfl) ?_
    refine G_end ?_
    refine X_then ?_
    refine G_cond_t rfl (decide_eq_true (by omega)) ?_
    refine G_skip ?_
    refine X_then ?_
    refine G_seq ?_
    refine G_block ?_
    refine G_seq ?_
    refine G_region ?_
    refine G_val (V_move rfl rfl) rfl rfl (.none rfl) ?_
    refine G_val (V_move rfl rfl) rfl rfl (.none rfl) ?_
    refine G_val (V_load rfl rfl (Cell.own1 (.head _))) rfl rfl (.none rfl) ?_
    refine G_val (V_move rfl rfl) rfl rfl (.none rfl) ?_
    refine G_val (V_idxAddr rfl rfl rfl (SlE.rd (by assumption)) (by omega) (by omega)) rfl rfl (.none rfl) ?_
    refine G_val (V_loadAS rfl rfl (SlE.rd (by assumption)) (by assumption) (by simp) (by rfl)) rfl rfl (.none rfl) ?_
    refine G_yield (.mk rfl rfl rfl rfl) rfl rfl (.none rfl) (hy pre (k, l[k]) E L [_] hE hpre hI) ?_
    rintro r E' L' hE' ⟨L3, rfl, (⟨rfl, hI'⟩ | ⟨rfl, hI'⟩)⟩
    · refine G_val (V_not rfl rfl) rfl rfl (.none rfl) ?_
      refine G_end ?_
      refine X_then ?_
      refine G_cond_f rfl (by kernel_rfl) ?_
      refine G_skip ?_
      refine X_block ?_
      refine X_then ?_
      refine G_region ?_
      refine G_val (V_move rfl rfl) rfl rfl (.none rfl) ?_
      refine G_val (V_sub_i64 rfl rfl rfl (by omega) (by omega)) rfl rfl (.none rfl) ?_
      refine G_val (V_assign rfl rfl) rfl rfl (.none rfl) ?_
      refine G_end ?_
      refine X_then ?_
      exact G_again (pre ++ [(k, l[k])], k, E', L3) ⟨hE.trans hE', by simp only; omega, by rw [hv, bk, hge]; simp, hI'⟩ (by simp) ⟨rfl, rfl, rfl, trivial⟩ rfl rfl
    · refine G_val (V_not rfl rfl) rfl rfl (.none rfl) ?_
      refine G_end ?_
      refine X_then ?_
      refine G_cond_t rfl (by kernel_rfl) ?_
      refine G_ret ?_
      refine X_block_ret ?_
      refine X_then_ret ?_
      refine X_then_ret ?_
      refine X_block_ret ?_
      exact G_leave_n 0 .nil rfl (hE.trans hE') ⟨[_], L3, rfl, .inr ⟨_, hpre, hI'⟩⟩
theorem Backward_call (E : Env) (L : List Res) (p : Option Addr) (n c : Nat) : CallS Try.prog 81 #[.slice p n c] E L (fun r E' L' => ∃ b, r = .func (.func 103) #[] #[.pointer (some ⟨b, 0, none⟩)] ∧ E = E' ∧ L' = .blk b (.cells #[.slice p n c] 48 (0, 0)) :: L) := by
  refine CallS.intro (l := [.slice p n c]) _ Try.func81 rfl Try.ntmps81 rfl ?_
  refine G_seq ?_
  refine G_region ?_
  (refine G_box1 rfl rfl rfl rfl rfl (.none rfl) ?_; intro b1)
  refine G_val (V_assign rfl rfl) rfl rfl (.none rfl) ?_
  refine G_end ?_
  refine X_then ?_
  refine G_seq ?_
  refine G_region ?_
  refine G_val (V_makeFunc rfl rfl rfl) rfl rfl (.none rfl) ?_
  refine G_val (V_assign rfl rfl) rfl rfl (.none rfl) ?_
  refine G_end ?_
  refine X_then ?_
  refine G_ret ?_
  refine G_leaveS (.keep _ (.nil _)) (by exact (.cons (.tmp rfl) (.nil))) rfl ?_ ?_
  · exact (.refl _)
  exact ⟨_, ⟨rfl, ⟨rfl, rfl⟩⟩⟩

/-- From the last token on: each ends where the next one begins. -/
def solR : List (Nat × Tok) → Int → Option Int
  | [], at1 => some at1
  | x :: r, at1 => if tbeh x.2 = at1 then solR r x.2.at' else none
theorem solR_append (a b : List (Nat × Tok)) : ∀ at1, solR (a ++ b) at1 = (solR a at1).bind (solR b) := by
  induction a with
  | nil => intro at1; rfl
  | cons x a ih =>
    intro at1
    simp only [List.cons_append, solR]
    split
    · exact ih _
    · rfl
def solB (l : List Tok) (at1 : Int) : Bool := (solR (bk l l.length) at1).isSome
theorem bk_mem (l : List Tok) : ∀ k, k ≤ l.length → ∀ x, x ∈ bk l k → x.2 ∈ l := by
  intro k
  induction k with
  | zero => intro _ x hx; cases hx
  | succ k ih =>
    intro hk x hx
    rcases List.mem_cons.1 hx with rfl | hx
    · have h1 : k < l.length := by omega
      simp only [List.getD, List.getElem?_eq_getElem h1, Option.getD_some]
      exact List.getElem_mem h1
    · exact ih (by omega) x hx

theorem Solid_call (E : Env) (L : List Res) (k terms : Int) (p : Option Addr) (n c : Nat) (e ea : Int) (he : e = 0) (l : List Tok) (hl : SlE E 3 p n (toks l)) (hg : gringB k terms l e ea = true) (at1 : Int) (ha0 : 0 ≤ at1) (ha1 : at1 ≤ 1099511627776) :
    CallV Try.prog 41 #[.int .i64 k, .int .i64 terms, .agg #[.slice p n c, .int .i64 e, .int .i64 ea], .int .i64 at1] E L (.tuple #[.bool (solB l at1), .int .i64 0]) := by
  have e1 := hl.nT
  subst e1 he
  obtain ⟨g1, g2, g3, g4, g5, g6, g7, g8, g9, g10, g11, g12, g13⟩ := gring_iff.1 hg
  refine CallS.toV (CallS.intro (l := [.int .i64 k, .int .i64 terms, .agg #[.slice p l.length c, .int .i64 0, .int .i64 ea], .int .i64 at1]) _ Try.func41 rfl Try.ntmps41 rfl ?_)
  refine G_seq ?_
  refine G_region ?_
  (refine G_boxA rfl rfl rfl rfl (.none rfl) ?_; intro b6)
  (refine G_box1 rfl rfl rfl rfl rfl (.none rfl) ?_; intro b7)
  (refine G_alloc rfl rfl rfl (.none rfl) ?_; intro b8)
  (refine G_alloc rfl rfl rfl (.none rfl) ?_; intro b9)
  refine G_end ?_
  refine X_then ?_
  refine G_seq ?_
  refine G_region ?_
  refine G_val (V_move rfl rfl) rfl rfl (.none rfl) ?_
  refine G_val (V_move rfl rfl) rfl rfl (.none rfl) ?_
  refine G_val (V_loadA rfl rfl (Cells.own (.tail _ (.tail _ (.tail _ (.head _))))) rfl) rfl rfl (.none rfl) ?_
  refine G_callv (k := 50) (.mk rfl rfl rfl rfl) rfl rfl (.none rfl) (Check_call _ _ _ _ _ _ _ _ (by first | assumption | exact SlE.toI (by assumption) rfl | exact SlE.toS (by assumption) rfl | exact SlE.toT (by assumption) rfl | exact SlE.nilT | exact (rfl : (_ : Option _) = some _) | exact .head _ | exact .tail _ (.head _) | exact .tail _ (.tail _ (.head _)) | exact .tail _ (.tail _ (.tail _ (.head _))) | omega | (simp; omega) | (simp; done) | exact (by kernel_rfl : (_ : Bool) = _)) _ _ (by first | assumption | exact SlE.toI (by assumption) rfl | exact SlE.toS (by assumption) rfl | exact SlE.toT (by assumption) rfl | exact SlE.nilT | exact (rfl : (_ : Option _) = some _) | exact .head _ | exact .tail _ (.head _) | exact .tail _ (.tail _ (.head _)) | exact .tail _ (.tail _ (.tail _ (.head _))) | omega | (simp; omega) | (simp; done) | exact (by kernel_rfl : (_ : Bool) = _))) ?_
  refine G_val (V_assign rfl rfl) rfl rfl (.none rfl) ?_
  refine G_end ?_
  refine X_then ?_
  refine G_seq ?_
  refine G_seq ?_
  refine G_region ?_
  refine G_val (V_move rfl rfl) rfl rfl (.none rfl) ?_
  refine G_val (V_eql rfl rfl rfl) rfl rfl (.none rfl) ?_
  refine G_val (V_move rfl rfl) rfl rfl (.none rfl) ?_
  refine G.bool_t 19 rfl (by kernel_rfl) ?_
  refine G_val (V_load rfl rfl (Cell.own1 (.tail _ (.tail _ (.head _))))) rfl rfl (.yes rfl rfl rfl rfl) ?_
  refine G_val (V_lss rfl rfl rfl) rfl rfl (.yes rfl rfl rfl rfl) ?_
  refine G_val (V_move rfl rfl) rfl rfl (.yes rfl rfl rfl rfl) ?_
  refine G.bool_f 22 rfl (decide_eq_false (by omega)) ?_
  refine G_val (V_load rfl rfl (Cell.own1 (.tail _ (.tail _ (.head _))))) rfl rfl (.yes rfl rfl rfl rfl) ?_
  refine G_val (V_gtr rfl rfl rfl) rfl rfl (.yes rfl rfl rfl rfl) ?_
  refine G_val (V_pick_f rfl rfl rfl) rfl rfl (.yes rfl rfl rfl rfl) ?_
  refine G_val (V_pick_t rfl rfl rfl) rfl rfl (.none rfl) ?_
  refine G_end ?_
  refine X_then ?_
  refine G_cond_f rfl (decide_eq_false (by omega)) ?_
  refine G_skip ?_
  refine X_then ?_
  refine G_seq ?_
  refine G_seq ?_
  refine G_region ?_
  refine G_val (V_move rfl rfl) rfl rfl (.none rfl) ?_
  refine G_val (V_neq rfl rfl rfl) rfl rfl (.none rfl) ?_
  refine G_end ?_
  refine X_then ?_
  refine G_cond_f rfl (by kernel_rfl) ?_
  refine G_skip ?_
  refine X_then ?_
  refine G_seq ?_
  refine G_seq ?_
  refine G_region ?_
  refine G_val (V_fieldAddr rfl rfl (by decide)) rfl rfl (.none rfl) ?_
  refine G_val (V_load rfl rfl (Cell.own (.tail _ (.tail _ (.tail _ (.head _)))) rfl)) rfl rfl (.none rfl) ?_
  refine G_val (V_neq rfl rfl rfl) rfl rfl (.none rfl) ?_
  refine G_end ?_
  refine X_then ?_
  refine G_cond_f rfl (by kernel_rfl) ?_
  refine G_skip ?_
  refine X_then ?_
  refine G_seq ?_
  refine G_seq ?_
  refine G_region ?_
  refine G_val (V_fieldAddr rfl rfl (by decide)) rfl rfl (.none rfl) ?_
  refine G_val (V_load rfl rfl (Cell.own (.tail _ (.tail _ (.tail _ (.head _)))) rfl)) rfl rfl (.none rfl) ?_
  refine G_call (k := 81) (.mk rfl rfl rfl rfl) rfl rfl (.none rfl) (Backward_call _ _ _ _ _) ?_
  rintro r1 E2 L3 hE4 ⟨z5, ⟨rfl, ⟨rfl, rfl⟩⟩⟩
  replace hl := hl.mono hE4
  refine G_end ?_
  refine X_then ?_
  refine G_block ?_
  have hmem := bk_mem l l.length (Nat.le_refl _)
  refine G_rangeI (σ := Int) (enc := bkEnc) rfl (iter_back z5 p c l E hl (by omega)) (fun _ => E) (fun a => .blk b9 (.cells #[.int .i64 0] 23 (0, 0)) :: .blk b8 (.cells #[.bool false] 4 (0, 0)) :: .blk b7 (.cells #[.int .i64 a] 3 (0, 0)) :: .blk b6 (.cells #[.slice p l.length c, .int .i64 0, .int .i64 ea] 50 (0, 0)) :: L)
    (fun pre a => solR pre at1 = some a ∧ 0 ≤ a ∧ a ≤ 1099511627776) (fun q pre _ => q = .ret ∧ solR pre at1 = none) at1 ⟨rfl, ha0, ha1⟩ rfl (.refl _) rfl (fun _ => rfl) ?_ ?_ ?_
  · rintro y D tm fn M pre ⟨i, t⟩ a hpre ⟨hs, hs0, hs1⟩ hE
    obtain ⟨q1, q2, q3, q4, q5⟩ := tokB_iff.1 (show tokB terms t = true from g6 _ (hmem (i, t) (hpre.subset (by simp))))
    have hst : solR (pre ++ [(i, t)]) at1 = if tbeh t = a then some t.at' else none := by rw [solR_append, hs]; simp [solR]
    simp only [List.cons_append]
    dsimp only [bkEnc]
    refine G_region ?_
    (refine G_alloc rfl rfl rfl (.none rfl) ?_; intro b12)
    refine G_storeA rfl rfl rfl rfl (by simp [Value.oneCell']) rfl (.none rfl) (.head _ _ _) rfl ?_
    refine G_end ?_
    refine X_then ?_
    refine G_begin (.tail _ (.head _ _ _)) ?_
    by_cases hh : tbeh t = a
    · have hh' : t.at' + (2 + t.text.length) = a := hh
      refine G_block ?_
      refine G_seq ?_
      refine G_seq ?_
      refine G_draw mixed (by kernel_rfl) ?_
      refine Q_val (V_loadA rfl rfl (Cells.own (.head _)) rfl) rfl rfl (.none rfl) ?_
      refine Q_callv (k := 82) (.mk rfl rfl rfl rfl) rfl rfl (.none rfl) (behind_call _ _ _ _ _ (by first | assumption | exact SlE.toI (by assumption) rfl | exact SlE.toS (by assumption) rfl | exact SlE.toT (by assumption) rfl | exact SlE.nilT | exact (rfl : (_ : Option _) = some _) | exact .head _ | exact .tail _ (.head _) | exact .tail _ (.tail _ (.head _)) | exact .tail _ (.tail _ (.tail _ (.head _))) | omega | (simp; omega) | (simp; done) | exact (by kernel_rfl : (_ : Bool) = _)) (by first | assumption | exact SlE.toI (by assumption) rfl | exact SlE.toS (by assumption) rfl | exact SlE.toT (by assumption) rfl | exact SlE.nilT | exact (rfl : (_ : Option _) = some _) | exact .head _ | exact .tail _ (.head _) | exact .tail _ (.tail _ (.head _)) | exact .tail _ (.tail _ (.tail _ (.head _))) | omega | (simp; omega) | (simp; done) | exact (by kernel_rfl : (_ : Bool) = _)) (by first | assumption | exact SlE.toI (by assumption) rfl | exact SlE.toS (by assumption) rfl | exact SlE.toT (by assumption) rfl | exact SlE.nilT | exact (rfl : (_ : Option _) = some _) | exact .head _ | exact .tail _ (.head _) | exact .tail _ (.tail _ (.head _)) | exact .tail _ (.tail _ (.tail _ (.head _))) | omega | (simp; omega) | (simp; done) | exact (by kernel_rfl : (_ : Bool) = _))) ?_
      refine Q_val (V_load rfl rfl (Cell.own1 (.tail _ (.tail _ (.tail _ (.tail _ (.tail _ (.head _)))))))) rfl rfl (.none rfl) ?_
      refine Q_val (V_neq rfl rfl rfl) rfl rfl (.none rfl) ?_
      refine Q_end ?_
      refine X_then ?_
      refine G_cond_f rfl (decide_eq_false (by omega)) ?_
      refine G_skip ?_
      refine X_then ?_
      refine G_region ?_
      refine G_val (V_fieldAddr rfl rfl (by decide)) rfl rfl (.none rfl) ?_
      refine G_val (V_load rfl rfl (Cell.own (.head _) rfl)) rfl rfl (.none rfl) ?_
      refine G_store1 rfl rfl rfl rfl rfl rfl (.none rfl) (.tail _ (.tail _ (.tail _ (.tail _ (.tail _ (.head _ _ _)))))) ?_
      refine G_end ?_
      refine X_block ?_
      refine G.drop ?_
      exact G_rEnd t.at' ⟨by rw [hst, if_pos hh], q4, q5⟩ rfl (.refl _) rfl
    · have hh' : ¬ t.at' + (2 + t.text.length) = a := hh
      refine G_block ?_
      refine G_seq ?_
      refine G_seq ?_
      refine G_draw mixed (by kernel_rfl) ?_
      refine Q_val (V_loadA rfl rfl (Cells.own (.head _)) rfl) rfl rfl (.none rfl) ?_
      refine Q_callv (k := 82) (.mk rfl rfl rfl rfl) rfl rfl (.none rfl) (behind_call _ _ _ _ _ (by first | assumption | exact SlE.toI (by assumption) rfl | exact SlE.toS (by assumption) rfl | exact SlE.toT (by assumption) rfl | exact SlE.nilT | exact (rfl : (_ : Option _) = some _) | exact .head _ | exact .tail _ (.head _) | exact .tail _ (.tail _ (.head _)) | exact .tail _ (.tail _ (.tail _ (.head _))) | omega | (simp; omega) | (simp; done) | exact (by kernel_rfl : (_ : Bool) = _)) (by first | assumption | exact SlE.toI (by assumption) rfl | exact SlE.toS (by assumption) rfl | exact SlE.toT (by assumption) rfl | exact SlE.nilT | exact (rfl : (_ : Option _) = some _) | exact .head _ | exact .tail _ (.head _) | exact .tail _ (.tail _ (.head _)) | exact .tail _ (.tail _ (.tail _ (.head _))) | omega | (simp; omega) | (simp; done) | exact (by kernel_rfl : (_ : Bool) = _)) (by first | assumption | exact SlE.toI (by assumption) rfl | exact SlE.toS (by assumption) rfl | exact SlE.toT (by assumption) rfl | exact SlE.nilT | exact (rfl : (_ : Option _) = some _) | exact .head _ | exact .tail _ (.head _) | exact .tail _ (.tail _ (.head _)) | exact .tail _ (.tail _ (.tail _ (.head _))) | omega | (simp; omega) | (simp; done) | exact (by kernel_rfl : (_ : Bool) = _))) ?_
      refine Q_val (V_load rfl rfl (Cell.own1 (.tail _ (.tail _ (.tail _ (.tail _ (.tail _ (.head _)))))))) rfl rfl (.none rfl) ?_
      refine Q_val (V_neq rfl rfl rfl) rfl rfl (.none rfl) ?_
      refine Q_end ?_
      refine X_then ?_
      refine G_cond_t rfl (decide_eq_true (by omega)) ?_
      refine G_seq ?_
      refine G_region ?_
      refine G_store1 rfl rfl rfl rfl rfl rfl (.none rfl) (.tail _ (.tail _ (.tail _ (.tail _ (.head _ _ _))))) ?_
      refine G_store1 rfl rfl rfl rfl rfl rfl (.none rfl) (.tail _ (.tail _ (.tail _ (.head _ _ _)))) ?_
      refine G_end ?_
      refine X_then ?_
      refine G_ret ?_
      refine X_then_ret ?_
      refine X_block_ret ?_
      refine G.drop ?_
      exact G_rRet a ⟨rfl, by rw [hst, if_neg hh]⟩ rfl (.refl _) rfl
  · rintro D a ⟨hs, hs0, hs1⟩ hE
    have : solB l at1 = true := by rw [solB, hs]; rfl
    rw [this]
    refine X_block ?_
    refine X_then ?_
    refine G_seq ?_
    refine G_region ?_
    refine G_store1 rfl rfl rfl rfl rfl rfl (.none rfl) (.tail _ (.tail _ (.head _ _ _))) ?_
    refine G_store1 rfl rfl rfl rfl rfl rfl (.none rfl) (.tail _ (.head _ _ _)) ?_
    refine G_end ?_
    refine X_then ?_
    refine G_ret ?_
    refine G_leave_ms [D] ?_
    refine G_leaveS (.drop _ (.drop _ (.drop _ (.drop _ (.nil _))))) (by exact (.cons (.cell1 rfl (Cell.own1 (.tail _ (.head _)))) (.cons (.cell1 rfl (Cell.own1 (.head _))) (.nil)))) rfl ?_ ?_
    · exact (.refl _)
    exact ⟨(by kernel_rfl), rfl⟩
  · rintro D q pre a hpre ⟨rfl, hs⟩ hE
    have : solB l at1 = false := by
      obtain ⟨t, ht⟩ := hpre
      rw [solB, ← ht, solR_append, hs]; rfl
    rw [this]
    refine G_ret ?_
    refine X_block_ret ?_
    refine X_then_ret ?_
    refine G_leave_ms [D] ?_
    refine G_leaveS (.drop _ (.drop _ (.drop _ (.drop _ (.nil _))))) (by exact (.cons (.cell1 rfl (Cell.own1 (.tail _ (.head _)))) (.cons (.cell1 rfl (Cell.own1 (.head _))) (.nil)))) rfl ?_ ?_
    · exact (.refl _)
    exact ⟨(by kernel_rfl), rfl⟩
end Go.Proofs.Ytlkfbokdbfnicaa
