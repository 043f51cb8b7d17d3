import Derived.Test.YtlkfbokdbfnicaaSep17
import Derived.Test.YtlkfbokdbfnicaaInst
import Derived.Test.YtlkfbokdbfnicaaC11
import Derived.Test.YtlkfbokdbfnicaaC14
set_option linter.unusedSimpArgs false
set_option linter.unusedVariables false
set_option maxHeartbeats 2000000
set_option maxRecDepth 20000
namespace Go.Proofs.Ytlkfbokdbfnicaa
open Go.RowKit

def unI : List Value → Option (List Int)
  | [] => some []
  | .int .i64 n :: l => (unI l).map (n :: ·)
  | _ :: _ => none
theorem unI_eq : ∀ (vs : List Value) (xs : List Int), unI vs = some xs → vs = i64s xs := by
  intro vs
  induction vs with
  | nil => intro xs h; simp only [unI, Option.some.injEq] at h; subst h; rfl
  | cons v vs ih =>
    intro xs h
    unfold unI at h
    split at h
    · rename_i h0; cases h0
    · rename_i n l h0
      cases h0
      simp only [Option.map_eq_some_iff] at h
      obtain ⟨ys, h1, rfl⟩ := h
      rw [ih ys h1]; rfl
    · cases h
theorem SlE.toI {E : Env} {p : Option Addr} {n : Nat} {vs : List Value} {xs : List Int} (h : SlE E 1 p n vs) (hx : unI vs = some xs) : SlE E 1 p n (i64s xs) := by rw [← unI_eq vs xs hx]; exact h
def unS : List Value → Option (List (List UInt8))
  | [] => some []
  | .string s :: l => (unS l).map (s.data.toList :: ·)
  | _ :: _ => none
theorem unS_eq : ∀ (vs : List Value) (xs : List (List UInt8)), unS vs = some xs → vs = strs xs := by
  intro vs
  induction vs with
  | nil => intro xs h; simp only [unS, Option.some.injEq] at h; subst h; rfl
  | cons v vs ih =>
    intro xs h
    unfold unS at h
    split at h
    · rename_i h0; cases h0
    · rename_i n l h0
      cases h0
      simp only [Option.map_eq_some_iff] at h
      obtain ⟨ys, h1, rfl⟩ := h
      rw [ih ys h1]; rfl
    · cases h
theorem SlE.toS {E : Env} {p : Option Addr} {n : Nat} {vs : List Value} {xs : List (List UInt8)} (h : SlE E 1 p n vs) (hx : unS vs = some xs) : SlE E 1 p n (strs xs) := by rw [← unS_eq vs xs hx]; exact h
theorem SlE.nI {E : Env} {p : Option Addr} {n : Nat} {xs : List Int} (h : SlE E 1 p n (i64s xs)) : n = xs.length := by have := h.1; simp [i64s] at this; exact this.symm
theorem SlE.nS {E : Env} {p : Option Addr} {n : Nat} {xs : List (List UInt8)} (h : SlE E 1 p n (strs xs)) : n = xs.length := by have := h.1; simp [strs] at this; exact this.symm

theorem SameInts_call' (E : Env) (L : List Res) (p q : Option Addr) (n m c d : Nat) (xs ys : List Int) (hx : SlE E 1 p n (i64s xs)) (hy : SlE E 1 q m (i64s ys)) (hn : n ≤ 9223372036854775806) (hm : m ≤ 9223372036854775806) :
    CallV Try.prog 31 #[.slice p n c, .slice q m d] E L (.bool (decide (xs = ys))) := by
  have e1 := hx.nI; have e2 := hy.nI; subst e1 e2; exact SameInts_call E L p q c d xs ys hx hy hn hm
theorem SameTexts_call' (E : Env) (L : List Res) (p q : Option Addr) (n m c d : Nat) (xs ys : List (List UInt8)) (hx : SlE E 1 p n (strs xs)) (hy : SlE E 1 q m (strs ys)) (hn : n ≤ 9223372036854775806) (hm : m ≤ 9223372036854775806) :
    CallV Try.prog 30 #[.slice p n c, .slice q m d] E L (.bool (decide (xs = ys))) := by
  have e1 := hx.nS; have e2 := hy.nS; subst e1 e2; exact SameTexts_call E L p q c d xs ys hx hy hn hm
theorem PutString_call' (E : Env) (L : List Res) (s : List UInt8) (m e : Int) (p : Option Addr) (n c : Nat) (l : List (List UInt8)) (hl : SlE E 1 p n (strs l)) (hs : s.length ≤ 1000000000000) (hn : n ≤ 100000000) (hls : ∀ s, s ∈ l → s.length ≤ 1000000000) :
    CallV Try.prog 24 #[.agg #[.string (S s), .int .i64 m, .int .i64 e], .slice p n c] E L (wput (wstart ⟨s, m, e⟩) (lens l)).v := by
  have e1 := hl.nS; subst e1; exact PutString_call E L s hs m e p c l hl hn hls
theorem PutInts_call' (E : Env) (L : List Res) (s : List UInt8) (m e : Int) (p : Option Addr) (n c : Nat) (l : List Int) (hl : SlE E 1 p n (i64s l)) (hs : s.length ≤ 1000000000000) (hn : n ≤ 100000000) (hls : ∀ n, n ∈ l → -9223372036854775808 ≤ n ∧ n ≤ 9223372036854775807) :
    CallV Try.prog 26 #[.agg #[.string (S s), .int .i64 m, .int .i64 e], .slice p n c] E L (wput (wstart ⟨s, m, e⟩) (zigs l)).v := by
  have e1 := hl.nI; subst e1; exact PutInts_call E L s hs m e p c l hl hn hls

@[simp] theorem rbegin_len (q : Rdr) : (rbegin q).s.length ≤ 1000000000000 := by have := (rbegin_ok q).1; omega
@[simp] theorem wstart_len (q : Wrt) : (wstart q).s.length ≤ 1000000000000 := by have := wstart_ok q; simp only [Wrt.ok] at this; omega
theorem rfield_s {α : Type} (q : Rdr) (f : Rdr × α) (z : α) (h : f.1.s = q.s) : (rfield q f z).1.s = q.s := by
  unfold rfield rback
  split
  · split <;> exact h
  · rfl
@[simp] theorem rfield_rnum_s (q : Rdr) (a b o z : Int) : (rfield q (rnum q a b o) z).1.s = q.s := rfield_s _ _ _ (by unfold rnum; split; rfl; split; exact rwide_s q; exact rwide_s q)
@[simp] theorem rfield_rwd_s (q : Rdr) (a z : Nat) : (rfield q (rwd q a) z).1.s = q.s := rfield_s _ _ _ (by unfold rwd; split; exact rwide_s q; exact rwide_s q)
theorem rtake_s (q : Rdr) (n : Int) : (rtake q n).1.s = q.s := by unfold rtake; split <;> rfl
@[simp] theorem rfield_rstr_s (q : Rdr) (a : Int) (o z : List UInt8) : (rfield q (rstr q a o) z).1.s = q.s := rfield_s _ _ _ (by
  unfold rstr
  split; rfl
  split; exact rwide_s q
  split; exact rwide_s q
  split; exact rwide_s q
  rw [rtake_s]; exact rwide_s q)
@[simp] theorem rfield_rfix_s (q : Rdr) (a : Int) (o z : List UInt8) : (rfield q (rfix q a o) z).1.s = q.s := rfield_s _ _ _ (by unfold rfix; split; rfl; exact rtake_s q a)
theorem rone_s (q : Rdr) (a b : Int) : (rone q a b).1.s = q.s := by unfold rone; split <;> exact rwide_s q
theorem rintsK_s (a b : Int) : ∀ (k : Nat) (q : Rdr) (o : List Int), (rintsK a b k q o).1.s = q.s := by
  intro k
  induction k with
  | zero => intro q o; rfl
  | succ k ih =>
    intro q o
    unfold rintsK
    split
    · rw [ih]; exact rone_s q a b
    · exact rone_s q a b
@[simp] theorem rfield_rints_s (q : Rdr) (a b c : Int) (z : List Int) : (rfield q (rints q a b c) z).1.s = q.s := rfield_s _ _ _ (by
  unfold rints
  split; rfl
  split; exact rwide_s q
  split; exact rwide_s q
  rw [rintsK_s]; exact rwide_s q)
theorem wput_ok {q : Wrt} (h : q.ok) (l : List (List UInt8)) : (wput q l).ok := by
  unfold wput
  simp only [Wrt.ok] at h ⊢
  split
  · exact h
  · split
    · simp only; omega
    · simp only [List.length_append]; omega
@[simp] theorem wput_len (q : Wrt) (l : List (List UInt8)) : (wput (wstart q) l).s.length ≤ 1000000000000 := by
  have := wput_ok (wstart_ok q) l
  simp only [Wrt.ok] at this; omega

theorem stays_call (E : Env) (L : List Res) (s : List UInt8) (a e f e' f' : Int) :
    CallV Try.prog 55 #[.agg #[.string (S s), .int .i64 a, .int .i64 e, .int .i64 f], .int .i64 e', .int .i64 f'] E L (.bool (decide (e = e' ∧ f = f'))) := by
  refine CallS.toV (CallS.intro (l := [.agg #[.string (S s), .int .i64 a, .int .i64 e, .int .i64 f], .int .i64 e', .int .i64 f']) _ Try.func55 rfl Try.ntmps55 rfl ?_)
  refine G_seq ?_
  refine G_region ?_
  (refine G_boxA rfl rfl rfl rfl (.none rfl) ?_; intro b3)
  refine G_val (V_assign rfl rfl) rfl rfl (.none rfl) ?_
  refine G_end ?_
  refine X_then ?_
  refine G_seq ?_
  refine G_region ?_
  refine G_val (V_fieldAddr rfl rfl (by decide)) rfl rfl (.none rfl) ?_
  refine G_val (V_loadF rfl rfl (.head _) (by simp only [Nat.zero_add, List.drop_succ_cons, List.drop_zero, List.take_succ_cons, List.take_zero]; rfl) (by rfl)) rfl rfl (.none rfl) ?_
  refine G_val (V_move rfl rfl) rfl rfl (.none rfl) ?_
  refine G_val (V_move rfl rfl) rfl rfl (.none rfl) ?_
  refine G_val (V_build rfl rfl (by simp [fillV, setLs, setL, Value.cells]; rfl)) rfl rfl (.none rfl) ?_
  refine G_val (V_aeql_25 rfl rfl rfl) rfl rfl (.none rfl) ?_
  refine G_val (V_assign rfl rfl) rfl rfl (.none rfl) ?_
  refine G_end ?_
  refine X_then ?_
  refine G_ret ?_
  refine G_leaveS (.drop _ (.nil _)) (by exact (.cons (.tmp rfl) (.nil))) rfl ?_ ?_
  · exact (.refl _)
  exact ⟨rfl, rfl⟩
theorem done_call (E : Env) (L : List Res) (s : List UInt8) (hs : s.length ≤ 1000000000000) (m e : Int) (t : List UInt8) :
    CallV Try.prog 57 #[.agg #[.string (S s), .int .i64 m, .int .i64 e], .string (S t)] E L (.bool (decide ((wstart ⟨s, m, e⟩).e = 0) && decide ((wstart ⟨s, m, e⟩).s = t))) := by
  refine CallS.toV (CallS.intro (l := [.agg #[.string (S s), .int .i64 m, .int .i64 e], .string (S t)]) _ Try.func57 rfl Try.ntmps57 rfl ?_)
  by_cases h : (wstart ⟨s, m, e⟩).e = 0
  · refine G_seq ?_
    refine G_region ?_
    (refine G_boxA rfl rfl rfl rfl (.none rfl) ?_; intro b2)
    refine G_val (V_assign rfl rfl) rfl rfl (.none rfl) ?_
    refine G_end ?_
    refine X_then ?_
    refine G_seq ?_
    refine G_region ?_
    refine G_val (V_loadA rfl rfl (Cells.own (.head _)) rfl) rfl rfl (.none rfl) ?_
    refine G_callv (k := 18) (.mk rfl rfl rfl rfl) rfl rfl (.none rfl) (Done_call _ _ _ (by first | assumption | exact SlE.toI (by assumption) rfl | exact SlE.toS (by assumption) rfl | omega | (simp; omega) | (simp; done)) _ _) ?_
    refine G_val (V_move rfl rfl) rfl rfl (.none rfl) ?_
    refine G_val (V_extract rfl rfl rfl) rfl rfl (.none rfl) ?_
    refine G_val (V_extract rfl rfl rfl) rfl rfl (.none rfl) ?_
    refine G_val (V_assign rfl rfl) rfl rfl (.none rfl) ?_
    refine G_val (V_assign rfl rfl) rfl rfl (.none rfl) ?_
    refine G_end ?_
    refine X_then ?_
    refine G_seq ?_
    refine G_region ?_
    refine G_val (V_move rfl rfl) rfl rfl (.none rfl) ?_
    refine G_val (V_eql rfl rfl rfl) rfl rfl (.none rfl) ?_
    refine G_val (V_move rfl rfl) rfl rfl (.none rfl) ?_
    refine G.bool_t 14 rfl (decide_eq_true (by omega)) ?_
    refine G_val (V_move rfl rfl) rfl rfl (.yes rfl rfl rfl rfl) ?_
    refine G_val (V_move rfl rfl) rfl rfl (.yes rfl rfl rfl rfl) ?_
    refine G_val (V_seql rfl rfl rfl) rfl rfl (.yes rfl rfl rfl rfl) ?_
    refine G_val (V_pick_t rfl rfl rfl) rfl rfl (.none rfl) ?_
    refine G_val (V_assign rfl rfl) rfl rfl (.none rfl) ?_
    refine G_end ?_
    refine X_then ?_
    refine G_ret ?_
    refine G_leaveS (.drop _ (.nil _)) (by exact (.cons (.tmp rfl) (.nil))) rfl ?_ ?_
    · exact (.refl _)
    exact ⟨(by first | rfl | (simp (discharger := omega) only [resVal, if_pos, if_neg]; first | done | rfl) | (simp [resVal, *]; done) | ((try simp only [resVal]); (repeat' split) <;> first | rfl | (exfalso; omega) | (simp_all; done) | (simp_all; omega))), (by first | rfl | (simp (discharger := omega) only [resVal, if_pos, if_neg]; first | done | rfl) | (simp [resVal, *]; done) | ((try simp only [resVal]); (repeat' split) <;> first | rfl | (exfalso; omega) | (simp_all; done) | (simp_all; omega)))⟩
  · refine G_seq ?_
    refine G_region ?_
    (refine G_boxA rfl rfl rfl rfl (.none rfl) ?_; intro b2)
    refine G_val (V_assign rfl rfl) rfl rfl (.none rfl) ?_
    refine G_end ?_
    refine X_then ?_
    refine G_seq ?_
    refine G_region ?_
    refine G_val (V_loadA rfl rfl (Cells.own (.head _)) rfl) rfl rfl (.none rfl) ?_
    refine G_callv (k := 18) (.mk rfl rfl rfl rfl) rfl rfl (.none rfl) (Done_call _ _ _ (by first | assumption | exact SlE.toI (by assumption) rfl | exact SlE.toS (by assumption) rfl | omega | (simp; omega) | (simp; done)) _ _) ?_
    refine G_val (V_move rfl rfl) rfl rfl (.none rfl) ?_
    refine G_val (V_extract rfl rfl rfl) rfl rfl (.none rfl) ?_
    refine G_val (V_extract rfl rfl rfl) rfl rfl (.none rfl) ?_
    refine G_val (V_assign rfl rfl) rfl rfl (.none rfl) ?_
    refine G_val (V_assign rfl rfl) rfl rfl (.none rfl) ?_
    refine G_end ?_
    refine X_then ?_
    refine G_seq ?_
    refine G_region ?_
    refine G_val (V_move rfl rfl) rfl rfl (.none rfl) ?_
    refine G_val (V_eql rfl rfl rfl) rfl rfl (.none rfl) ?_
    refine G_val (V_move rfl rfl) rfl rfl (.none rfl) ?_
    refine G.bool_f 14 rfl (decide_eq_false (by omega)) ?_
    refine G_stay (.no rfl rfl rfl rfl) rfl rfl ?_
    refine G_stay (.no rfl rfl rfl rfl) rfl rfl ?_
    refine G_stay (.no rfl rfl rfl rfl) rfl rfl ?_
    refine G_val (V_pick_f rfl rfl rfl) rfl rfl (.none rfl) ?_
    refine G_val (V_assign rfl rfl) rfl rfl (.none rfl) ?_
    refine G_end ?_
    refine X_then ?_
    refine G_ret ?_
    refine G_leaveS (.drop _ (.nil _)) (by exact (.cons (.tmp rfl) (.nil))) rfl ?_ ?_
    · exact (.refl _)
    exact ⟨(by first | rfl | (simp (discharger := omega) only [resVal, if_pos, if_neg]; first | done | rfl) | (simp [resVal, *]; done) | ((try simp only [resVal]); (repeat' split) <;> first | rfl | (exfalso; omega) | (simp_all; done) | (simp_all; omega))), (by first | rfl | (simp (discharger := omega) only [resVal, if_pos, if_neg]; first | done | rfl) | (simp [resVal, *]; done) | ((try simp only [resVal]); (repeat' split) <;> first | rfl | (exfalso; omega) | (simp_all; done) | (simp_all; omega)))⟩
theorem refuses_call (E : Env) (L : List Res) (s : List UInt8) (hs : s.length ≤ 1000000000000) (m e : Int) (x : Int) :
    CallV Try.prog 58 #[.agg #[.string (S s), .int .i64 m, .int .i64 e], .int .i64 x] E L (.bool (decide ((if (wstart ⟨s, m, e⟩).e = 0 then (wstart ⟨s, m, e⟩).s else []) = []) && decide ((wstart ⟨s, m, e⟩).e = x))) := by
  refine CallS.toV (CallS.intro (l := [.agg #[.string (S s), .int .i64 m, .int .i64 e], .int .i64 x]) _ Try.func58 rfl Try.ntmps58 rfl ?_)
  refine G_seq ?_
  refine G_region ?_
  (refine G_boxA rfl rfl rfl rfl (.none rfl) ?_; intro b2)
  refine G_val (V_assign rfl rfl) rfl rfl (.none rfl) ?_
  refine G_end ?_
  refine X_then ?_
  refine G_seq ?_
  refine G_region ?_
  refine G_val (V_loadA rfl rfl (Cells.own (.head _)) rfl) rfl rfl (.none rfl) ?_
  refine G_callv (k := 18) (.mk rfl rfl rfl rfl) rfl rfl (.none rfl) (Done_call _ _ _ (by first | assumption | exact SlE.toI (by assumption) rfl | exact SlE.toS (by assumption) rfl | omega | (simp; omega) | (simp; done)) _ _) ?_
  refine G_val (V_move rfl rfl) rfl rfl (.none rfl) ?_
  refine G_val (V_extract rfl rfl rfl) rfl rfl (.none rfl) ?_
  refine G_val (V_extract rfl rfl rfl) rfl rfl (.none rfl) ?_
  refine G_val (V_assign rfl rfl) rfl rfl (.none rfl) ?_
  refine G_val (V_assign rfl rfl) rfl rfl (.none rfl) ?_
  refine G_end ?_
  refine X_then ?_
  refine G_seq ?_
  refine G_region ?_
  refine G_val (V_move rfl rfl) rfl rfl (.none rfl) ?_
  refine G_val (V_seql rfl rfl rfl) rfl rfl (.none rfl) ?_
  refine G_val (V_move rfl rfl) rfl rfl (.none rfl) ?_
  apply G_joinAnd 4 14 18 rfl
  · intro H1
    dsimp only [List.take]
    simp only [Bool.and_eq_true, Bool.or_eq_true, Bool.not_eq_true', Bool.not_eq_false', Bool.and_eq_false_iff, Bool.or_eq_false_iff, Bool.not_not, decide_eq_true_eq, decide_eq_false_iff_not, ne_eq, Decidable.not_not, Bool.decide_eq_true] at H1
    refine G_val (V_move rfl rfl) rfl rfl (.yes rfl rfl rfl rfl) ?_
    refine G_val (V_move rfl rfl) rfl rfl (.yes rfl rfl rfl rfl) ?_
    refine G_val (V_eql rfl rfl rfl) rfl rfl (.yes rfl rfl rfl rfl) ?_
    refine G_val (V_pick_t rfl rfl rfl) rfl rfl (.none rfl) ?_
    refine G_end ?_
    exact JQ_end 4 rfl rfl (by kernel_rfl)
  · intro H2
    dsimp only [List.take]
    simp only [Bool.and_eq_true, Bool.or_eq_true, Bool.not_eq_true', Bool.not_eq_false', Bool.and_eq_false_iff, Bool.or_eq_false_iff, Bool.not_not, decide_eq_true_eq, decide_eq_false_iff_not, ne_eq, Decidable.not_not, Bool.decide_eq_true] at H2
    refine G_stay (.no rfl rfl rfl rfl) rfl rfl ?_
    refine G_stay (.no rfl rfl rfl rfl) rfl rfl ?_
    refine G_stay (.no rfl rfl rfl rfl) rfl rfl ?_
    refine G_val (V_pick_f rfl rfl rfl) rfl rfl (.none rfl) ?_
    refine G_end ?_
    exact JQ_end 4 rfl rfl (by kernel_rfl)
  dsimp only [List.drop]
  refine G_val (V_assign rfl rfl) rfl rfl (.none rfl) ?_
  refine G_end ?_
  refine X_then ?_
  refine G_ret ?_
  refine G_leaveS (.drop _ (.nil _)) (by exact (.cons (.tmp rfl) (.nil))) rfl ?_ ?_
  · exact (.refl _)
  exact ⟨rfl, rfl⟩
theorem awake5_call (E : Env) (L : List Res) : CallV Try.prog 12 #[] E L (.bool true) := by
  refine CallS.toV (CallS.intro (l := []) _ Try.func12 rfl Try.ntmps12 rfl ?_)
  refine G_seq ?_
  refine G_region ?_
  refine G_val (V_assign rfl rfl) rfl rfl (.none rfl) ?_
  refine G_end ?_
  refine X_then ?_
  refine G_seq ?_
  refine G_region ?_
  refine G_callv (k := 13) (.mk rfl rfl rfl rfl) rfl rfl (.none rfl) (Read_codec_call _ _ _ (by first | assumption | exact SlE.toI (by assumption) rfl | exact SlE.toS (by assumption) rfl | omega | (simp; omega) | (simp; done))) ?_
  dsimp only [Go.Proofs.Ytlkfbokdbfnicaa.Rdr.v]
  refine G_callv (k := 51) (.mk rfl rfl rfl rfl) rfl rfl (.none rfl) (Number_call _ _ _ (by first | assumption | exact SlE.toI (by assumption) rfl | exact SlE.toS (by assumption) rfl | omega | (simp; omega) | (simp; done)) _ _ _ _ _ (by first | assumption | exact SlE.toI (by assumption) rfl | exact SlE.toS (by assumption) rfl | omega | (simp; omega) | (simp; done))) ?_
  refine G_val (V_move rfl rfl) rfl rfl (.none rfl) ?_
  refine G_val (V_extract rfl rfl rfl) rfl rfl (.none rfl) ?_
  refine G_val (V_extract rfl rfl rfl) rfl rfl (.none rfl) ?_
  (refine G_alloc rfl rfl rfl (.none rfl) ?_; intro b1)
  refine G_storeA rfl rfl rfl rfl (by simp [Value.oneCell']) rfl (.none rfl) (.head _ _ _) rfl ?_
  refine G_val (V_assign rfl rfl) rfl rfl (.none rfl) ?_
  refine G_end ?_
  refine X_then ?_
  refine G_seq ?_
  refine G_region ?_
  refine G_callv (k := 13) (.mk rfl rfl rfl rfl) rfl rfl (.none rfl) (Read_codec_call _ _ _ (by first | assumption | exact SlE.toI (by assumption) rfl | exact SlE.toS (by assumption) rfl | omega | (simp; omega) | (simp; done))) ?_
  dsimp only [Go.Proofs.Ytlkfbokdbfnicaa.Rdr.v]
  refine G_callv (k := 52) (.mk rfl rfl rfl rfl) rfl rfl (.none rfl) (String_call _ _ _ (by first | assumption | exact SlE.toI (by assumption) rfl | exact SlE.toS (by assumption) rfl | omega | (simp; omega) | (simp; done)) _ _ _ _ (by first | assumption | exact SlE.toI (by assumption) rfl | exact SlE.toS (by assumption) rfl | omega | (simp; omega) | (simp; done))) ?_
  refine G_val (V_move rfl rfl) rfl rfl (.none rfl) ?_
  refine G_val (V_extract rfl rfl rfl) rfl rfl (.none rfl) ?_
  refine G_val (V_extract rfl rfl rfl) rfl rfl (.none rfl) ?_
  (refine G_alloc rfl rfl rfl (.none rfl) ?_; intro b3)
  refine G_storeA rfl rfl rfl rfl (by simp [Value.oneCell']) rfl (.none rfl) (.head _ _ _) rfl ?_
  refine G_val (V_assign rfl rfl) rfl rfl (.none rfl) ?_
  refine G_end ?_
  refine X_then ?_
  refine G_seq ?_
  refine G_region ?_
  refine G_callv (k := 13) (.mk rfl rfl rfl rfl) rfl rfl (.none rfl) (Read_codec_call _ _ _ (by first | assumption | exact SlE.toI (by assumption) rfl | exact SlE.toS (by assumption) rfl | omega | (simp; omega) | (simp; done))) ?_
  dsimp only [Go.Proofs.Ytlkfbokdbfnicaa.Rdr.v]
  refine G_callv (k := 52) (.mk rfl rfl rfl rfl) rfl rfl (.none rfl) (String_call _ _ _ (by first | assumption | exact SlE.toI (by assumption) rfl | exact SlE.toS (by assumption) rfl | omega | (simp; omega) | (simp; done)) _ _ _ _ (by first | assumption | exact SlE.toI (by assumption) rfl | exact SlE.toS (by assumption) rfl | omega | (simp; omega) | (simp; done))) ?_
  refine G_val (V_move rfl rfl) rfl rfl (.none rfl) ?_
  refine G_val (V_extract rfl rfl rfl) rfl rfl (.none rfl) ?_
  refine G_val (V_extract rfl rfl rfl) rfl rfl (.none rfl) ?_
  (refine G_alloc rfl rfl rfl (.none rfl) ?_; intro b5)
  refine G_storeA rfl rfl rfl rfl (by simp [Value.oneCell']) rfl (.none rfl) (.head _ _ _) rfl ?_
  refine G_val (V_assign rfl rfl) rfl rfl (.none rfl) ?_
  refine G_end ?_
  refine X_then ?_
  refine G_seq ?_
  refine G_region ?_
  refine G_val (V_move rfl rfl) rfl rfl (.none rfl) ?_
  refine G_val (V_eql rfl rfl rfl) rfl rfl (.none rfl) ?_
  refine G_val (V_move rfl rfl) rfl rfl (.none rfl) ?_
  refine G_val (V_fieldAddr rfl rfl (by decide)) rfl rfl (.yes rfl rfl rfl rfl) ?_
  refine G_val (V_load rfl rfl (Cell.own (.tail _ (.tail _ (.head _))) rfl)) rfl rfl (.yes rfl rfl rfl rfl) ?_
  refine G_val (V_eql rfl rfl rfl) rfl rfl (.yes rfl rfl rfl rfl) ?_
  refine G_val (V_pick_t rfl rfl rfl) rfl rfl (.none rfl) ?_
  refine G_val (V_move rfl rfl) rfl rfl (.none rfl) ?_
  refine G_val (V_fieldAddr rfl rfl (by decide)) rfl rfl (.yes rfl rfl rfl rfl) ?_
  refine G_val (V_loadF rfl rfl (.tail _ (.tail _ (.head _))) (by simp only [Nat.zero_add, List.drop_succ_cons, List.drop_zero, List.take_succ_cons, List.take_zero]; rfl) (by rfl)) rfl rfl (.yes rfl rfl rfl rfl) ?_
  refine G_val (V_build rfl rfl (by simp [fillV, setLs, setL, Value.cells]; rfl)) rfl rfl (.yes rfl rfl rfl rfl) ?_
  refine G_val (V_aeql_25 rfl rfl rfl) rfl rfl (.yes rfl rfl rfl rfl) ?_
  refine G_val (V_pick_t rfl rfl rfl) rfl rfl (.none rfl) ?_
  refine G_val (V_move rfl rfl) rfl rfl (.none rfl) ?_
  refine G_val (V_move rfl rfl) rfl rfl (.yes rfl rfl rfl rfl) ?_
  refine G_val (V_seql rfl rfl rfl) rfl rfl (.yes rfl rfl rfl rfl) ?_
  refine G_val (V_pick_t rfl rfl rfl) rfl rfl (.none rfl) ?_
  refine G_val (V_move rfl rfl) rfl rfl (.none rfl) ?_
  refine G_val (V_fieldAddr rfl rfl (by decide)) rfl rfl (.yes rfl rfl rfl rfl) ?_
  refine G_val (V_load rfl rfl (Cell.own (.tail _ (.head _)) rfl)) rfl rfl (.yes rfl rfl rfl rfl) ?_
  refine G_val (V_eql rfl rfl rfl) rfl rfl (.yes rfl rfl rfl rfl) ?_
  refine G_val (V_pick_t rfl rfl rfl) rfl rfl (.none rfl) ?_
  refine G_val (V_move rfl rfl) rfl rfl (.none rfl) ?_
  refine G_val (V_loadA rfl rfl (Cells.own (.head _)) rfl) rfl rfl (.yes rfl rfl rfl rfl) ?_
  refine G_callv (k := 55) (.mk rfl rfl rfl rfl) rfl rfl (.yes rfl rfl rfl rfl) (stays_call _ _ _ _ _ _ _ _) ?_
  refine G_val (V_pick_t rfl rfl rfl) rfl rfl (.none rfl) ?_
  refine G_val (V_move rfl rfl) rfl rfl (.none rfl) ?_
  refine G_callv (k := 20) (.mk rfl rfl rfl rfl) rfl rfl (.yes rfl rfl rfl rfl) (Make_call _ _ _) ?_
  dsimp only [Go.Proofs.Ytlkfbokdbfnicaa.Wrt.v]
  refine G_callv (k := 22) (.mk rfl rfl rfl rfl) rfl rfl (.yes rfl rfl rfl rfl) (Put_call _ _ _ (by first | assumption | exact SlE.toI (by assumption) rfl | exact SlE.toS (by assumption) rfl | omega | (simp; omega) | (simp; done)) _ _ _ (by first | assumption | exact SlE.toI (by assumption) rfl | exact SlE.toS (by assumption) rfl | omega | (simp; omega) | (simp; done))) ?_
  dsimp only [Go.Proofs.Ytlkfbokdbfnicaa.Wrt.v]
  refine G_callv (k := 57) (.mk rfl rfl rfl rfl) rfl rfl (.yes rfl rfl rfl rfl) (done_call _ _ _ (by first | assumption | exact SlE.toI (by assumption) rfl | exact SlE.toS (by assumption) rfl | omega | (simp; omega) | (simp; done)) _ _ _) ?_
  refine G_val (V_pick_t rfl rfl rfl) rfl rfl (.none rfl) ?_
  refine G_val (V_move rfl rfl) rfl rfl (.none rfl) ?_
  refine G_callv (k := 20) (.mk rfl rfl rfl rfl) rfl rfl (.yes rfl rfl rfl rfl) (Make_call _ _ _) ?_
  dsimp only [Go.Proofs.Ytlkfbokdbfnicaa.Wrt.v]
  refine G_callv (k := 22) (.mk rfl rfl rfl rfl) rfl rfl (.yes rfl rfl rfl rfl) (Put_call _ _ _ (by first | assumption | exact SlE.toI (by assumption) rfl | exact SlE.toS (by assumption) rfl | omega | (simp; omega) | (simp; done)) _ _ _ (by first | assumption | exact SlE.toI (by assumption) rfl | exact SlE.toS (by assumption) rfl | omega | (simp; omega) | (simp; done))) ?_
  dsimp only [Go.Proofs.Ytlkfbokdbfnicaa.Wrt.v]
  refine G_callv (k := 58) (.mk rfl rfl rfl rfl) rfl rfl (.yes rfl rfl rfl rfl) (refuses_call _ _ _ (by first | assumption | exact SlE.toI (by assumption) rfl | exact SlE.toS (by assumption) rfl | omega | (simp; omega) | (simp; done)) _ _ _) ?_
  refine G_val (V_pick_t rfl rfl rfl) rfl rfl (.none rfl) ?_
  refine G_val (V_assign rfl rfl) rfl rfl (.none rfl) ?_
  refine G_end ?_
  refine X_then ?_
  refine G_ret ?_
  refine G_leaveS (.drop _ (.drop _ (.drop _ (.nil _)))) (by exact (.cons (.tmp rfl) (.nil))) rfl ?_ ?_
  · exact (.refl _)
  exact ⟨(by kernel_rfl), rfl⟩
end Go.Proofs.Ytlkfbokdbfnicaa
