import Derived.Test.YtlkfbokdbfnicaaSep17
import Derived.Test.YtlkfbokdbfnicaaInst
import Derived.Test.YtlkfbokdbfnicaaC18
set_option linter.unusedSimpArgs false
set_option linter.unusedVariables false
set_option maxHeartbeats 2000000
set_option maxRecDepth 20000
namespace Go.Proofs.Ytlkfbokdbfnicaa
open Go.RowKit

theorem lens_total (m : Nat) (l : List (List UInt8)) (h : ∀ s, s ∈ l → s.length ≤ m) : (lens l).flatten.length ≤ l.length * (10 + m) := by
  induction l with
  | nil => simp [lens]
  | cons s l ih =>
    have h1 := ih fun x hx => h x (List.mem_cons_of_mem _ hx)
    have h2 := h s (List.mem_cons_self)
    have h3 : (vbytes s.length).length ≤ 10 := vdig_len 10 s.length
    simp only [lens, List.flatMap_cons, List.flatten_append, List.flatten_cons, List.flatten_nil, List.length_append, List.length_cons, List.length_nil, Nat.succ_mul] at h1 ⊢
    omega
theorem PutString2_call' (E : Env) (L : List Res) (s : List UInt8) (m e : Int) (p : Option Addr) (n c : Nat) (l : List (List UInt8)) (hl : SlE E 1 p n (strs l)) (hs : s.length ≤ 1000000000000) (hn : n ≤ 100000000) (hls : (lens l).flatten.length ≤ 20000) :
    CallV Try.prog 25 #[.agg #[.string (S s), .int .i64 m, .int .i64 e], .slice p n c] E L (wput (wstart ⟨s, m, e⟩) (lens l)).v := by
  have e1 := hl.nS; subst e1; exact PutString2_call E L s hs m e p c l hl hn hls
theorem PutInts2_call' (E : Env) (L : List Res) (s : List UInt8) (m e : Int) (p : Option Addr) (n c : Nat) (l : List Int) (hl : SlE E 1 p n (i64s l)) (hs : s.length ≤ 1000000000000) (hn : n ≤ 20000) (hls : ∀ n, n ∈ l → -9223372036854775808 ≤ n ∧ n ≤ 9223372036854775807) :
    CallV Try.prog 27 #[.agg #[.string (S s), .int .i64 m, .int .i64 e], .slice p n c] E L (wput (wstart ⟨s, m, e⟩) (zigs l)).v := by
  have e1 := hl.nI; subst e1; exact PutInts2_call E L s hs m e p c l hl hn hls

theorem Writes5_call (E : Env) (L : List Res) (s : List UInt8) (m e : Int) (n : Nat) (hn : n < 18446744073709551616) (p : Option Addr) (cp : Nat) (texts : List (List UInt8)) (hp : SlE E 1 p texts.length (strs texts)) (htn : texts.length ≤ 9223372036854775807)
    (q : Option Addr) (cq : Nat) (nums : List Int) (hq : SlE E 1 q nums.length (i64s nums)) (hqn : nums.length ≤ 9223372036854775807) (hqb : ∀ n, n ∈ nums → -9223372036854775808 ≤ n ∧ n ≤ 9223372036854775807) (most : Int) :
    CallS Try.prog 4 #[.agg #[.string (S s), .int .i64 m, .int .i64 e], .int .u64 n, .slice p texts.length cp, .slice q nums.length cq, .int .i64 most] E L (fun r _ L' => r = .bool true ∧ L' = L) := by
  refine CallS.intro (l := [.agg #[.string (S s), .int .i64 m, .int .i64 e], .int .u64 n, .slice p texts.length cp, .slice q nums.length cq, .int .i64 most]) _ Try.func4 rfl Try.ntmps4 rfl ?_
  by_cases h1 : 100 < s.length
  · refine G_seq ?_
    refine G_region ?_
    (refine G_boxA rfl rfl rfl rfl (.none rfl) ?_; intro b5)
    refine G_val (V_assign rfl rfl) rfl rfl (.none rfl) ?_
    refine G_end ?_
    refine X_then ?_
    refine G_seq ?_
    refine G_seq ?_
    refine G_region ?_
    refine G_val (V_fieldAddr rfl rfl (by decide)) rfl rfl (.none rfl) ?_
    refine G_val (V_load rfl rfl (Cell.own (.head _) rfl)) rfl rfl (.none rfl) ?_
    refine G_val (V_len rfl rfl) rfl rfl (.none rfl) ?_
    refine G_val (V_gtr rfl rfl rfl) rfl rfl (.none rfl) ?_
    refine G_val (V_move rfl rfl) rfl rfl (.none rfl) ?_
    refine G.bool_t 21 rfl (decide_eq_true (by omega)) ?_
    refine G_stay (.no rfl rfl rfl rfl) rfl rfl ?_
    refine G_stay (.no rfl rfl rfl rfl) rfl rfl ?_
    refine G_stay (.no rfl rfl rfl rfl) rfl rfl ?_
    refine G_val (V_pick_t rfl rfl rfl) rfl rfl (.none rfl) ?_
    refine G_val (V_move rfl rfl) rfl rfl (.none rfl) ?_
    refine G_stay (.no rfl rfl rfl rfl) rfl rfl ?_
    refine G_stay (.no rfl rfl rfl rfl) rfl rfl ?_
    refine G_stay (.no rfl rfl rfl rfl) rfl rfl ?_
    refine G_val (V_pick_t rfl rfl rfl) rfl rfl (.none rfl) ?_
    refine G_val (V_move rfl rfl) rfl rfl (.none rfl) ?_
    refine G_stay (.no rfl rfl rfl rfl) rfl rfl ?_
    refine G_stay (.no rfl rfl rfl rfl) rfl rfl ?_
    refine G_stay (.no rfl rfl rfl rfl) rfl rfl ?_
    refine G_val (V_pick_t rfl rfl rfl) rfl rfl (.none rfl) ?_
    refine G_end ?_
    refine X_then ?_
    refine G_cond_t rfl rfl ?_
    refine G_seq ?_
    refine G_region ?_
    refine G_callv (k := 12) (.mk rfl rfl rfl rfl) rfl rfl (.none rfl) (awake5_call _ _) ?_
    refine G_val (V_assign rfl rfl) rfl rfl (.none rfl) ?_
    refine G_end ?_
    refine X_then ?_
    refine G_ret ?_
    refine X_then_ret ?_
    refine G_leaveS (.drop _ (.nil _)) (by exact (.cons (.tmp rfl) (.nil))) rfl ?_ ?_
    · exact (.refl _)
    exact ⟨(by kernel_rfl), rfl⟩
  by_cases h2 : 10 < texts.length
  · refine G_seq ?_
    refine G_region ?_
    (refine G_boxA rfl rfl rfl rfl (.none rfl) ?_; intro b5)
    refine G_val (V_assign rfl rfl) rfl rfl (.none rfl) ?_
    refine G_end ?_
    refine X_then ?_
    refine G_seq ?_
    refine G_seq ?_
    refine G_region ?_
    refine G_val (V_fieldAddr rfl rfl (by decide)) rfl rfl (.none rfl) ?_
    refine G_val (V_load rfl rfl (Cell.own (.head _) rfl)) rfl rfl (.none rfl) ?_
    refine G_val (V_len rfl rfl) rfl rfl (.none rfl) ?_
    refine G_val (V_gtr rfl rfl rfl) rfl rfl (.none rfl) ?_
    refine G_val (V_move rfl rfl) rfl rfl (.none rfl) ?_
    refine G.bool_f 21 rfl (decide_eq_false (by omega)) ?_
    refine G_val (V_move rfl rfl) rfl rfl (.yes rfl rfl rfl rfl) ?_
    refine G_val (V_lenS rfl rfl) rfl rfl (.yes rfl rfl rfl rfl) ?_
    refine G_val (V_gtr rfl rfl rfl) rfl rfl (.yes rfl rfl rfl rfl) ?_
    refine G_val (V_pick_f rfl rfl rfl) rfl rfl (.none rfl) ?_
    refine G_val (V_move rfl rfl) rfl rfl (.none rfl) ?_
    refine G.bool_t 26 rfl (decide_eq_true (by omega)) ?_
    refine G_stay (.no rfl rfl rfl rfl) rfl rfl ?_
    refine G_stay (.no rfl rfl rfl rfl) rfl rfl ?_
    refine G_stay (.no rfl rfl rfl rfl) rfl rfl ?_
    refine G_val (V_pick_t rfl rfl rfl) rfl rfl (.none rfl) ?_
    refine G_val (V_move rfl rfl) rfl rfl (.none rfl) ?_
    refine G_stay (.no rfl rfl rfl rfl) rfl rfl ?_
    refine G_stay (.no rfl rfl rfl rfl) rfl rfl ?_
    refine G_stay (.no rfl rfl rfl rfl) rfl rfl ?_
    refine G_val (V_pick_t rfl rfl rfl) rfl rfl (.none rfl) ?_
    refine G_end ?_
    refine X_then ?_
    refine G_cond_t rfl rfl ?_
    refine G_seq ?_
    refine G_region ?_
    refine G_callv (k := 12) (.mk rfl rfl rfl rfl) rfl rfl (.none rfl) (awake5_call _ _) ?_
    refine G_val (V_assign rfl rfl) rfl rfl (.none rfl) ?_
    refine G_end ?_
    refine X_then ?_
    refine G_ret ?_
    refine X_then_ret ?_
    refine G_leaveS (.drop _ (.nil _)) (by exact (.cons (.tmp rfl) (.nil))) rfl ?_ ?_
    · exact (.refl _)
    exact ⟨(by kernel_rfl), rfl⟩
  by_cases h3 : 30 < nums.length
  · refine G_seq ?_
    refine G_region ?_
    (refine G_boxA rfl rfl rfl rfl (.none rfl) ?_; intro b5)
    refine G_val (V_assign rfl rfl) rfl rfl (.none rfl) ?_
    refine G_end ?_
    refine X_then ?_
    refine G_seq ?_
    refine G_seq ?_
    refine G_region ?_
    refine G_val (V_fieldAddr rfl rfl (by decide)) rfl rfl (.none rfl) ?_
    refine G_val (V_load rfl rfl (Cell.own (.head _) rfl)) rfl rfl (.none rfl) ?_
    refine G_val (V_len rfl rfl) rfl rfl (.none rfl) ?_
    refine G_val (V_gtr rfl rfl rfl) rfl rfl (.none rfl) ?_
    refine G_val (V_move rfl rfl) rfl rfl (.none rfl) ?_
    refine G.bool_f 21 rfl (decide_eq_false (by omega)) ?_
    refine G_val (V_move rfl rfl) rfl rfl (.yes rfl rfl rfl rfl) ?_
    refine G_val (V_lenS rfl rfl) rfl rfl (.yes rfl rfl rfl rfl) ?_
    refine G_val (V_gtr rfl rfl rfl) rfl rfl (.yes rfl rfl rfl rfl) ?_
    refine G_val (V_pick_f rfl rfl rfl) rfl rfl (.none rfl) ?_
    refine G_val (V_move rfl rfl) rfl rfl (.none rfl) ?_
    refine G.bool_f 26 rfl (decide_eq_false (by omega)) ?_
    refine G_val (V_move rfl rfl) rfl rfl (.yes rfl rfl rfl rfl) ?_
    refine G_val (V_lenS rfl rfl) rfl rfl (.yes rfl rfl rfl rfl) ?_
    refine G_val (V_gtr rfl rfl rfl) rfl rfl (.yes rfl rfl rfl rfl) ?_
    refine G_val (V_pick_f rfl rfl rfl) rfl rfl (.none rfl) ?_
    refine G_val (V_move rfl rfl) rfl rfl (.none rfl) ?_
    refine G.bool_t 31 rfl (decide_eq_true (by omega)) ?_
    refine G_stay (.no rfl rfl rfl rfl) rfl rfl ?_
    refine G_stay (.no rfl rfl rfl rfl) rfl rfl ?_
    refine G_stay (.no rfl rfl rfl rfl) rfl rfl ?_
    refine G_val (V_pick_t rfl rfl rfl) rfl rfl (.none rfl) ?_
    refine G_end ?_
    refine X_then ?_
    refine G_cond_t rfl rfl ?_
    refine G_seq ?_
    refine G_region ?_
    refine G_callv (k := 12) (.mk rfl rfl rfl rfl) rfl rfl (.none rfl) (awake5_call _ _) ?_
    refine G_val (V_assign rfl rfl) rfl rfl (.none rfl) ?_
    refine G_end ?_
    refine X_then ?_
    refine G_ret ?_
    refine X_then_ret ?_
    refine G_leaveS (.drop _ (.nil _)) (by exact (.cons (.tmp rfl) (.nil))) rfl ?_ ?_
    · exact (.refl _)
    exact ⟨(by kernel_rfl), rfl⟩
  by_cases h4 : (texts.all fun s => decide ((s.length : Int) ≤ 60)) = false
  · refine G_seq ?_
    refine G_region ?_
    (refine G_boxA rfl rfl rfl rfl (.none rfl) ?_; intro b5)
    refine G_val (V_assign rfl rfl) rfl rfl (.none rfl) ?_
    refine G_end ?_
    refine X_then ?_
    refine G_seq ?_
    refine G_seq ?_
    refine G_region ?_
    refine G_val (V_fieldAddr rfl rfl (by decide)) rfl rfl (.none rfl) ?_
    refine G_val (V_load rfl rfl (Cell.own (.head _) rfl)) rfl rfl (.none rfl) ?_
    refine G_val (V_len rfl rfl) rfl rfl (.none rfl) ?_
    refine G_val (V_gtr rfl rfl rfl) rfl rfl (.none rfl) ?_
    refine G_val (V_move rfl rfl) rfl rfl (.none rfl) ?_
    refine G.bool_f 21 rfl (decide_eq_false (by omega)) ?_
    refine G_val (V_move rfl rfl) rfl rfl (.yes rfl rfl rfl rfl) ?_
    refine G_val (V_lenS rfl rfl) rfl rfl (.yes rfl rfl rfl rfl) ?_
    refine G_val (V_gtr rfl rfl rfl) rfl rfl (.yes rfl rfl rfl rfl) ?_
    refine G_val (V_pick_f rfl rfl rfl) rfl rfl (.none rfl) ?_
    refine G_val (V_move rfl rfl) rfl rfl (.none rfl) ?_
    refine G.bool_f 26 rfl (decide_eq_false (by omega)) ?_
    refine G_val (V_move rfl rfl) rfl rfl (.yes rfl rfl rfl rfl) ?_
    refine G_val (V_lenS rfl rfl) rfl rfl (.yes rfl rfl rfl rfl) ?_
    refine G_val (V_gtr rfl rfl rfl) rfl rfl (.yes rfl rfl rfl rfl) ?_
    refine G_val (V_pick_f rfl rfl rfl) rfl rfl (.none rfl) ?_
    refine G_val (V_move rfl rfl) rfl rfl (.none rfl) ?_
    refine G.bool_f 31 rfl (decide_eq_false (by omega)) ?_
    refine G_val (V_move rfl rfl) rfl rfl (.yes rfl rfl rfl rfl) ?_
    refine G_callv (k := 15) (.mk rfl rfl rfl rfl) rfl rfl (.yes rfl rfl rfl rfl) (Short_call _ _ _ _ _ (by first | assumption | exact SlE.toI (by assumption) rfl | exact SlE.toS (by assumption) rfl | omega | (simp; omega) | (simp; done)) (by first | assumption | exact SlE.toI (by assumption) rfl | exact SlE.toS (by assumption) rfl | omega | (simp; omega) | (simp; done)) _) ?_
    refine G_val (V_not rfl rfl) rfl rfl (.yes rfl rfl rfl rfl) ?_
    refine G_val (V_pick_f rfl rfl rfl) rfl rfl (.none rfl) ?_
    refine G_end ?_
    refine X_then ?_
    refine G_cond_t rfl (by simp [*]; done) ?_
    refine G_seq ?_
    refine G_region ?_
    refine G_callv (k := 12) (.mk rfl rfl rfl rfl) rfl rfl (.none rfl) (awake5_call _ _) ?_
    refine G_val (V_assign rfl rfl) rfl rfl (.none rfl) ?_
    refine G_end ?_
    refine X_then ?_
    refine G_ret ?_
    refine X_then_ret ?_
    refine G_leaveS (.drop _ (.nil _)) (by exact (.cons (.tmp rfl) (.nil))) rfl ?_ ?_
    · exact (.refl _)
    exact ⟨(by kernel_rfl), rfl⟩
  have h5 : ∀ t, t ∈ texts → t.length ≤ 60 := by
    simp only [Bool.not_eq_false, List.all_eq_true, decide_eq_true_eq] at h4
    intro t ht; have := h4 t ht; omega
  have h6 : ∀ t, t ∈ texts → t.length ≤ 1000000000 := fun t ht => by have := h5 t ht; omega
  have h7 : (lens texts).flatten.length ≤ 20000 := by have := lens_total 60 texts h5; omega
  have h8 : (texts.all fun s => decide ((s.length : Int) ≤ 60)) = true := by simpa using h4
  clear h4
  by_cases h9 : texts.length = 0
  · refine G_seq ?_
    refine G_region ?_
    (refine G_boxA rfl rfl rfl rfl (.none rfl) ?_; intro b5)
    refine G_val (V_assign rfl rfl) rfl rfl (.none rfl) ?_
    refine G_end ?_
    refine X_then ?_
    refine G_seq ?_
    refine G_seq ?_
    refine G_region ?_
    refine G_val (V_fieldAddr rfl rfl (by decide)) rfl rfl (.none rfl) ?_
    refine G_val (V_load rfl rfl (Cell.own (.head _) rfl)) rfl rfl (.none rfl) ?_
    refine G_val (V_len rfl rfl) rfl rfl (.none rfl) ?_
    refine G_val (V_gtr rfl rfl rfl) rfl rfl (.none rfl) ?_
    refine G_val (V_move rfl rfl) rfl rfl (.none rfl) ?_
    refine G.bool_f 21 rfl (decide_eq_false (by omega)) ?_
    refine G_val (V_move rfl rfl) rfl rfl (.yes rfl rfl rfl rfl) ?_
    refine G_val (V_lenS rfl rfl) rfl rfl (.yes rfl rfl rfl rfl) ?_
    refine G_val (V_gtr rfl rfl rfl) rfl rfl (.yes rfl rfl rfl rfl) ?_
    refine G_val (V_pick_f rfl rfl rfl) rfl rfl (.none rfl) ?_
    refine G_val (V_move rfl rfl) rfl rfl (.none rfl) ?_
    refine G.bool_f 26 rfl (decide_eq_false (by omega)) ?_
    refine G_val (V_move rfl rfl) rfl rfl (.yes rfl rfl rfl rfl) ?_
    refine G_val (V_lenS rfl rfl) rfl rfl (.yes rfl rfl rfl rfl) ?_
    refine G_val (V_gtr rfl rfl rfl) rfl rfl (.yes rfl rfl rfl rfl) ?_
    refine G_val (V_pick_f rfl rfl rfl) rfl rfl (.none rfl) ?_
    refine G_val (V_move rfl rfl) rfl rfl (.none rfl) ?_
    refine G.bool_f 31 rfl (decide_eq_false (by omega)) ?_
    refine G_val (V_move rfl rfl) rfl rfl (.yes rfl rfl rfl rfl) ?_
    refine G_callv (k := 15) (.mk rfl rfl rfl rfl) rfl rfl (.yes rfl rfl rfl rfl) (Short_call _ _ _ _ _ (by first | assumption | exact SlE.toI (by assumption) rfl | exact SlE.toS (by assumption) rfl | omega | (simp; omega) | (simp; done)) (by first | assumption | exact SlE.toI (by assumption) rfl | exact SlE.toS (by assumption) rfl | omega | (simp; omega) | (simp; done)) _) ?_
    refine G_val (V_not rfl rfl) rfl rfl (.yes rfl rfl rfl rfl) ?_
    refine G_val (V_pick_f rfl rfl rfl) rfl rfl (.none rfl) ?_
    refine G_end ?_
    refine X_then ?_
    refine G_cond_f rfl (by simp [*]; done) ?_
    refine G_skip ?_
    refine X_then ?_
    refine G_seq ?_
    refine G_region ?_
    refine G_val (V_move rfl rfl) rfl rfl (.none rfl) ?_
    refine G_call (k := 16) (.mk rfl rfl rfl rfl) rfl rfl (.none rfl) (OwnTexts_call _ _ _ _ _ (by first | assumption | exact SlE.toI (by assumption) rfl | exact SlE.toS (by assumption) rfl | omega | (simp; omega) | (simp; done)) (by first | assumption | exact SlE.toI (by assumption) rfl | exact SlE.toS (by assumption) rfl | omega | (simp; omega) | (simp; done))) ?_
    rintro r1 E2 L3 hE4 ⟨z5, ⟨z6, ⟨rfl, ⟨Z7, rfl⟩⟩⟩⟩
    replace hp := hp.mono hE4
    replace hq := hq.mono hE4
    refine G_val (V_move rfl rfl) rfl rfl (.none rfl) ?_
    refine G_call (k := 17) (.mk rfl rfl rfl rfl) rfl rfl (.none rfl) (OwnInts_call _ _ _ _ _ (by first | assumption | exact SlE.toI (by assumption) rfl | exact SlE.toS (by assumption) rfl | omega | (simp; omega) | (simp; done)) (by first | assumption | exact SlE.toI (by assumption) rfl | exact SlE.toS (by assumption) rfl | omega | (simp; omega) | (simp; done))) ?_
    rintro r8 E9 L10 hE11 ⟨z12, ⟨z13, ⟨rfl, ⟨Z14, rfl⟩⟩⟩⟩
    replace Z7 := Z7.mono hE11
    replace hp := hp.mono hE11
    replace hq := hq.mono hE11
    refine G_val (V_assign rfl rfl) rfl rfl (.none rfl) ?_
    refine G_val (V_assign rfl rfl) rfl rfl (.none rfl) ?_
    refine G_end ?_
    refine X_then ?_
    refine G_seq ?_
    refine G_region ?_
    refine G_val (V_loadA rfl rfl (Cells.own (.head _)) rfl) rfl rfl (.none rfl) ?_
    refine G_callv (k := 18) (.mk rfl rfl rfl rfl) rfl rfl (.none rfl) (Done_call _ _ _ (by first | assumption | exact SlE.toI (by assumption) rfl | exact SlE.toS (by assumption) rfl | omega | (simp; omega) | (simp; done)) _ _) ?_
    refine G_val (V_move rfl rfl) rfl rfl (.none rfl) ?_
    refine G_val (V_extract rfl rfl rfl) rfl rfl (.none rfl) ?_
    refine G_val (V_extract rfl rfl rfl) rfl rfl (.none rfl) ?_
    refine G_val (V_assign rfl rfl) rfl rfl (.none rfl) ?_
    refine G_val (V_assign rfl rfl) rfl rfl (.none rfl) ?_
    refine G_end ?_
    refine X_then ?_
    refine G_seq ?_
    refine G_region ?_
    refine G_val (V_loadA rfl rfl (Cells.own (.head _)) rfl) rfl rfl (.none rfl) ?_
    refine G_callv (k := 19) (.mk rfl rfl rfl rfl) rfl rfl (.none rfl) (Done2_call _ _ _ (by first | assumption | exact SlE.toI (by assumption) rfl | exact SlE.toS (by assumption) rfl | omega | (simp; omega) | (simp; done)) _ _) ?_
    refine G_val (V_move rfl rfl) rfl rfl (.none rfl) ?_
    refine G_val (V_extract rfl rfl rfl) rfl rfl (.none rfl) ?_
    refine G_val (V_extract rfl rfl rfl) rfl rfl (.none rfl) ?_
    refine G_val (V_assign rfl rfl) rfl rfl (.none rfl) ?_
    refine G_val (V_assign rfl rfl) rfl rfl (.none rfl) ?_
    refine G_end ?_
    refine X_then ?_
    refine G_seq ?_
    refine G_seq ?_
    refine G_draw mixed (by kernel_rfl) ?_
    refine Q_val (V_move rfl rfl) rfl rfl (.none rfl) ?_
    refine Q_val (V_move rfl rfl) rfl rfl (.none rfl) ?_
    refine Q_val (V_sneq rfl rfl rfl) rfl rfl (.none rfl) ?_
    refine Q_val (V_move rfl rfl) rfl rfl (.none rfl) ?_
    refine Q_bool_f 54 rfl (by simp [*]; done) ?_
    refine Q_val (V_move rfl rfl) rfl rfl (.yes rfl rfl rfl rfl) ?_
    refine Q_val (V_move rfl rfl) rfl rfl (.yes rfl rfl rfl rfl) ?_
    refine Q_val (V_neq rfl rfl rfl) rfl rfl (.yes rfl rfl rfl rfl) ?_
    refine Q_val (V_pick_f rfl rfl rfl) rfl rfl (.none rfl) ?_
    refine Q_val (V_move rfl rfl) rfl rfl (.none rfl) ?_
    refine Q_bool_f 59 rfl (decide_eq_false (by omega)) ?_
    refine Q_val (V_move rfl rfl) rfl rfl (.yes rfl rfl rfl rfl) ?_
    refine Q_callv (k := 20) (.mk rfl rfl rfl rfl) rfl rfl (.yes rfl rfl rfl rfl) (Make_call _ _ _) ?_
    dsimp only [Go.Proofs.Ytlkfbokdbfnicaa.Wrt.v]
    refine Q_val (V_move rfl rfl) rfl rfl (.yes rfl rfl rfl rfl) ?_
    refine Q_callv (k := 21) (.mk rfl rfl rfl rfl) rfl rfl (.yes rfl rfl rfl rfl) (Make2_call _ _ _) ?_
    dsimp only [Go.Proofs.Ytlkfbokdbfnicaa.Wrt.v]
    refine Q_val (V_aneq_31 rfl rfl rfl) rfl rfl (.yes rfl rfl rfl rfl) ?_
    refine Q_val (V_pick_f rfl rfl rfl) rfl rfl (.none rfl) ?_
    refine Q_val (V_move rfl rfl) rfl rfl (.none rfl) ?_
    refine Q_bool_f 66 rfl (by simp [*]; done) ?_
    refine Q_val (V_loadA rfl rfl (Cells.own (.head _)) rfl) rfl rfl (.yes rfl rfl rfl rfl) ?_
    refine Q_val (V_move rfl rfl) rfl rfl (.yes rfl rfl rfl rfl) ?_
    refine Q_callv (k := 22) (.mk rfl rfl rfl rfl) rfl rfl (.yes rfl rfl rfl rfl) (Put_call _ _ _ (by first | assumption | exact SlE.toI (by assumption) rfl | exact SlE.toS (by assumption) rfl | omega | (simp; omega) | (simp; done)) _ _ _ (by first | assumption | exact SlE.toI (by assumption) rfl | exact SlE.toS (by assumption) rfl | omega | (simp; omega) | (simp; done))) ?_
    dsimp only [Go.Proofs.Ytlkfbokdbfnicaa.Wrt.v]
    refine Q_val (V_loadA rfl rfl (Cells.own (.head _)) rfl) rfl rfl (.yes rfl rfl rfl rfl) ?_
    refine Q_val (V_move rfl rfl) rfl rfl (.yes rfl rfl rfl rfl) ?_
    refine Q_callv (k := 23) (.mk rfl rfl rfl rfl) rfl rfl (.yes rfl rfl rfl rfl) (Put2_call _ _ _ (by first | assumption | exact SlE.toI (by assumption) rfl | exact SlE.toS (by assumption) rfl | omega | (simp; omega) | (simp; done)) _ _ _ (by first | assumption | exact SlE.toI (by assumption) rfl | exact SlE.toS (by assumption) rfl | omega | (simp; omega) | (simp; done))) ?_
    dsimp only [Go.Proofs.Ytlkfbokdbfnicaa.Wrt.v]
    refine Q_val (V_aneq_31 rfl rfl rfl) rfl rfl (.yes rfl rfl rfl rfl) ?_
    refine Q_val (V_pick_f rfl rfl rfl) rfl rfl (.none rfl) ?_
    refine Q_val (V_move rfl rfl) rfl rfl (.none rfl) ?_
    refine Q_bool_f 75 rfl (by simp [*]; done) ?_
    refine Q_val (V_loadA rfl rfl (Cells.own (.head _)) rfl) rfl rfl (.yes rfl rfl rfl rfl) ?_
    refine Q_val (V_move rfl rfl) rfl rfl (.yes rfl rfl rfl rfl) ?_
    refine Q_callv (k := 24) (.mk rfl rfl rfl rfl) rfl rfl (.yes rfl rfl rfl rfl) (PutString_call' _ _ _ _ _ _ _ _ _ (by first | assumption | exact SlE.toI (by assumption) rfl | exact SlE.toS (by assumption) rfl | omega | (simp; omega) | (simp; done)) (by first | assumption | exact SlE.toI (by assumption) rfl | exact SlE.toS (by assumption) rfl | omega | (simp; omega) | (simp; done)) (by first | assumption | exact SlE.toI (by assumption) rfl | exact SlE.toS (by assumption) rfl | omega | (simp; omega) | (simp; done)) (by first | assumption | exact SlE.toI (by assumption) rfl | exact SlE.toS (by assumption) rfl | omega | (simp; omega) | (simp; done))) ?_
    dsimp only [Go.Proofs.Ytlkfbokdbfnicaa.Wrt.v]
    refine Q_val (V_loadA rfl rfl (Cells.own (.head _)) rfl) rfl rfl (.yes rfl rfl rfl rfl) ?_
    refine Q_val (V_move rfl rfl) rfl rfl (.yes rfl rfl rfl rfl) ?_
    refine Q_callv (k := 25) (.mk rfl rfl rfl rfl) rfl rfl (.yes rfl rfl rfl rfl) (PutString2_call' _ _ _ _ _ _ _ _ _ (by first | assumption | exact SlE.toI (by assumption) rfl | exact SlE.toS (by assumption) rfl | omega | (simp; omega) | (simp; done)) (by first | assumption | exact SlE.toI (by assumption) rfl | exact SlE.toS (by assumption) rfl | omega | (simp; omega) | (simp; done)) (by first | assumption | exact SlE.toI (by assumption) rfl | exact SlE.toS (by assumption) rfl | omega | (simp; omega) | (simp; done)) (by first | assumption | exact SlE.toI (by assumption) rfl | exact SlE.toS (by assumption) rfl | omega | (simp; omega) | (simp; done))) ?_
    dsimp only [Go.Proofs.Ytlkfbokdbfnicaa.Wrt.v]
    refine Q_val (V_aneq_31 rfl rfl rfl) rfl rfl (.yes rfl rfl rfl rfl) ?_
    refine Q_val (V_pick_f rfl rfl rfl) rfl rfl (.none rfl) ?_
    refine Q_val (V_move rfl rfl) rfl rfl (.none rfl) ?_
    refine Q_bool_f 84 rfl (by simp [*]; done) ?_
    refine Q_val (V_loadA rfl rfl (Cells.own (.head _)) rfl) rfl rfl (.yes rfl rfl rfl rfl) ?_
    refine Q_val (V_move rfl rfl) rfl rfl (.yes rfl rfl rfl rfl) ?_
    refine Q_callv (k := 26) (.mk rfl rfl rfl rfl) rfl rfl (.yes rfl rfl rfl rfl) (PutInts_call' _ _ _ _ _ _ _ _ _ (by first | assumption | exact SlE.toI (by assumption) rfl | exact SlE.toS (by assumption) rfl | omega | (simp; omega) | (simp; done)) (by first | assumption | exact SlE.toI (by assumption) rfl | exact SlE.toS (by assumption) rfl | omega | (simp; omega) | (simp; done)) (by first | assumption | exact SlE.toI (by assumption) rfl | exact SlE.toS (by assumption) rfl | omega | (simp; omega) | (simp; done)) (by first | assumption | exact SlE.toI (by assumption) rfl | exact SlE.toS (by assumption) rfl | omega | (simp; omega) | (simp; done))) ?_
    dsimp only [Go.Proofs.Ytlkfbokdbfnicaa.Wrt.v]
    refine Q_val (V_loadA rfl rfl (Cells.own (.head _)) rfl) rfl rfl (.yes rfl rfl rfl rfl) ?_
    refine Q_val (V_move rfl rfl) rfl rfl (.yes rfl rfl rfl rfl) ?_
    refine Q_callv (k := 27) (.mk rfl rfl rfl rfl) rfl rfl (.yes rfl rfl rfl rfl) (PutInts2_call' _ _ _ _ _ _ _ _ _ (by first | assumption | exact SlE.toI (by assumption) rfl | exact SlE.toS (by assumption) rfl | omega | (simp; omega) | (simp; done)) (by first | assumption | exact SlE.toI (by assumption) rfl | exact SlE.toS (by assumption) rfl | omega | (simp; omega) | (simp; done)) (by first | assumption | exact SlE.toI (by assumption) rfl | exact SlE.toS (by assumption) rfl | omega | (simp; omega) | (simp; done)) (by first | assumption | exact SlE.toI (by assumption) rfl | exact SlE.toS (by assumption) rfl | omega | (simp; omega) | (simp; done))) ?_
    dsimp only [Go.Proofs.Ytlkfbokdbfnicaa.Wrt.v]
    refine Q_val (V_aneq_31 rfl rfl rfl) rfl rfl (.yes rfl rfl rfl rfl) ?_
    refine Q_val (V_pick_f rfl rfl rfl) rfl rfl (.none rfl) ?_
    refine Q_end ?_
    refine X_then ?_
    refine G_cond_f rfl (by simp [*]; done) ?_
    refine G_skip ?_
    refine X_then ?_
    refine G_seq ?_
    refine G_seq ?_
    refine G_draw mixed (by kernel_rfl) ?_
    refine Q_val (V_move rfl rfl) rfl rfl (.none rfl) ?_
    refine Q_val (V_lenS rfl rfl) rfl rfl (.none rfl) ?_
    refine Q_val (V_gtr rfl rfl rfl) rfl rfl (.none rfl) ?_
    refine Q_val (V_move rfl rfl) rfl rfl (.none rfl) ?_
    refine Q_bool_f 96 rfl (decide_eq_false (by omega)) ?_
    refine Q_stay (.no rfl rfl rfl rfl) rfl rfl ?_
    refine Q_stay (.no rfl rfl rfl rfl) rfl rfl ?_
    refine Q_stay (.no rfl rfl rfl rfl) rfl rfl ?_
    refine Q_stay (.no rfl rfl rfl rfl) rfl rfl ?_
    refine Q_stay (.no rfl rfl rfl rfl) rfl rfl ?_
    refine Q_stay (.no rfl rfl rfl rfl) rfl rfl ?_
    refine Q_stay (.no rfl rfl rfl rfl) rfl rfl ?_
    refine Q_stay (.no rfl rfl rfl rfl) rfl rfl ?_
    refine Q_stay (.no rfl rfl rfl rfl) rfl rfl ?_
    refine Q_stay (.no rfl rfl rfl rfl) rfl rfl ?_
    refine Q_stay (.no rfl rfl rfl rfl) rfl rfl ?_
    refine Q_val (V_pick_f rfl rfl rfl) rfl rfl (.none rfl) ?_
    refine Q_end ?_
    refine X_then ?_
    refine G_cond_f rfl rfl ?_
    refine G_skip ?_
    refine X_then ?_
    refine G_seq ?_
    refine G_region ?_
    refine G_val (V_move rfl rfl) rfl rfl (.none rfl) ?_
    refine G_val (V_move rfl rfl) rfl rfl (.none rfl) ?_
    refine G_callv (k := 30) (.mk rfl rfl rfl rfl) rfl rfl (.none rfl) (SameTexts_call' _ _ _ _ _ _ _ _ _ _ (by first | assumption | exact SlE.toI (by assumption) rfl | exact SlE.toS (by assumption) rfl | omega | (simp; omega) | (simp; done)) (by first | assumption | exact SlE.toI (by assumption) rfl | exact SlE.toS (by assumption) rfl | omega | (simp; omega) | (simp; done)) (by first | assumption | exact SlE.toI (by assumption) rfl | exact SlE.toS (by assumption) rfl | omega | (simp; omega) | (simp; done)) (by first | assumption | exact SlE.toI (by assumption) rfl | exact SlE.toS (by assumption) rfl | omega | (simp; omega) | (simp; done))) ?_
    refine G_val (V_move rfl rfl) rfl rfl (.none rfl) ?_
    refine G.bool_t 112 rfl (by simp [*]; done) ?_
    refine G_val (V_move rfl rfl) rfl rfl (.yes rfl rfl rfl rfl) ?_
    refine G_val (V_move rfl rfl) rfl rfl (.yes rfl rfl rfl rfl) ?_
    refine G_callv (k := 31) (.mk rfl rfl rfl rfl) rfl rfl (.yes rfl rfl rfl rfl) (SameInts_call' _ _ _ _ _ _ _ _ _ _ (by first | assumption | exact SlE.toI (by assumption) rfl | exact SlE.toS (by assumption) rfl | omega | (simp; omega) | (simp; done)) (by first | assumption | exact SlE.toI (by assumption) rfl | exact SlE.toS (by assumption) rfl | omega | (simp; omega) | (simp; done)) (by first | assumption | exact SlE.toI (by assumption) rfl | exact SlE.toS (by assumption) rfl | omega | (simp; omega) | (simp; done)) (by first | assumption | exact SlE.toI (by assumption) rfl | exact SlE.toS (by assumption) rfl | omega | (simp; omega) | (simp; done))) ?_
    refine G_val (V_pick_t rfl rfl rfl) rfl rfl (.none rfl) ?_
    refine G_val (V_move rfl rfl) rfl rfl (.none rfl) ?_
    refine G.bool_t 117 rfl (by simp [*]; done) ?_
    refine G_callv (k := 12) (.mk rfl rfl rfl rfl) rfl rfl (.yes rfl rfl rfl rfl) (awake5_call _ _) ?_
    refine G_val (V_pick_t rfl rfl rfl) rfl rfl (.none rfl) ?_
    refine G_val (V_assign rfl rfl) rfl rfl (.none rfl) ?_
    refine G_end ?_
    refine X_then ?_
    refine G_ret ?_
    refine G_leaveS (.drop _ (.nil _)) (by exact (.cons (.tmp rfl) (.nil))) rfl ?_ ?_
    · exact (hE4.trans hE11)
    exact ⟨(by kernel_rfl), rfl⟩
  have hx := strs_get (List.getElem?_eq_getElem (show 0 < texts.length by omega))
  have h10 := h6 _ (List.getElem_mem (show 0 < texts.length by omega))
  refine G_seq ?_
  refine G_region ?_
  (refine G_boxA rfl rfl rfl rfl (.none rfl) ?_; intro b5)
  refine G_val (V_assign rfl rfl) rfl rfl (.none rfl) ?_
  refine G_end ?_
  refine X_then ?_
  refine G_seq ?_
  refine G_seq ?_
  refine G_region ?_
  refine G_val (V_fieldAddr rfl rfl (by decide)) rfl rfl (.none rfl) ?_
  refine G_val (V_load rfl rfl (Cell.own (.head _) rfl)) rfl rfl (.none rfl) ?_
  refine G_val (V_len rfl rfl) rfl rfl (.none rfl) ?_
  refine G_val (V_gtr rfl rfl rfl) rfl rfl (.none rfl) ?_
  refine G_val (V_move rfl rfl) rfl rfl (.none rfl) ?_
  refine G.bool_f 21 rfl (decide_eq_false (by omega)) ?_
  refine G_val (V_move rfl rfl) rfl rfl (.yes rfl rfl rfl rfl) ?_
  refine G_val (V_lenS rfl rfl) rfl rfl (.yes rfl rfl rfl rfl) ?_
  refine G_val (V_gtr rfl rfl rfl) rfl rfl (.yes rfl rfl rfl rfl) ?_
  refine G_val (V_pick_f rfl rfl rfl) rfl rfl (.none rfl) ?_
  refine G_val (V_move rfl rfl) rfl rfl (.none rfl) ?_
  refine G.bool_f 26 rfl (decide_eq_false (by omega)) ?_
  refine G_val (V_move rfl rfl) rfl rfl (.yes rfl rfl rfl rfl) ?_
  refine G_val (V_lenS rfl rfl) rfl rfl (.yes rfl rfl rfl rfl) ?_
  refine G_val (V_gtr rfl rfl rfl) rfl rfl (.yes rfl rfl rfl rfl) ?_
  refine G_val (V_pick_f rfl rfl rfl) rfl rfl (.none rfl) ?_
  refine G_val (V_move rfl rfl) rfl rfl (.none rfl) ?_
  refine G.bool_f 31 rfl (decide_eq_false (by omega)) ?_
  refine G_val (V_move rfl rfl) rfl rfl (.yes rfl rfl rfl rfl) ?_
  refine G_callv (k := 15) (.mk rfl rfl rfl rfl) rfl rfl (.yes rfl rfl rfl rfl) (Short_call _ _ _ _ _ (by first | assumption | exact SlE.toI (by assumption) rfl | exact SlE.toS (by assumption) rfl | omega | (simp; omega) | (simp; done)) (by first | assumption | exact SlE.toI (by assumption) rfl | exact SlE.toS (by assumption) rfl | omega | (simp; omega) | (simp; done)) _) ?_
  refine G_val (V_not rfl rfl) rfl rfl (.yes rfl rfl rfl rfl) ?_
  refine G_val (V_pick_f rfl rfl rfl) rfl rfl (.none rfl) ?_
  refine G_end ?_
  refine X_then ?_
  refine G_cond_f rfl (by simp [*]; done) ?_
  refine G_skip ?_
  refine X_then ?_
  refine G_seq ?_
  refine G_region ?_
  refine G_val (V_move rfl rfl) rfl rfl (.none rfl) ?_
  refine G_call (k := 16) (.mk rfl rfl rfl rfl) rfl rfl (.none rfl) (OwnTexts_call _ _ _ _ _ (by first | assumption | exact SlE.toI (by assumption) rfl | exact SlE.toS (by assumption) rfl | omega | (simp; omega) | (simp; done)) (by first | assumption | exact SlE.toI (by assumption) rfl | exact SlE.toS (by assumption) rfl | omega | (simp; omega) | (simp; done))) ?_
  rintro r1 E2 L3 hE4 ⟨z5, ⟨z6, ⟨rfl, ⟨Z7, rfl⟩⟩⟩⟩
  replace hp := hp.mono hE4
  replace hq := hq.mono hE4
  refine G_val (V_move rfl rfl) rfl rfl (.none rfl) ?_
  refine G_call (k := 17) (.mk rfl rfl rfl rfl) rfl rfl (.none rfl) (OwnInts_call _ _ _ _ _ (by first | assumption | exact SlE.toI (by assumption) rfl | exact SlE.toS (by assumption) rfl | omega | (simp; omega) | (simp; done)) (by first | assumption | exact SlE.toI (by assumption) rfl | exact SlE.toS (by assumption) rfl | omega | (simp; omega) | (simp; done))) ?_
  rintro r8 E9 L10 hE11 ⟨z12, ⟨z13, ⟨rfl, ⟨Z14, rfl⟩⟩⟩⟩
  replace Z7 := Z7.mono hE11
  replace hp := hp.mono hE11
  replace hq := hq.mono hE11
  refine G_val (V_assign rfl rfl) rfl rfl (.none rfl) ?_
  refine G_val (V_assign rfl rfl) rfl rfl (.none rfl) ?_
  refine G_end ?_
  refine X_then ?_
  refine G_seq ?_
  refine G_region ?_
  refine G_val (V_loadA rfl rfl (Cells.own (.head _)) rfl) rfl rfl (.none rfl) ?_
  refine G_callv (k := 18) (.mk rfl rfl rfl rfl) rfl rfl (.none rfl) (Done_call _ _ _ (by first | assumption | exact SlE.toI (by assumption) rfl | exact SlE.toS (by assumption) rfl | omega | (simp; omega) | (simp; done)) _ _) ?_
  refine G_val (V_move rfl rfl) rfl rfl (.none rfl) ?_
  refine G_val (V_extract rfl rfl rfl) rfl rfl (.none rfl) ?_
  refine G_val (V_extract rfl rfl rfl) rfl rfl (.none rfl) ?_
  refine G_val (V_assign rfl rfl) rfl rfl (.none rfl) ?_
  refine G_val (V_assign rfl rfl) rfl rfl (.none rfl) ?_
  refine G_end ?_
  refine X_then ?_
  refine G_seq ?_
  refine G_region ?_
  refine G_val (V_loadA rfl rfl (Cells.own (.head _)) rfl) rfl rfl (.none rfl) ?_
  refine G_callv (k := 19) (.mk rfl rfl rfl rfl) rfl rfl (.none rfl) (Done2_call _ _ _ (by first | assumption | exact SlE.toI (by assumption) rfl | exact SlE.toS (by assumption) rfl | omega | (simp; omega) | (simp; done)) _ _) ?_
  refine G_val (V_move rfl rfl) rfl rfl (.none rfl) ?_
  refine G_val (V_extract rfl rfl rfl) rfl rfl (.none rfl) ?_
  refine G_val (V_extract rfl rfl rfl) rfl rfl (.none rfl) ?_
  refine G_val (V_assign rfl rfl) rfl rfl (.none rfl) ?_
  refine G_val (V_assign rfl rfl) rfl rfl (.none rfl) ?_
  refine G_end ?_
  refine X_then ?_
  refine G_seq ?_
  refine G_seq ?_
  refine G_draw mixed (by kernel_rfl) ?_
  refine Q_val (V_move rfl rfl) rfl rfl (.none rfl) ?_
  refine Q_val (V_move rfl rfl) rfl rfl (.none rfl) ?_
  refine Q_val (V_sneq rfl rfl rfl) rfl rfl (.none rfl) ?_
  refine Q_val (V_move rfl rfl) rfl rfl (.none rfl) ?_
  refine Q_bool_f 54 rfl (by simp [*]; done) ?_
  refine Q_val (V_move rfl rfl) rfl rfl (.yes rfl rfl rfl rfl) ?_
  refine Q_val (V_move rfl rfl) rfl rfl (.yes rfl rfl rfl rfl) ?_
  refine Q_val (V_neq rfl rfl rfl) rfl rfl (.yes rfl rfl rfl rfl) ?_
  refine Q_val (V_pick_f rfl rfl rfl) rfl rfl (.none rfl) ?_
  refine Q_val (V_move rfl rfl) rfl rfl (.none rfl) ?_
  refine Q_bool_f 59 rfl (decide_eq_false (by omega)) ?_
  refine Q_val (V_move rfl rfl) rfl rfl (.yes rfl rfl rfl rfl) ?_
  refine Q_callv (k := 20) (.mk rfl rfl rfl rfl) rfl rfl (.yes rfl rfl rfl rfl) (Make_call _ _ _) ?_
  dsimp only [Go.Proofs.Ytlkfbokdbfnicaa.Wrt.v]
  refine Q_val (V_move rfl rfl) rfl rfl (.yes rfl rfl rfl rfl) ?_
  refine Q_callv (k := 21) (.mk rfl rfl rfl rfl) rfl rfl (.yes rfl rfl rfl rfl) (Make2_call _ _ _) ?_
  dsimp only [Go.Proofs.Ytlkfbokdbfnicaa.Wrt.v]
  refine Q_val (V_aneq_31 rfl rfl rfl) rfl rfl (.yes rfl rfl rfl rfl) ?_
  refine Q_val (V_pick_f rfl rfl rfl) rfl rfl (.none rfl) ?_
  refine Q_val (V_move rfl rfl) rfl rfl (.none rfl) ?_
  refine Q_bool_f 66 rfl (by simp [*]; done) ?_
  refine Q_val (V_loadA rfl rfl (Cells.own (.head _)) rfl) rfl rfl (.yes rfl rfl rfl rfl) ?_
  refine Q_val (V_move rfl rfl) rfl rfl (.yes rfl rfl rfl rfl) ?_
  refine Q_callv (k := 22) (.mk rfl rfl rfl rfl) rfl rfl (.yes rfl rfl rfl rfl) (Put_call _ _ _ (by first | assumption | exact SlE.toI (by assumption) rfl | exact SlE.toS (by assumption) rfl | omega | (simp; omega) | (simp; done)) _ _ _ (by first | assumption | exact SlE.toI (by assumption) rfl | exact SlE.toS (by assumption) rfl | omega | (simp; omega) | (simp; done))) ?_
  dsimp only [Go.Proofs.Ytlkfbokdbfnicaa.Wrt.v]
  refine Q_val (V_loadA rfl rfl (Cells.own (.head _)) rfl) rfl rfl (.yes rfl rfl rfl rfl) ?_
  refine Q_val (V_move rfl rfl) rfl rfl (.yes rfl rfl rfl rfl) ?_
  refine Q_callv (k := 23) (.mk rfl rfl rfl rfl) rfl rfl (.yes rfl rfl rfl rfl) (Put2_call _ _ _ (by first | assumption | exact SlE.toI (by assumption) rfl | exact SlE.toS (by assumption) rfl | omega | (simp; omega) | (simp; done)) _ _ _ (by first | assumption | exact SlE.toI (by assumption) rfl | exact SlE.toS (by assumption) rfl | omega | (simp; omega) | (simp; done))) ?_
  dsimp only [Go.Proofs.Ytlkfbokdbfnicaa.Wrt.v]
  refine Q_val (V_aneq_31 rfl rfl rfl) rfl rfl (.yes rfl rfl rfl rfl) ?_
  refine Q_val (V_pick_f rfl rfl rfl) rfl rfl (.none rfl) ?_
  refine Q_val (V_move rfl rfl) rfl rfl (.none rfl) ?_
  refine Q_bool_f 75 rfl (by simp [*]; done) ?_
  refine Q_val (V_loadA rfl rfl (Cells.own (.head _)) rfl) rfl rfl (.yes rfl rfl rfl rfl) ?_
  refine Q_val (V_move rfl rfl) rfl rfl (.yes rfl rfl rfl rfl) ?_
  refine Q_callv (k := 24) (.mk rfl rfl rfl rfl) rfl rfl (.yes rfl rfl rfl rfl) (PutString_call' _ _ _ _ _ _ _ _ _ (by first | assumption | exact SlE.toI (by assumption) rfl | exact SlE.toS (by assumption) rfl | omega | (simp; omega) | (simp; done)) (by first | assumption | exact SlE.toI (by assumption) rfl | exact SlE.toS (by assumption) rfl | omega | (simp; omega) | (simp; done)) (by first | assumption | exact SlE.toI (by assumption) rfl | exact SlE.toS (by assumption) rfl | omega | (simp; omega) | (simp; done)) (by first | assumption | exact SlE.toI (by assumption) rfl | exact SlE.toS (by assumption) rfl | omega | (simp; omega) | (simp; done))) ?_
  dsimp only [Go.Proofs.Ytlkfbokdbfnicaa.Wrt.v]
  refine Q_val (V_loadA rfl rfl (Cells.own (.head _)) rfl) rfl rfl (.yes rfl rfl rfl rfl) ?_
  refine Q_val (V_move rfl rfl) rfl rfl (.yes rfl rfl rfl rfl) ?_
  refine Q_callv (k := 25) (.mk rfl rfl rfl rfl) rfl rfl (.yes rfl rfl rfl rfl) (PutString2_call' _ _ _ _ _ _ _ _ _ (by first | assumption | exact SlE.toI (by assumption) rfl | exact SlE.toS (by assumption) rfl | omega | (simp; omega) | (simp; done)) (by first | assumption | exact SlE.toI (by assumption) rfl | exact SlE.toS (by assumption) rfl | omega | (simp; omega) | (simp; done)) (by first | assumption | exact SlE.toI (by assumption) rfl | exact SlE.toS (by assumption) rfl | omega | (simp; omega) | (simp; done)) (by first | assumption | exact SlE.toI (by assumption) rfl | exact SlE.toS (by assumption) rfl | omega | (simp; omega) | (simp; done))) ?_
  dsimp only [Go.Proofs.Ytlkfbokdbfnicaa.Wrt.v]
  refine Q_val (V_aneq_31 rfl rfl rfl) rfl rfl (.yes rfl rfl rfl rfl) ?_
  refine Q_val (V_pick_f rfl rfl rfl) rfl rfl (.none rfl) ?_
  refine Q_val (V_move rfl rfl) rfl rfl (.none rfl) ?_
  refine Q_bool_f 84 rfl (by simp [*]; done) ?_
  refine Q_val (V_loadA rfl rfl (Cells.own (.head _)) rfl) rfl rfl (.yes rfl rfl rfl rfl) ?_
  refine Q_val (V_move rfl rfl) rfl rfl (.yes rfl rfl rfl rfl) ?_
  refine Q_callv (k := 26) (.mk rfl rfl rfl rfl) rfl rfl (.yes rfl rfl rfl rfl) (PutInts_call' _ _ _ _ _ _ _ _ _ (by first | assumption | exact SlE.toI (by assumption) rfl | exact SlE.toS (by assumption) rfl | omega | (simp; omega) | (simp; done)) (by first | assumption | exact SlE.toI (by assumption) rfl | exact SlE.toS (by assumption) rfl | omega | (simp; omega) | (simp; done)) (by first | assumption | exact SlE.toI (by assumption) rfl | exact SlE.toS (by assumption) rfl | omega | (simp; omega) | (simp; done)) (by first | assumption | exact SlE.toI (by assumption) rfl | exact SlE.toS (by assumption) rfl | omega | (simp; omega) | (simp; done))) ?_
  dsimp only [Go.Proofs.Ytlkfbokdbfnicaa.Wrt.v]
  refine Q_val (V_loadA rfl rfl (Cells.own (.head _)) rfl) rfl rfl (.yes rfl rfl rfl rfl) ?_
  refine Q_val (V_move rfl rfl) rfl rfl (.yes rfl rfl rfl rfl) ?_
  refine Q_callv (k := 27) (.mk rfl rfl rfl rfl) rfl rfl (.yes rfl rfl rfl rfl) (PutInts2_call' _ _ _ _ _ _ _ _ _ (by first | assumption | exact SlE.toI (by assumption) rfl | exact SlE.toS (by assumption) rfl | omega | (simp; omega) | (simp; done)) (by first | assumption | exact SlE.toI (by assumption) rfl | exact SlE.toS (by assumption) rfl | omega | (simp; omega) | (simp; done)) (by first | assumption | exact SlE.toI (by assumption) rfl | exact SlE.toS (by assumption) rfl | omega | (simp; omega) | (simp; done)) (by first | assumption | exact SlE.toI (by assumption) rfl | exact SlE.toS (by assumption) rfl | omega | (simp; omega) | (simp; done))) ?_
  dsimp only [Go.Proofs.Ytlkfbokdbfnicaa.Wrt.v]
  refine Q_val (V_aneq_31 rfl rfl rfl) rfl rfl (.yes rfl rfl rfl rfl) ?_
  refine Q_val (V_pick_f rfl rfl rfl) rfl rfl (.none rfl) ?_
  refine Q_end ?_
  refine X_then ?_
  refine G_cond_f rfl (by simp [*]; done) ?_
  refine G_skip ?_
  refine X_then ?_
  refine G_seq ?_
  refine G_seq ?_
  refine G_draw mixed (by kernel_rfl) ?_
  refine Q_val (V_move rfl rfl) rfl rfl (.none rfl) ?_
  refine Q_val (V_lenS rfl rfl) rfl rfl (.none rfl) ?_
  refine Q_val (V_gtr rfl rfl rfl) rfl rfl (.none rfl) ?_
  refine Q_val (V_move rfl rfl) rfl rfl (.none rfl) ?_
  refine Q_bool_t 96 rfl (decide_eq_true (by omega)) ?_
  refine Q_val (V_loadA rfl rfl (Cells.own (.head _)) rfl) rfl rfl (.yes rfl rfl rfl rfl) ?_
  refine Q_val (V_move rfl rfl) rfl rfl (.yes rfl rfl rfl rfl) ?_
  refine Q_val (V_idxAddr rfl rfl rfl (SlE.rd (by assumption)) (by omega) (by omega)) rfl rfl (.yes rfl rfl rfl rfl) ?_
  refine Q_val (V_loadS rfl rfl (SlE.rd (by assumption)) (by assumption) (by simp)) rfl rfl (.yes rfl rfl rfl rfl) ?_
  refine Q_callv (k := 28) (.mk rfl rfl rfl rfl) rfl rfl (.yes rfl rfl rfl rfl) (Add_call _ _ _ (by first | assumption | exact SlE.toI (by assumption) rfl | exact SlE.toS (by assumption) rfl | omega | (simp; omega) | (simp; done)) _ _ _ (by first | assumption | exact SlE.toI (by assumption) rfl | exact SlE.toS (by assumption) rfl | omega | (simp; omega) | (simp; done))) ?_
  dsimp only [Go.Proofs.Ytlkfbokdbfnicaa.Wrt.v]
  refine Q_val (V_loadA rfl rfl (Cells.own (.head _)) rfl) rfl rfl (.yes rfl rfl rfl rfl) ?_
  refine Q_val (V_move rfl rfl) rfl rfl (.yes rfl rfl rfl rfl) ?_
  refine Q_val (V_idxAddr rfl rfl rfl (SlE.rd (by assumption)) (by omega) (by omega)) rfl rfl (.yes rfl rfl rfl rfl) ?_
  refine Q_val (V_loadS rfl rfl (SlE.rd (by assumption)) (by assumption) (by simp)) rfl rfl (.yes rfl rfl rfl rfl) ?_
  refine Q_callv (k := 29) (.mk rfl rfl rfl rfl) rfl rfl (.yes rfl rfl rfl rfl) (Add2_call _ _ _ (by first | assumption | exact SlE.toI (by assumption) rfl | exact SlE.toS (by assumption) rfl | omega | (simp; omega) | (simp; done)) _ _ _ (by first | assumption | exact SlE.toI (by assumption) rfl | exact SlE.toS (by assumption) rfl | omega | (simp; omega) | (simp; done))) ?_
  dsimp only [Go.Proofs.Ytlkfbokdbfnicaa.Wrt.v]
  refine Q_val (V_aneq_31 rfl rfl rfl) rfl rfl (.yes rfl rfl rfl rfl) ?_
  refine Q_val (V_pick_t rfl rfl rfl) rfl rfl (.none rfl) ?_
  refine Q_end ?_
  refine X_then ?_
  refine G_cond_f rfl (by simp [*]; done) ?_
  refine G_skip ?_
  refine X_then ?_
  refine G_seq ?_
  refine G_region ?_
  refine G_val (V_move rfl rfl) rfl rfl (.none rfl) ?_
  refine G_val (V_move rfl rfl) rfl rfl (.none rfl) ?_
  refine G_callv (k := 30) (.mk rfl rfl rfl rfl) rfl rfl (.none rfl) (SameTexts_call' _ _ _ _ _ _ _ _ _ _ (by first | assumption | exact SlE.toI (by assumption) rfl | exact SlE.toS (by assumption) rfl | omega | (simp; omega) | (simp; done)) (by first | assumption | exact SlE.toI (by assumption) rfl | exact SlE.toS (by assumption) rfl | omega | (simp; omega) | (simp; done)) (by first | assumption | exact SlE.toI (by assumption) rfl | exact SlE.toS (by assumption) rfl | omega | (simp; omega) | (simp; done)) (by first | assumption | exact SlE.toI (by assumption) rfl | exact SlE.toS (by assumption) rfl | omega | (simp; omega) | (simp; done))) ?_
  refine G_val (V_move rfl rfl) rfl rfl (.none rfl) ?_
  refine G.bool_t 112 rfl (by simp [*]; done) ?_
  refine G_val (V_move rfl rfl) rfl rfl (.yes rfl rfl rfl rfl) ?_
  refine G_val (V_move rfl rfl) rfl rfl (.yes rfl rfl rfl rfl) ?_
  refine G_callv (k := 31) (.mk rfl rfl rfl rfl) rfl rfl (.yes rfl rfl rfl rfl) (SameInts_call' _ _ _ _ _ _ _ _ _ _ (by first | assumption | exact SlE.toI (by assumption) rfl | exact SlE.toS (by assumption) rfl | omega | (simp; omega) | (simp; done)) (by first | assumption | exact SlE.toI (by assumption) rfl | exact SlE.toS (by assumption) rfl | omega | (simp; omega) | (simp; done)) (by first | assumption | exact SlE.toI (by assumption) rfl | exact SlE.toS (by assumption) rfl | omega | (simp; omega) | (simp; done)) (by first | assumption | exact SlE.toI (by assumption) rfl | exact SlE.toS (by assumption) rfl | omega | (simp; omega) | (simp; done))) ?_
  refine G_val (V_pick_t rfl rfl rfl) rfl rfl (.none rfl) ?_
  refine G_val (V_move rfl rfl) rfl rfl (.none rfl) ?_
  refine G.bool_t 117 rfl (by simp [*]; done) ?_
  refine G_callv (k := 12) (.mk rfl rfl rfl rfl) rfl rfl (.yes rfl rfl rfl rfl) (awake5_call _ _) ?_
  refine G_val (V_pick_t rfl rfl rfl) rfl rfl (.none rfl) ?_
  refine G_val (V_assign rfl rfl) rfl rfl (.none rfl) ?_
  refine G_end ?_
  refine X_then ?_
  refine G_ret ?_
  refine G_leaveS (.drop _ (.nil _)) (by exact (.cons (.tmp rfl) (.nil))) rfl ?_ ?_
  · exact (hE4.trans hE11)
  exact ⟨(by kernel_rfl), rfl⟩
end Go.Proofs.Ytlkfbokdbfnicaa
