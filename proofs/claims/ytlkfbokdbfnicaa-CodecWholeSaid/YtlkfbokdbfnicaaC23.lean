import Derived.Test.YtlkfbokdbfnicaaSep17
import Derived.Test.YtlkfbokdbfnicaaInst
import Derived.Test.YtlkfbokdbfnicaaC22
set_option linter.unusedSimpArgs false
set_option linter.unusedVariables false
set_option maxHeartbeats 2000000
set_option maxRecDepth 20000
namespace Go.Proofs.Ytlkfbokdbfnicaa
open Go.RowKit

theorem PutString_call''' (E : Env) (L : List Res) (s : List UInt8) (hs : s = []) (e : Int) (he : e = 0) (m : Int) (p : Option Addr) (n c : Nat) (l : List (List UInt8)) (hl : SlE E 1 p n (strs l)) (h0 : 0 ≤ m) (h1 : m ≤ 20000) (hn : n ≤ 100000000) (hls : ∀ s, s ∈ l → s.length ≤ 1000000000) (h2 : ((lens l).flatten.length : Int) ≤ m) :
    CallV Try.prog 24 #[.agg #[.string (S s), .int .i64 m, .int .i64 e], .slice p n c] E L (.agg #[.string (S (lens l).flatten), .int .i64 m, .int .i64 0]) :=
  by subst hs he; exact PutString_call'' E L [] m h0 h1 0 rfl p n c l hl hn hls (by simpa using h2)
theorem Add_call'' (E : Env) (L : List Res) (s : List UInt8) (hs : s = []) (e : Int) (he : e = 0) (m : Int) (t : List UInt8) (h0 : 0 ≤ m) (h1 : m ≤ 20000) (h2 : (t.length : Int) ≤ m) :
    CallV Try.prog 28 #[.agg #[.string (S s), .int .i64 m, .int .i64 e], .string (S t)] E L (.agg #[.string (S t), .int .i64 m, .int .i64 0]) :=
  by subst hs he; exact Add_call' E L [] m h0 h1 0 rfl t (by simpa using h2)
def modv (a m : Int) : Int := if m < 1 then 0 else a % m
theorem Mod_call' (E : Env) (L : List Res) (a m r : Int) (h : modv a m = r) (ha : -9223372036854775808 ≤ a ∧ a ≤ 9223372036854775807) (hm : -9223372036854775808 ≤ m ∧ m ≤ 9223372036854775807) :
    CallV Try.prog 46 #[.int .i64 a, .int .i64 m] E L (.int .i64 r) := by
  have := Mod_call E L a m ha hm
  rw [← h]; exact this

theorem Whole5_call (E : Env) (L : List Res) (p : Option Addr) (cp : Nat) (texts : List (List UInt8)) (hp : SlE E 1 p texts.length (strs texts)) (htn : texts.length ≤ 9223372036854775807) (a : Int) (ha : -9223372036854775808 ≤ a ∧ a ≤ 9223372036854775807) :
    CallS Try.prog 9 #[.slice p texts.length cp, .int .i64 a] E L (fun r _ L' => r = .bool true ∧ L' = L) := by
  refine CallS.intro (l := [.slice p texts.length cp, .int .i64 a]) _ Try.func9 rfl Try.ntmps9 rfl ?_
  by_cases h2 : 6 < texts.length
  · refine G_seq ?_
    refine G_region ?_
    refine G_val (V_assign rfl rfl) rfl rfl (.none rfl) ?_
    refine G_end ?_
    refine X_then ?_
    refine G_seq ?_
    refine G_region ?_
    refine G_call (k := 8) (.mk rfl rfl rfl rfl) rfl rfl (.none rfl) (Known5_call _ _) ?_
    rintro r1 E2 L3 hE4 ⟨rfl, rfl⟩
    replace hp := hp.mono hE4
    refine G_val (V_assign rfl rfl) rfl rfl (.none rfl) ?_
    refine G_end ?_
    refine X_then ?_
    refine G_seq ?_
    refine G_seq ?_
    refine G_region ?_
    refine G_val (V_move rfl rfl) rfl rfl (.none rfl) ?_
    refine G_val (V_lenS rfl rfl) rfl rfl (.none rfl) ?_
    refine G_val (V_gtr rfl rfl rfl) rfl rfl (.none rfl) ?_
    refine G_val (V_move rfl rfl) rfl rfl (.none rfl) ?_
    refine G.bool_t 18 rfl (decide_eq_true (by omega)) ?_
    refine G_stay (.no rfl rfl rfl rfl) rfl rfl ?_
    refine G_stay (.no rfl rfl rfl rfl) rfl rfl ?_
    refine G_stay (.no rfl rfl rfl rfl) rfl rfl ?_
    refine G_val (V_pick_t rfl rfl rfl) rfl rfl (.none rfl) ?_
    refine G_end ?_
    refine X_then ?_
    refine G_cond_t rfl rfl ?_
    refine G_seq ?_
    refine G_region ?_
    refine G_val (V_move rfl rfl) rfl rfl (.none rfl) ?_
    refine G_val (V_assign rfl rfl) rfl rfl (.none rfl) ?_
    refine G_end ?_
    refine X_then ?_
    refine G_ret ?_
    refine X_then_ret ?_
    refine G_leaveS (.nil _) (by exact (.cons (.tmp rfl) (.nil))) rfl ?_ ?_
    · exact hE4
    exact ⟨(by kernel_rfl), rfl⟩
  by_cases h4 : (texts.all fun s => decide ((s.length : Int) ≤ 20)) = false
  · refine G_seq ?_
    refine G_region ?_
    refine G_val (V_assign rfl rfl) rfl rfl (.none rfl) ?_
    refine G_end ?_
    refine X_then ?_
    refine G_seq ?_
    refine G_region ?_
    refine G_call (k := 8) (.mk rfl rfl rfl rfl) rfl rfl (.none rfl) (Known5_call _ _) ?_
    rintro r1 E2 L3 hE4 ⟨rfl, rfl⟩
    replace hp := hp.mono hE4
    refine G_val (V_assign rfl rfl) rfl rfl (.none rfl) ?_
    refine G_end ?_
    refine X_then ?_
    refine G_seq ?_
    refine G_seq ?_
    refine G_region ?_
    refine G_val (V_move rfl rfl) rfl rfl (.none rfl) ?_
    refine G_val (V_lenS rfl rfl) rfl rfl (.none rfl) ?_
    refine G_val (V_gtr rfl rfl rfl) rfl rfl (.none rfl) ?_
    refine G_val (V_move rfl rfl) rfl rfl (.none rfl) ?_
    refine G.bool_f 18 rfl (decide_eq_false (by omega)) ?_
    refine G_val (V_move rfl rfl) rfl rfl (.yes rfl rfl rfl rfl) ?_
    refine G_callv (k := 15) (.mk rfl rfl rfl rfl) rfl rfl (.yes rfl rfl rfl rfl) (Short_call _ _ _ _ _ (by first | assumption | exact SlE.toI (by assumption) rfl | exact SlE.toS (by assumption) rfl | omega | (simp; omega) | (simp; done)) (by first | assumption | exact SlE.toI (by assumption) rfl | exact SlE.toS (by assumption) rfl | omega | (simp; omega) | (simp; done)) _) ?_
    refine G_val (V_not rfl rfl) rfl rfl (.yes rfl rfl rfl rfl) ?_
    refine G_val (V_pick_f rfl rfl rfl) rfl rfl (.none rfl) ?_
    refine G_end ?_
    refine X_then ?_
    refine G_cond_t rfl (by simp [*]; done) ?_
    refine G_seq ?_
    refine G_region ?_
    refine G_val (V_move rfl rfl) rfl rfl (.none rfl) ?_
    refine G_val (V_assign rfl rfl) rfl rfl (.none rfl) ?_
    refine G_end ?_
    refine X_then ?_
    refine G_ret ?_
    refine X_then_ret ?_
    refine G_leaveS (.nil _) (by exact (.cons (.tmp rfl) (.nil))) rfl ?_ ?_
    · exact hE4
    exact ⟨(by kernel_rfl), rfl⟩
  have h5 : ∀ t, t ∈ texts → t.length ≤ 20 := by
    simp only [Bool.not_eq_false, List.all_eq_true, decide_eq_true_eq] at h4
    intro t ht; have := h4 t ht; omega
  have h6 : ∀ t, t ∈ texts → t.length ≤ 1000000000 := fun t ht => by have := h5 t ht; omega
  have hF := lens_total 20 texts h5
  have hF2 : (lens texts).flatten.length ≤ 180 := by omega
  clear hF
  have h8 : (texts.all fun s => decide ((s.length : Int) ≤ 20)) = true := by simpa using h4
  clear h4
  have hsp := lens_split texts
  have hle := lens_le texts
  obtain ⟨A, hA, hA2⟩ : ∃ A : Nat, modv a (((lens texts).flatten.length : Int) + 1) = (A : Int) ∧ A ≤ (lens texts).flatten.length := by
    have h1 := Int.emod_lt_of_pos a (b := ((lens texts).flatten.length : Int) + 1) (by omega)
    have h2 := Int.emod_nonneg a (b := ((lens texts).flatten.length : Int) + 1) (by omega)
    refine ⟨(a % (((lens texts).flatten.length : Int) + 1)).toNat, ?_, by omega⟩
    rw [modv, if_neg (by omega), Int.toNat_of_nonneg h2]
  refine G_seq ?_
  refine G_region ?_
  refine G_val (V_assign rfl rfl) rfl rfl (.none rfl) ?_
  refine G_end ?_
  refine X_then ?_
  refine G_seq ?_
  refine G_region ?_
  refine G_call (k := 8) (.mk rfl rfl rfl rfl) rfl rfl (.none rfl) (Known5_call _ _) ?_
  rintro r1 E2 L3 hE4 ⟨rfl, rfl⟩
  replace hp := hp.mono hE4
  refine G_val (V_assign rfl rfl) rfl rfl (.none rfl) ?_
  refine G_end ?_
  refine X_then ?_
  refine G_seq ?_
  refine G_seq ?_
  refine G_region ?_
  refine G_val (V_move rfl rfl) rfl rfl (.none rfl) ?_
  refine G_val (V_lenS rfl rfl) rfl rfl (.none rfl) ?_
  refine G_val (V_gtr rfl rfl rfl) rfl rfl (.none rfl) ?_
  refine G_val (V_move rfl rfl) rfl rfl (.none rfl) ?_
  refine G.bool_f 18 rfl (decide_eq_false (by omega)) ?_
  refine G_val (V_move rfl rfl) rfl rfl (.yes rfl rfl rfl rfl) ?_
  refine G_callv (k := 15) (.mk rfl rfl rfl rfl) rfl rfl (.yes rfl rfl rfl rfl) (Short_call _ _ _ _ _ (by first | assumption | exact SlE.toI (by assumption) rfl | exact SlE.toS (by assumption) rfl | omega | (simp; omega) | (simp; done)) (by first | assumption | exact SlE.toI (by assumption) rfl | exact SlE.toS (by assumption) rfl | omega | (simp; omega) | (simp; done)) _) ?_
  refine G_val (V_not rfl rfl) rfl rfl (.yes rfl rfl rfl rfl) ?_
  refine G_val (V_pick_f rfl rfl rfl) rfl rfl (.none rfl) ?_
  refine G_end ?_
  refine X_then ?_
  refine G_cond_f rfl (by simp [*]; done) ?_
  refine G_skip ?_
  refine X_then ?_
  refine G_seq ?_
  refine G_region ?_
  refine G_callv (k := 20) (.mk rfl rfl rfl rfl) rfl rfl (.none rfl) (Make_call' _ _ _ (by first | assumption | exact SlE.toI (by assumption) rfl | exact SlE.toS (by assumption) rfl | omega | (simp; omega) | (simp; done)) (by first | assumption | exact SlE.toI (by assumption) rfl | exact SlE.toS (by assumption) rfl | omega | (simp; omega) | (simp; done))) ?_
  refine G_val (V_move rfl rfl) rfl rfl (.none rfl) ?_
  refine G_callv (k := 24) (.mk rfl rfl rfl rfl) rfl rfl (.none rfl) (PutString_call''' _ _ _ (by first | assumption | exact SlE.toI (by assumption) rfl | exact SlE.toS (by assumption) rfl | omega | (simp; omega) | (simp; done)) _ (by first | assumption | exact SlE.toI (by assumption) rfl | exact SlE.toS (by assumption) rfl | omega | (simp; omega) | (simp; done)) _ _ _ _ _ (by first | assumption | exact SlE.toI (by assumption) rfl | exact SlE.toS (by assumption) rfl | omega | (simp; omega) | (simp; done)) (by first | assumption | exact SlE.toI (by assumption) rfl | exact SlE.toS (by assumption) rfl | omega | (simp; omega) | (simp; done)) (by first | assumption | exact SlE.toI (by assumption) rfl | exact SlE.toS (by assumption) rfl | omega | (simp; omega) | (simp; done)) (by first | assumption | exact SlE.toI (by assumption) rfl | exact SlE.toS (by assumption) rfl | omega | (simp; omega) | (simp; done)) (by first | assumption | exact SlE.toI (by assumption) rfl | exact SlE.toS (by assumption) rfl | omega | (simp; omega) | (simp; done)) (by first | assumption | exact SlE.toI (by assumption) rfl | exact SlE.toS (by assumption) rfl | omega | (simp; omega) | (simp; done))) ?_
  refine G_callv (k := 18) (.mk rfl rfl rfl rfl) rfl rfl (.none rfl) (Done_call' _ _ _ _ (by first | assumption | exact SlE.toI (by assumption) rfl | exact SlE.toS (by assumption) rfl | omega | (simp; omega) | (simp; done)) (by first | assumption | exact SlE.toI (by assumption) rfl | exact SlE.toS (by assumption) rfl | omega | (simp; omega) | (simp; done)) _ (by first | assumption | exact SlE.toI (by assumption) rfl | exact SlE.toS (by assumption) rfl | omega | (simp; omega) | (simp; done)) (by first | assumption | exact SlE.toI (by assumption) rfl | exact SlE.toS (by assumption) rfl | omega | (simp; omega) | (simp; done))) ?_
  refine G_val (V_move rfl rfl) rfl rfl (.none rfl) ?_
  refine G_val (V_extract rfl rfl rfl) rfl rfl (.none rfl) ?_
  refine G_val (V_extract rfl rfl rfl) rfl rfl (.none rfl) ?_
  refine G_val (V_assign rfl rfl) rfl rfl (.none rfl) ?_
  refine G_val (V_assign rfl rfl) rfl rfl (.none rfl) ?_
  refine G_end ?_
  refine X_then ?_
  refine G_seq ?_
  refine G_seq ?_
  refine G_region ?_
  refine G_val (V_move rfl rfl) rfl rfl (.none rfl) ?_
  refine G_val (V_neq rfl rfl rfl) rfl rfl (.none rfl) ?_
  refine G_end ?_
  refine X_then ?_
  refine G_cond_f rfl (by kernel_rfl) ?_
  refine G_skip ?_
  refine X_then ?_
  refine G_seq ?_
  refine G_region ?_
  refine G_val (V_move rfl rfl) rfl rfl (.none rfl) ?_
  refine G_val (V_move rfl rfl) rfl rfl (.none rfl) ?_
  refine G_val (V_len rfl rfl) rfl rfl (.none rfl) ?_
  refine G_val (V_add_i64 rfl rfl rfl (by omega) (by omega)) rfl rfl (.none rfl) ?_
  refine G_callv (k := 46) (.mk rfl rfl rfl rfl) rfl rfl (.none rfl) (Mod_call' _ _ _ _ _ (by first | assumption | exact SlE.toI (by assumption) rfl | exact SlE.toS (by assumption) rfl | omega | (simp; omega) | (simp; done)) (by first | assumption | exact SlE.toI (by assumption) rfl | exact SlE.toS (by assumption) rfl | omega | (simp; omega) | (simp; done)) (by first | assumption | exact SlE.toI (by assumption) rfl | exact SlE.toS (by assumption) rfl | omega | (simp; omega) | (simp; done))) ?_
  refine G_val (V_assign rfl rfl) rfl rfl (.none rfl) ?_
  refine G_end ?_
  refine X_then ?_
  refine G_seq ?_
  refine G_region ?_
  refine G_val (V_move rfl rfl) rfl rfl (.none rfl) ?_
  refine G_val (V_move rfl rfl) rfl rfl (.none rfl) ?_
  refine G_val (V_front rfl rfl rfl (by omega) (by omega)) rfl rfl (.none rfl) ?_
  refine G_callv (k := 13) (.mk rfl rfl rfl rfl) rfl rfl (.none rfl) (Read_codec_call' _ _ _ (by first | assumption | exact SlE.toI (by assumption) rfl | exact SlE.toS (by assumption) rfl | omega | (simp; omega) | (simp; done))) ?_
  (refine G_alloc rfl rfl rfl (.none rfl) ?_; intro b8)
  refine G_storeA rfl rfl rfl rfl (by simp [Value.oneCell']) rfl (.none rfl) (.head _ _ _) rfl ?_
  refine G_end ?_
  refine X_then ?_
  refine G_seq ?_
  refine G_seq ?_
  refine G_region ?_
  refine G_val (V_assign rfl rfl) rfl rfl (.none rfl) ?_
  refine G_end ?_
  refine X_then ?_
  refine G_block ?_
  have hs : ((lens texts).flatten.take ((A : Int)).toNat).length = A := by rw [Int.toNat_natCast, List.length_take]; omega
  have hlen : ∀ k, k < texts.length → (lens (texts.take (k + 1))).flatten.length = (lens (texts.take k)).flatten.length + (vbytes texts[k]!.length).length + texts[k]!.length := by
    intro k hk
    have := congrArg List.length (lens_flat texts k hk)
    rw [getElem!_pos texts k hk]
    simp only [List.length_append] at this
    omega
  refine G_loop (α := Nat × Rdr) (fun x => [(0, .slice p texts.length cp), (1, .int .i64 A), (5, .bool true), (6, .string (S (lens texts).flatten)), (8, .pointer (some ⟨b8, 0, none⟩)), (9, .int .i64 x.1)]) (fun _ => E2)
    (fun x => .blk b8 (.cells #[.string (S x.2.s), .int .i64 x.2.at', .int .i64 x.2.e, .int .i64 x.2.fa] 27 (0, 0)) :: L3)
    (fun x => x.1 ≤ texts.length ∧ x.2.s = (lens texts).flatten.take ((A : Int)).toNat ∧ ((x.2.at' = ((lens (texts.take x.1)).flatten.length : Nat) ∧ x.2.e = 0 ∧ x.2.fa = 0 ∧ (lens (texts.take x.1)).flatten.length ≤ A) ∨ (0 ≤ x.2.at' ∧ x.2.at' ≤ A ∧ x.2.e = 5 ∧ 0 ≤ x.2.fa ∧ x.2.fa ≤ A ∧ A < (lens (texts.take x.1)).flatten.length)))
    (fun x => texts.length - x.1) (0, ⟨_, 0, 0, 0⟩) ⟨Nat.zero_le _, rfl, .inl ⟨by simp [lens], rfl, rfl, by simp [lens]⟩⟩ ⟨rfl, rfl, rfl, rfl, rfl, rfl, trivial⟩ rfl rfl ?_
  rintro ⟨k, qs, qa, qe, qf⟩ ⟨hk, hqs, hq⟩
  simp only at hk hqs hq ⊢
  subst hqs
  by_cases hlt : k < texts.length
  · have hx := strs_get (List.getElem?_eq_getElem hlt)
    have h7 := h5 _ (List.getElem_mem hlt)
    have hl1 := hlen k hlt
    rw [getElem!_pos texts k hlt] at hl1
    obtain ⟨rest, hr⟩ := hsp k hlt
    rcases hq with ⟨rfl, rfl, rfl, hP⟩ | ⟨hq1, hq2, rfl, hq3, hq4, hP⟩
    · have hdrop : ((lens texts).flatten.take ((A : Int)).toNat).drop (lens (texts.take k)).flatten.length = (vbytes texts[k].length ++ (texts[k] ++ rest)).take (A - (lens (texts.take k)).flatten.length) := by
        rw [Int.toNat_natCast, List.drop_take, hr, List.drop_left]
      by_cases hfit : (lens (texts.take (k + 1))).flatten.length ≤ A
      · have hstep := aStr_back ((lens texts).flatten.take ((A : Int)).toNat) (lens (texts.take k)).flatten.length texts[k] (rest.take (A - (lens (texts.take (k + 1))).flatten.length)) 20 (by omega) (by omega)
          (by rw [hdrop, List.take_append, List.take_append, List.take_of_length_le (by omega), List.take_of_length_le (by omega)]; congr 3; omega) (by omega)
        rw [← hl1] at hstep
        have hmono : (lens (texts.take k)).flatten.length ≤ (lens (texts.take (k + 1))).flatten.length := by omega
        refine G_seq ?_
        refine G_seq ?_
        refine G_region ?_
        refine G_val (V_move rfl rfl) rfl rfl (.none rfl) ?_
        refine G_val (V_move rfl rfl) rfl rfl (.none rfl) ?_
        refine G_val (V_lenS rfl rfl) rfl rfl (.none rfl) ?_
        refine G_val (V_lss rfl rfl rfl) rfl rfl (.none rfl) ?_
        refine G_end ?_
        refine X_then ?_
        refine G_cond_t rfl (decide_eq_true (by omega)) ?_
        refine G_skip ?_
        refine X_then ?_
        refine G_seq ?_
        refine G_block ?_
        refine G_seq ?_
        refine G_region ?_
        refine G_val (V_loadA rfl rfl (Cells.own (.head _)) rfl) rfl rfl (.none rfl) ?_
        refine G_callv (k := 52) (.mk rfl rfl rfl rfl) rfl rfl (.none rfl) (String_call'' _ _ _ _ _ _ _ _ _ _ _ _ (by first | assumption | exact SlE.toI (by assumption) rfl | exact SlE.toS (by assumption) rfl | omega | (simp; omega) | (simp; done)) (by first | assumption | exact SlE.toI (by assumption) rfl | exact SlE.toS (by assumption) rfl | omega | (simp; omega) | (simp; done)) (by first | assumption | exact SlE.toI (by assumption) rfl | exact SlE.toS (by assumption) rfl | omega | (simp; omega) | (simp; done))) ?_
        refine G_val (V_move rfl rfl) rfl rfl (.none rfl) ?_
        refine G_val (V_extract rfl rfl rfl) rfl rfl (.none rfl) ?_
        refine G_val (V_extract rfl rfl rfl) rfl rfl (.none rfl) ?_
        (refine G_alloc rfl rfl rfl (.none rfl) ?_; intro b10)
        refine G_storeA rfl rfl rfl rfl (by simp [Value.oneCell']) rfl (.none rfl) (.head _ _ _) rfl ?_
        refine G_val (V_assign rfl rfl) rfl rfl (.none rfl) ?_
        refine G_end ?_
        refine X_then ?_
        refine G_seq ?_
        refine G_seq ?_
        refine G_draw mixed (by kernel_rfl) ?_
        refine Q_val (V_fieldAddr rfl rfl (by decide)) rfl rfl (.none rfl) ?_
        refine Q_val (V_load rfl rfl (Cell.own (.head _) rfl)) rfl rfl (.none rfl) ?_
        refine Q_val (V_move rfl rfl) rfl rfl (.none rfl) ?_
        refine Q_val (V_move rfl rfl) rfl rfl (.none rfl) ?_
        refine Q_val (V_front rfl rfl rfl (by omega) (by omega)) rfl rfl (.none rfl) ?_
        refine Q_val (V_sneq rfl rfl rfl) rfl rfl (.none rfl) ?_
        refine Q_val (V_move rfl rfl) rfl rfl (.none rfl) ?_
        refine Q_bool_f 59 rfl (by simp [*]; done) ?_
        refine Q_val (V_fieldAddr rfl rfl (by decide)) rfl rfl (.yes rfl rfl rfl rfl) ?_
        refine Q_val (V_load rfl rfl (Cell.own (.head _) rfl)) rfl rfl (.yes rfl rfl rfl rfl) ?_
        refine Q_val (V_fieldAddr rfl rfl (by decide)) rfl rfl (.yes rfl rfl rfl rfl) ?_
        refine Q_val (V_load rfl rfl (Cell.own (.tail _ (.head _)) rfl)) rfl rfl (.yes rfl rfl rfl rfl) ?_
        refine Q_val (V_lss rfl rfl rfl) rfl rfl (.yes rfl rfl rfl rfl) ?_
        refine Q_val (V_pick_f rfl rfl rfl) rfl rfl (.none rfl) ?_
        refine Q_val (V_move rfl rfl) rfl rfl (.none rfl) ?_
        refine Q_bool_f 66 rfl (decide_eq_false (by omega)) ?_
        refine Q_val (V_fieldAddr rfl rfl (by decide)) rfl rfl (.yes rfl rfl rfl rfl) ?_
        refine Q_val (V_load rfl rfl (Cell.own (.head _) rfl)) rfl rfl (.yes rfl rfl rfl rfl) ?_
        refine Q_val (V_move rfl rfl) rfl rfl (.yes rfl rfl rfl rfl) ?_
        refine Q_val (V_gtr rfl rfl rfl) rfl rfl (.yes rfl rfl rfl rfl) ?_
        refine Q_val (V_pick_f rfl rfl rfl) rfl rfl (.none rfl) ?_
        refine Q_end ?_
        refine X_then ?_
        refine G_cond_f rfl (decide_eq_false (by omega)) ?_
        refine G_skip ?_
        refine X_then ?_
        refine G_seq ?_
        refine G_seq ?_
        refine G_region ?_
        refine G_val (V_fieldAddr rfl rfl (by decide)) rfl rfl (.none rfl) ?_
        refine G_val (V_fieldAddr rfl rfl (by decide)) rfl rfl (.none rfl) ?_
        refine G_val (V_load rfl rfl (Cell.own (.tail _ (.head _)) rfl)) rfl rfl (.none rfl) ?_
        refine G_val (V_neq rfl rfl rfl) rfl rfl (.none rfl) ?_
        refine G_end ?_
        refine X_then ?_
        refine G_cond_f rfl (by kernel_rfl) ?_
        refine G_skip ?_
        refine X_then ?_
        refine G_seq ?_
        refine G_seq ?_
        refine G_region ?_
        refine G_val (V_fieldAddr rfl rfl (by decide)) rfl rfl (.none rfl) ?_
        refine G_val (V_fieldAddr rfl rfl (by decide)) rfl rfl (.none rfl) ?_
        refine G_val (V_load rfl rfl (Cell.own (.head _) rfl)) rfl rfl (.none rfl) ?_
        refine G_val (V_eql rfl rfl rfl) rfl rfl (.none rfl) ?_
        refine G_val (V_move rfl rfl) rfl rfl (.none rfl) ?_
        refine G.bool_t 87 rfl (by kernel_rfl) ?_
        refine G_val (V_move rfl rfl) rfl rfl (.yes rfl rfl rfl rfl) ?_
        refine G_val (V_move rfl rfl) rfl rfl (.yes rfl rfl rfl rfl) ?_
        refine G_val (V_move rfl rfl) rfl rfl (.yes rfl rfl rfl rfl) ?_
        refine G_val (V_idxAddr rfl rfl rfl (SlE.rd (by assumption)) (by omega) (by omega)) rfl rfl (.yes rfl rfl rfl rfl) ?_
        refine G_val (V_loadS rfl rfl (SlE.rd (by assumption)) (by assumption) (by simp)) rfl rfl (.yes rfl rfl rfl rfl) ?_
        refine G_val (V_sneq rfl rfl rfl) rfl rfl (.yes rfl rfl rfl rfl) ?_
        refine G_val (V_pick_t rfl rfl rfl) rfl rfl (.none rfl) ?_
        refine G_val (V_move rfl rfl) rfl rfl (.none rfl) ?_
        refine G.bool_f 95 rfl (by simp [*]; done) ?_
        refine G_val (V_fieldAddr rfl rfl (by decide)) rfl rfl (.yes rfl rfl rfl rfl) ?_
        refine G_val (V_fieldAddr rfl rfl (by decide)) rfl rfl (.yes rfl rfl rfl rfl) ?_
        refine G_val (V_load rfl rfl (Cell.own (.head _) rfl)) rfl rfl (.yes rfl rfl rfl rfl) ?_
        refine G_val (V_neq rfl rfl rfl) rfl rfl (.yes rfl rfl rfl rfl) ?_
        refine G_val (V_move rfl rfl) rfl rfl (.yes rfl rfl rfl rfl) ?_
        refine G.bool_f 100 rfl (by kernel_rfl) ?_
        refine G_stay (.no rfl rfl rfl rfl) rfl rfl ?_
        refine G_stay (.no rfl rfl rfl rfl) rfl rfl ?_
        refine G_stay (.no rfl rfl rfl rfl) rfl rfl ?_
        refine G_stay (.no rfl rfl rfl rfl) rfl rfl ?_
        refine G_stay (.no rfl rfl rfl rfl) rfl rfl ?_
        refine G_stay (.un rfl rfl rfl rfl) rfl rfl ?_
        refine G_stay (.un rfl rfl rfl rfl) rfl rfl ?_
        refine G_stay (.un rfl rfl rfl rfl) rfl rfl ?_
        refine G_stay (.un rfl rfl rfl rfl) rfl rfl ?_
        refine G_stay (.un rfl rfl rfl rfl) rfl rfl ?_
        refine G_stay (.no rfl rfl rfl rfl) rfl rfl ?_
        refine G_val (V_pick_f rfl rfl rfl) rfl rfl (.yes rfl rfl rfl rfl) ?_
        refine G_val (V_pick_f rfl rfl rfl) rfl rfl (.none rfl) ?_
        refine G_end ?_
        refine X_then ?_
        refine G_cond_f rfl rfl ?_
        refine G_skip ?_
        refine X_then ?_
        refine G_region ?_
        refine G_val (V_loadA rfl rfl (Cells.own (.head _)) rfl) rfl rfl (.none rfl) ?_
        refine G_storeA rfl rfl rfl rfl (by simp [Value.oneCell']) rfl (.none rfl) (.tail _ (.head _ _ _)) rfl ?_
        refine G_end ?_
        refine X_block ?_
        refine X_then ?_
        refine G_region ?_
        refine G_val (V_move rfl rfl) rfl rfl (.none rfl) ?_
        refine G_val (V_add_i64 rfl rfl rfl (by omega) (by omega)) rfl rfl (.none rfl) ?_
        refine G_val (V_assign rfl rfl) rfl rfl (.none rfl) ?_
        refine G_end ?_
        refine X_then ?_
        refine G.drop ?_
        exact G_again (k + 1, ⟨_, _, 0, 0⟩) ⟨by simp only; omega, rfl, .inl ⟨rfl, rfl, rfl, hfit⟩⟩ (by simp only; omega) ⟨rfl, rfl, rfl, rfl, rfl, rfl, trivial⟩ rfl rfl
      · obtain ⟨fa, hstep, hf1, hf2⟩ := aStr_short ((lens texts).flatten.take ((A : Int)).toNat) (lens (texts.take k)).flatten.length texts[k] (A - (lens (texts.take k)).flatten.length) 20 (by omega) (by omega)
          (by simp only [List.length_append]; omega) (by rw [hdrop, ← List.append_assoc, List.take_append_of_le_length (by simp only [List.length_append]; omega)]) (by omega) (by omega)
        refine G_seq ?_
        refine G_seq ?_
        refine G_region ?_
        refine G_val (V_move rfl rfl) rfl rfl (.none rfl) ?_
        refine G_val (V_move rfl rfl) rfl rfl (.none rfl) ?_
        refine G_val (V_lenS rfl rfl) rfl rfl (.none rfl) ?_
        refine G_val (V_lss rfl rfl rfl) rfl rfl (.none rfl) ?_
        refine G_end ?_
        refine X_then ?_
        refine G_cond_t rfl (decide_eq_true (by omega)) ?_
        refine G_skip ?_
        refine X_then ?_
        refine G_seq ?_
        refine G_block ?_
        refine G_seq ?_
        refine G_region ?_
        refine G_val (V_loadA rfl rfl (Cells.own (.head _)) rfl) rfl rfl (.none rfl) ?_
        refine G_callv (k := 52) (.mk rfl rfl rfl rfl) rfl rfl (.none rfl) (String_call'' _ _ _ _ _ _ _ _ _ _ _ _ (by first | assumption | exact SlE.toI (by assumption) rfl | exact SlE.toS (by assumption) rfl | omega | (simp; omega) | (simp; done)) (by first | assumption | exact SlE.toI (by assumption) rfl | exact SlE.toS (by assumption) rfl | omega | (simp; omega) | (simp; done)) (by first | assumption | exact SlE.toI (by assumption) rfl | exact SlE.toS (by assumption) rfl | omega | (simp; omega) | (simp; done))) ?_
        refine G_val (V_move rfl rfl) rfl rfl (.none rfl) ?_
        refine G_val (V_extract rfl rfl rfl) rfl rfl (.none rfl) ?_
        refine G_val (V_extract rfl rfl rfl) rfl rfl (.none rfl) ?_
        (refine G_alloc rfl rfl rfl (.none rfl) ?_; intro b10)
        refine G_storeA rfl rfl rfl rfl (by simp [Value.oneCell']) rfl (.none rfl) (.head _ _ _) rfl ?_
        refine G_val (V_assign rfl rfl) rfl rfl (.none rfl) ?_
        refine G_end ?_
        refine X_then ?_
        refine G_seq ?_
        refine G_seq ?_
        refine G_draw mixed (by kernel_rfl) ?_
        refine Q_val (V_fieldAddr rfl rfl (by decide)) rfl rfl (.none rfl) ?_
        refine Q_val (V_load rfl rfl (Cell.own (.head _) rfl)) rfl rfl (.none rfl) ?_
        refine Q_val (V_move rfl rfl) rfl rfl (.none rfl) ?_
        refine Q_val (V_move rfl rfl) rfl rfl (.none rfl) ?_
        refine Q_val (V_front rfl rfl rfl (by omega) (by omega)) rfl rfl (.none rfl) ?_
        refine Q_val (V_sneq rfl rfl rfl) rfl rfl (.none rfl) ?_
        refine Q_val (V_move rfl rfl) rfl rfl (.none rfl) ?_
        refine Q_bool_f 59 rfl (by simp [*]; done) ?_
        refine Q_val (V_fieldAddr rfl rfl (by decide)) rfl rfl (.yes rfl rfl rfl rfl) ?_
        refine Q_val (V_load rfl rfl (Cell.own (.head _) rfl)) rfl rfl (.yes rfl rfl rfl rfl) ?_
        refine Q_val (V_fieldAddr rfl rfl (by decide)) rfl rfl (.yes rfl rfl rfl rfl) ?_
        refine Q_val (V_load rfl rfl (Cell.own (.tail _ (.head _)) rfl)) rfl rfl (.yes rfl rfl rfl rfl) ?_
        refine Q_val (V_lss rfl rfl rfl) rfl rfl (.yes rfl rfl rfl rfl) ?_
        refine Q_val (V_pick_f rfl rfl rfl) rfl rfl (.none rfl) ?_
        refine Q_val (V_move rfl rfl) rfl rfl (.none rfl) ?_
        refine Q_bool_f 66 rfl (decide_eq_false (by omega)) ?_
        refine Q_val (V_fieldAddr rfl rfl (by decide)) rfl rfl (.yes rfl rfl rfl rfl) ?_
        refine Q_val (V_load rfl rfl (Cell.own (.head _) rfl)) rfl rfl (.yes rfl rfl rfl rfl) ?_
        refine Q_val (V_move rfl rfl) rfl rfl (.yes rfl rfl rfl rfl) ?_
        refine Q_val (V_gtr rfl rfl rfl) rfl rfl (.yes rfl rfl rfl rfl) ?_
        refine Q_val (V_pick_f rfl rfl rfl) rfl rfl (.none rfl) ?_
        refine Q_end ?_
        refine X_then ?_
        refine G_cond_f rfl (decide_eq_false (by omega)) ?_
        refine G_skip ?_
        refine X_then ?_
        refine G_seq ?_
        refine G_seq ?_
        refine G_region ?_
        refine G_val (V_fieldAddr rfl rfl (by decide)) rfl rfl (.none rfl) ?_
        refine G_val (V_fieldAddr rfl rfl (by decide)) rfl rfl (.none rfl) ?_
        refine G_val (V_load rfl rfl (Cell.own (.tail _ (.head _)) rfl)) rfl rfl (.none rfl) ?_
        refine G_val (V_neq rfl rfl rfl) rfl rfl (.none rfl) ?_
        refine G_end ?_
        refine X_then ?_
        refine G_cond_f rfl (by kernel_rfl) ?_
        refine G_skip ?_
        refine X_then ?_
        refine G_seq ?_
        refine G_seq ?_
        refine G_region ?_
        refine G_val (V_fieldAddr rfl rfl (by decide)) rfl rfl (.none rfl) ?_
        refine G_val (V_fieldAddr rfl rfl (by decide)) rfl rfl (.none rfl) ?_
        refine G_val (V_load rfl rfl (Cell.own (.head _) rfl)) rfl rfl (.none rfl) ?_
        refine G_val (V_eql rfl rfl rfl) rfl rfl (.none rfl) ?_
        refine G_val (V_move rfl rfl) rfl rfl (.none rfl) ?_
        refine G.bool_f 87 rfl (by kernel_rfl) ?_
        refine G_stay (.no rfl rfl rfl rfl) rfl rfl ?_
        refine G_stay (.no rfl rfl rfl rfl) rfl rfl ?_
        refine G_stay (.no rfl rfl rfl rfl) rfl rfl ?_
        refine G_stay (.no rfl rfl rfl rfl) rfl rfl ?_
        refine G_stay (.no rfl rfl rfl rfl) rfl rfl ?_
        refine G_stay (.no rfl rfl rfl rfl) rfl rfl ?_
        refine G_val (V_pick_f rfl rfl rfl) rfl rfl (.none rfl) ?_
        refine G_val (V_move rfl rfl) rfl rfl (.none rfl) ?_
        refine G_val (V_fieldAddr rfl rfl (by decide)) rfl rfl (.yes rfl rfl rfl rfl) ?_
        refine G_val (V_fieldAddr rfl rfl (by decide)) rfl rfl (.yes rfl rfl rfl rfl) ?_
        refine G_val (V_load rfl rfl (Cell.own (.head _) rfl)) rfl rfl (.yes rfl rfl rfl rfl) ?_
        refine G_val (V_neq rfl rfl rfl) rfl rfl (.yes rfl rfl rfl rfl) ?_
        refine G_val (V_move rfl rfl) rfl rfl (.yes rfl rfl rfl rfl) ?_
        refine G.bool_t 100 rfl (by kernel_rfl) ?_
        refine G_val (V_fieldAddr rfl rfl (by decide)) rfl rfl (.yes rfl rfl rfl rfl) ?_
        refine G_val (V_fieldAddr rfl rfl (by decide)) rfl rfl (.yes rfl rfl rfl rfl) ?_
        refine G_val (V_load rfl rfl (Cell.own (.head _) rfl)) rfl rfl (.yes rfl rfl rfl rfl) ?_
        refine G_val (V_neq rfl rfl rfl) rfl rfl (.yes rfl rfl rfl rfl) ?_
        refine G_val (V_move rfl rfl) rfl rfl (.yes rfl rfl rfl rfl) ?_
        refine G.bool_f 105 rfl (by kernel_rfl) ?_
        refine G_val (V_fieldAddr rfl rfl (by decide)) rfl rfl (.yes rfl rfl rfl rfl) ?_
        refine G_val (V_load rfl rfl (Cell.own (.head _) rfl)) rfl rfl (.yes rfl rfl rfl rfl) ?_
        refine G_val (V_fieldAddr rfl rfl (by decide)) rfl rfl (.yes rfl rfl rfl rfl) ?_
        refine G_val (V_load rfl rfl (Cell.own (.tail _ (.head _)) rfl)) rfl rfl (.yes rfl rfl rfl rfl) ?_
        refine G_val (V_neq rfl rfl rfl) rfl rfl (.yes rfl rfl rfl rfl) ?_
        refine G_val (V_pick_f rfl rfl rfl) rfl rfl (.yes rfl rfl rfl rfl) ?_
        refine G_val (V_pick_t rfl rfl rfl) rfl rfl (.yes rfl rfl rfl rfl) ?_
        refine G_val (V_pick_f rfl rfl rfl) rfl rfl (.none rfl) ?_
        refine G_end ?_
        refine X_then ?_
        refine G_cond_f rfl (decide_eq_false (by omega)) ?_
        refine G_skip ?_
        refine X_then ?_
        refine G_region ?_
        refine G_val (V_loadA rfl rfl (Cells.own (.head _)) rfl) rfl rfl (.none rfl) ?_
        refine G_storeA rfl rfl rfl rfl (by simp [Value.oneCell']) rfl (.none rfl) (.tail _ (.head _ _ _)) rfl ?_
        refine G_end ?_
        refine X_block ?_
        refine X_then ?_
        refine G_region ?_
        refine G_val (V_move rfl rfl) rfl rfl (.none rfl) ?_
        refine G_val (V_add_i64 rfl rfl rfl (by omega) (by omega)) rfl rfl (.none rfl) ?_
        refine G_val (V_assign rfl rfl) rfl rfl (.none rfl) ?_
        refine G_end ?_
        refine X_then ?_
        refine G.drop ?_
        exact G_again (k + 1, ⟨_, _, 5, fa⟩) ⟨by simp only; omega, rfl, .inr ⟨Int.natCast_nonneg _, Int.ofNat_le.2 hP, rfl, hf1, by simp only; omega, by simp only; omega⟩⟩ (by simp only; omega) ⟨rfl, rfl, rfl, rfl, rfl, rfl, trivial⟩ rfl rfl
    · have hstep := aStr_fault ⟨(lens texts).flatten.take ((A : Int)).toNat, qa, 5, qf⟩ 20 ⟨by simp only; omega, hq1, by simp only; omega, .inr ⟨by show (1 : Int) ≤ 5; decide, by show (5 : Int) ≤ 31; decide, hq3, by simp only; omega⟩⟩ (by show ¬ (5 : Int) = 0; decide)
      refine G_seq ?_
      refine G_seq ?_
      refine G_region ?_
      refine G_val (V_move rfl rfl) rfl rfl (.none rfl) ?_
      refine G_val (V_move rfl rfl) rfl rfl (.none rfl) ?_
      refine G_val (V_lenS rfl rfl) rfl rfl (.none rfl) ?_
      refine G_val (V_lss rfl rfl rfl) rfl rfl (.none rfl) ?_
      refine G_end ?_
      refine X_then ?_
      refine G_cond_t rfl (decide_eq_true (by omega)) ?_
      refine G_skip ?_
      refine X_then ?_
      refine G_seq ?_
      refine G_block ?_
      refine G_seq ?_
      refine G_region ?_
      refine G_val (V_loadA rfl rfl (Cells.own (.head _)) rfl) rfl rfl (.none rfl) ?_
      refine G_callv (k := 52) (.mk rfl rfl rfl rfl) rfl rfl (.none rfl) (String_call'' _ _ _ _ _ _ _ _ _ _ _ _ (by first | assumption | exact SlE.toI (by assumption) rfl | exact SlE.toS (by assumption) rfl | omega | (simp; omega) | (simp; done)) (by first | assumption | exact SlE.toI (by assumption) rfl | exact SlE.toS (by assumption) rfl | omega | (simp; omega) | (simp; done)) (by first | assumption | exact SlE.toI (by assumption) rfl | exact SlE.toS (by assumption) rfl | omega | (simp; omega) | (simp; done))) ?_
      refine G_val (V_move rfl rfl) rfl rfl (.none rfl) ?_
      refine G_val (V_extract rfl rfl rfl) rfl rfl (.none rfl) ?_
      refine G_val (V_extract rfl rfl rfl) rfl rfl (.none rfl) ?_
      (refine G_alloc rfl rfl rfl (.none rfl) ?_; intro b10)
      refine G_storeA rfl rfl rfl rfl (by simp [Value.oneCell']) rfl (.none rfl) (.head _ _ _) rfl ?_
      refine G_val (V_assign rfl rfl) rfl rfl (.none rfl) ?_
      refine G_end ?_
      refine X_then ?_
      refine G_seq ?_
      refine G_seq ?_
      refine G_draw mixed (by kernel_rfl) ?_
      refine Q_val (V_fieldAddr rfl rfl (by decide)) rfl rfl (.none rfl) ?_
      refine Q_val (V_load rfl rfl (Cell.own (.head _) rfl)) rfl rfl (.none rfl) ?_
      refine Q_val (V_move rfl rfl) rfl rfl (.none rfl) ?_
      refine Q_val (V_move rfl rfl) rfl rfl (.none rfl) ?_
      refine Q_val (V_front rfl rfl rfl (by omega) (by omega)) rfl rfl (.none rfl) ?_
      refine Q_val (V_sneq rfl rfl rfl) rfl rfl (.none rfl) ?_
      refine Q_val (V_move rfl rfl) rfl rfl (.none rfl) ?_
      refine Q_bool_f 59 rfl (by simp [*]; done) ?_
      refine Q_val (V_fieldAddr rfl rfl (by decide)) rfl rfl (.yes rfl rfl rfl rfl) ?_
      refine Q_val (V_load rfl rfl (Cell.own (.head _) rfl)) rfl rfl (.yes rfl rfl rfl rfl) ?_
      refine Q_val (V_fieldAddr rfl rfl (by decide)) rfl rfl (.yes rfl rfl rfl rfl) ?_
      refine Q_val (V_load rfl rfl (Cell.own (.tail _ (.head _)) rfl)) rfl rfl (.yes rfl rfl rfl rfl) ?_
      refine Q_val (V_lss rfl rfl rfl) rfl rfl (.yes rfl rfl rfl rfl) ?_
      refine Q_val (V_pick_f rfl rfl rfl) rfl rfl (.none rfl) ?_
      refine Q_val (V_move rfl rfl) rfl rfl (.none rfl) ?_
      refine Q_bool_f 66 rfl (decide_eq_false (by omega)) ?_
      refine Q_val (V_fieldAddr rfl rfl (by decide)) rfl rfl (.yes rfl rfl rfl rfl) ?_
      refine Q_val (V_load rfl rfl (Cell.own (.head _) rfl)) rfl rfl (.yes rfl rfl rfl rfl) ?_
      refine Q_val (V_move rfl rfl) rfl rfl (.yes rfl rfl rfl rfl) ?_
      refine Q_val (V_gtr rfl rfl rfl) rfl rfl (.yes rfl rfl rfl rfl) ?_
      refine Q_val (V_pick_f rfl rfl rfl) rfl rfl (.none rfl) ?_
      refine Q_end ?_
      refine X_then ?_
      refine G_cond_f rfl (decide_eq_false (by omega)) ?_
      refine G_skip ?_
      refine X_then ?_
      refine G_seq ?_
      refine G_seq ?_
      refine G_region ?_
      refine G_val (V_fieldAddr rfl rfl (by decide)) rfl rfl (.none rfl) ?_
      refine G_val (V_fieldAddr rfl rfl (by decide)) rfl rfl (.none rfl) ?_
      refine G_val (V_load rfl rfl (Cell.own (.tail _ (.head _)) rfl)) rfl rfl (.none rfl) ?_
      refine G_val (V_neq rfl rfl rfl) rfl rfl (.none rfl) ?_
      refine G_end ?_
      refine X_then ?_
      refine G_cond_t rfl (by kernel_rfl) ?_
      refine G_seq ?_
      refine G_seq ?_
      refine G_region ?_
      refine G_val (V_loadA rfl rfl (Cells.own (.head _)) rfl) rfl rfl (.none rfl) ?_
      refine G_val (V_loadA rfl rfl (Cells.own (.tail _ (.head _))) rfl) rfl rfl (.none rfl) ?_
      refine G_val (V_aneq_27 rfl rfl rfl) rfl rfl (.none rfl) ?_
      refine G_val (V_move rfl rfl) rfl rfl (.none rfl) ?_
      refine G.bool_f 79 rfl (by simp [*]; done) ?_
      refine G_val (V_move rfl rfl) rfl rfl (.yes rfl rfl rfl rfl) ?_
      refine G_val (V_sneq rfl rfl rfl) rfl rfl (.yes rfl rfl rfl rfl) ?_
      refine G_val (V_pick_f rfl rfl rfl) rfl rfl (.none rfl) ?_
      refine G_end ?_
      refine X_then ?_
      refine G_cond_f rfl (by kernel_rfl) ?_
      refine G_skip ?_
      refine X_then ?_
      refine G_exit ?_
      refine X_then_exit ?_
      refine X_block_hit ?_
      refine X_then ?_
      refine G_region ?_
      refine G_val (V_move rfl rfl) rfl rfl (.none rfl) ?_
      refine G_val (V_add_i64 rfl rfl rfl (by omega) (by omega)) rfl rfl (.none rfl) ?_
      refine G_val (V_assign rfl rfl) rfl rfl (.none rfl) ?_
      refine G_end ?_
      refine X_then ?_
      refine G.drop ?_
      exact G_again (k + 1, ⟨_, qa, 5, qf⟩) ⟨by simp only; omega, rfl, .inr ⟨hq1, hq2, rfl, hq3, hq4, by simp only; omega⟩⟩ (by simp only; omega) ⟨rfl, rfl, rfl, rfl, rfl, rfl, trivial⟩ rfl rfl
  · have hke : k = texts.length := by omega
    subst hke
    rw [List.take_length] at hq
    rcases hq with ⟨rfl, rfl, rfl, hP⟩ | ⟨hq1, hq2, rfl, hq3, hq4, hP⟩
    · have hAe : A = (lens texts).flatten.length := by omega
      subst hAe
      refine G_seq ?_
      refine G_seq ?_
      refine G_region ?_
      refine G_val (V_move rfl rfl) rfl rfl (.none rfl) ?_
      refine G_val (V_move rfl rfl) rfl rfl (.none rfl) ?_
      refine G_val (V_lenS rfl rfl) rfl rfl (.none rfl) ?_
      refine G_val (V_lss rfl rfl rfl) rfl rfl (.none rfl) ?_
      refine G_end ?_
      refine X_then ?_
      refine G_cond_f rfl (decide_eq_false (by omega)) ?_
      refine G_exit ?_
      refine X_then_exit ?_
      refine X_then_exit ?_
      refine X_block_hit ?_
      refine X_then ?_
      refine G_seq ?_
      refine G_seq ?_
      refine G_region ?_
      refine G_val (V_fieldAddr rfl rfl (by decide)) rfl rfl (.none rfl) ?_
      refine G_val (V_fieldAddr rfl rfl (by decide)) rfl rfl (.none rfl) ?_
      refine G_val (V_load rfl rfl (Cell.own (.head _) rfl)) rfl rfl (.none rfl) ?_
      refine G_val (V_eql rfl rfl rfl) rfl rfl (.none rfl) ?_
      refine G_val (V_move rfl rfl) rfl rfl (.none rfl) ?_
      refine G_val (V_move rfl rfl) rfl rfl (.none rfl) ?_
      refine G_val (V_len rfl rfl) rfl rfl (.none rfl) ?_
      refine G_val (V_eql rfl rfl rfl) rfl rfl (.none rfl) ?_
      refine G_val (V_bneq rfl rfl rfl) rfl rfl (.none rfl) ?_
      refine G_end ?_
      refine X_then ?_
      refine G_cond_f rfl (by simp [*]; done) ?_
      refine G_skip ?_
      refine X_then ?_
      refine G_seq ?_
      refine G_region ?_
      refine G_val (V_move rfl rfl) rfl rfl (.none rfl) ?_
      refine G_val (V_len rfl rfl) rfl rfl (.none rfl) ?_
      refine G_callv (k := 20) (.mk rfl rfl rfl rfl) rfl rfl (.none rfl) (Make_call' _ _ _ (by first | assumption | exact SlE.toI (by assumption) rfl | exact SlE.toS (by assumption) rfl | omega | (simp; omega) | (simp; done)) (by first | assumption | exact SlE.toI (by assumption) rfl | exact SlE.toS (by assumption) rfl | omega | (simp; omega) | (simp; done))) ?_
      refine G_val (V_move rfl rfl) rfl rfl (.none rfl) ?_
      refine G_callv (k := 28) (.mk rfl rfl rfl rfl) rfl rfl (.none rfl) (Add_call'' _ _ _ (by first | assumption | exact SlE.toI (by assumption) rfl | exact SlE.toS (by assumption) rfl | omega | (simp; omega) | (simp; done)) _ (by first | assumption | exact SlE.toI (by assumption) rfl | exact SlE.toS (by assumption) rfl | omega | (simp; omega) | (simp; done)) _ _ (by first | assumption | exact SlE.toI (by assumption) rfl | exact SlE.toS (by assumption) rfl | omega | (simp; omega) | (simp; done)) (by first | assumption | exact SlE.toI (by assumption) rfl | exact SlE.toS (by assumption) rfl | omega | (simp; omega) | (simp; done)) (by first | assumption | exact SlE.toI (by assumption) rfl | exact SlE.toS (by assumption) rfl | omega | (simp; omega) | (simp; done))) ?_
      (refine G_alloc rfl rfl rfl (.none rfl) ?_; intro b12)
      refine G_storeA rfl rfl rfl rfl (by simp [Value.oneCell']) rfl (.none rfl) (.head _ _ _) rfl ?_
      refine G_end ?_
      refine X_then ?_
      refine G_seq ?_
      refine G_region ?_
      refine G_val (V_loadA rfl rfl (Cells.own (.head _)) rfl) rfl rfl (.none rfl) ?_
      refine G_callv (k := 28) (.mk rfl rfl rfl rfl) rfl rfl (.none rfl) (AddOver_call _ _ _ _ (by first | assumption | exact SlE.toI (by assumption) rfl | exact SlE.toS (by assumption) rfl | omega | (simp; omega) | (simp; done)) (by first | assumption | exact SlE.toI (by assumption) rfl | exact SlE.toS (by assumption) rfl | omega | (simp; omega) | (simp; done)) _ (by first | assumption | exact SlE.toI (by assumption) rfl | exact SlE.toS (by assumption) rfl | omega | (simp; omega) | (simp; done)) _ (by first | assumption | exact SlE.toI (by assumption) rfl | exact SlE.toS (by assumption) rfl | omega | (simp; omega) | (simp; done)) (by first | assumption | exact SlE.toI (by assumption) rfl | exact SlE.toS (by assumption) rfl | omega | (simp; omega) | (simp; done)) (by first | assumption | exact SlE.toI (by assumption) rfl | exact SlE.toS (by assumption) rfl | omega | (simp; omega) | (simp; done))) ?_
      (refine G_alloc rfl rfl rfl (.none rfl) ?_; intro b13)
      refine G_storeA rfl rfl rfl rfl (by simp [Value.oneCell']) rfl (.none rfl) (.head _ _ _) rfl ?_
      refine G_end ?_
      refine X_then ?_
      refine G_seq ?_
      refine G_drawX 49 ((0, 0) :: (1, 0) :: (2, 0) :: (3, 1) :: (4, 0) :: (5, 0) :: (6, 0) :: (7, 0) :: (8, 1) :: (9, 0) :: (10, 0) :: (11, 0) :: (12, 0) :: (13, 0) :: (14, 1) :: (15, 0) :: (16, 0) :: (17, 0) :: (18, 0) :: (19, 1) :: (20, 0) :: (21, 0) :: (22, 0) :: (23, 0) :: (24, 1) :: (26, 1) :: (25, 3) :: (27, 0) :: (28, 0) :: (29, 0) :: (30, 1) :: (33, 1) :: (31, 2) :: (32, 3) :: (34, 0) :: (35, 0) :: (36, 0) :: (37, 1) :: (39, 1) :: (38, 3) :: (40, 0) :: (41, 0) :: (42, 0) :: (43, 1) :: (45, 1) :: (44, 3) :: (46, 0) :: (47, 0) :: (48, 0) :: []) mixed (by kernel_rfl) ?_
      refine F_pure rfl (fun _ _ => V_move rfl rfl) rfl rfl (.none rfl) ?_
      refine F_pure rfl (fun _ _ => V_move rfl rfl) rfl rfl (.none rfl) ?_
      refine F_pure rfl (fun _ _ => V_fieldAddr rfl rfl (by decide)) rfl rfl (.yes rfl rfl rfl rfl) ?_
      refine F_load rfl (.tail _ (.head _)) (V_load rfl rfl (Cell.own (.head _) rfl)) rfl rfl (.yes rfl rfl rfl rfl) ?_
      refine F_pure rfl (fun _ _ => V_eql rfl rfl rfl) rfl rfl (.yes rfl rfl rfl rfl) ?_
      refine F_pure rfl (fun _ _ => V_pick_t rfl rfl rfl) rfl rfl (.none rfl) ?_
      refine F_pure rfl (fun _ _ => V_move rfl rfl) rfl rfl (.none rfl) ?_
      refine GF.bool_t 137 rfl (by kernel_rfl) ?_
      refine F_pure rfl (fun _ _ => V_fieldAddr rfl rfl (by decide)) rfl rfl (.yes rfl rfl rfl rfl) ?_
      refine F_load rfl (.tail _ (.head _)) (V_load rfl rfl (Cell.own (.head _) rfl)) rfl rfl (.yes rfl rfl rfl rfl) ?_
      refine F_pure rfl (fun _ _ => V_move rfl rfl) rfl rfl (.yes rfl rfl rfl rfl) ?_
      refine F_pure rfl (fun _ _ => V_seql rfl rfl rfl) rfl rfl (.yes rfl rfl rfl rfl) ?_
      refine F_pure rfl (fun _ _ => V_pick_t rfl rfl rfl) rfl rfl (.none rfl) ?_
      refine F_pure rfl (fun _ _ => V_move rfl rfl) rfl rfl (.none rfl) ?_
      refine GF.bool_t 143 rfl (by simp [*]; done) ?_
      refine F_pure rfl (fun _ _ => V_fieldAddr rfl rfl (by decide)) rfl rfl (.yes rfl rfl rfl rfl) ?_
      refine F_load rfl (.head _) (V_load rfl rfl (Cell.own (.head _) rfl)) rfl rfl (.yes rfl rfl rfl rfl) ?_
      refine F_pure rfl (fun _ _ => V_eql rfl rfl rfl) rfl rfl (.yes rfl rfl rfl rfl) ?_
      refine F_pure rfl (fun _ _ => V_pick_t rfl rfl rfl) rfl rfl (.none rfl) ?_
      refine F_pure rfl (fun _ _ => V_move rfl rfl) rfl rfl (.none rfl) ?_
      refine GF.bool_t 148 rfl (by kernel_rfl) ?_
      refine F_pure rfl (fun _ _ => V_fieldAddr rfl rfl (by decide)) rfl rfl (.yes rfl rfl rfl rfl) ?_
      refine F_load rfl (.head _) (V_load rfl rfl (Cell.own (.head _) rfl)) rfl rfl (.yes rfl rfl rfl rfl) ?_
      refine F_pure rfl (fun _ _ => V_move rfl rfl) rfl rfl (.yes rfl rfl rfl rfl) ?_
      refine F_pure rfl (fun _ _ => V_seql rfl rfl rfl) rfl rfl (.yes rfl rfl rfl rfl) ?_
      refine F_pure rfl (fun _ _ => V_pick_t rfl rfl rfl) rfl rfl (.none rfl) ?_
      refine F_pure rfl (fun _ _ => V_move rfl rfl) rfl rfl (.none rfl) ?_
      refine GF.bool_t 154 rfl (by simp [*]; done) ?_
      refine F_load rfl (.head _) (V_loadA rfl rfl (Cells.own (.head _)) rfl) rfl rfl (.yes rfl rfl rfl rfl) ?_
      refine F_load rfl (.head _) (V_loadA rfl rfl (Cells.own (.head _)) rfl) rfl rfl (.yes rfl rfl rfl rfl) ?_
      refine F_callv (k := 22) rfl (.mk rfl rfl rfl rfl) rfl rfl (.yes rfl rfl rfl rfl) (fun _ => PutBad_call _ _ _ _ (by first | assumption | exact SlE.toI (by assumption) rfl | exact SlE.toS (by assumption) rfl | omega | (simp; omega) | (simp; done)) (by first | assumption | exact SlE.toI (by assumption) rfl | exact SlE.toS (by assumption) rfl | omega | (simp; omega) | (simp; done)) _ (by first | assumption | exact SlE.toI (by assumption) rfl | exact SlE.toS (by assumption) rfl | omega | (simp; omega) | (simp; done)) _ (by first | assumption | exact SlE.toI (by assumption) rfl | exact SlE.toS (by assumption) rfl | omega | (simp; omega) | (simp; done)) (by first | assumption | exact SlE.toI (by assumption) rfl | exact SlE.toS (by assumption) rfl | omega | (simp; omega) | (simp; done))) ?_
      refine F_pure rfl (fun _ _ => V_aeql_31 rfl rfl rfl) rfl rfl (.yes rfl rfl rfl rfl) ?_
      refine F_pure rfl (fun _ _ => V_pick_t rfl rfl rfl) rfl rfl (.none rfl) ?_
      refine F_pure rfl (fun _ _ => V_move rfl rfl) rfl rfl (.none rfl) ?_
      refine GF.bool_t 160 rfl (by simp [*]; done) ?_
      refine F_load rfl (.head _) (V_loadA rfl rfl (Cells.own (.head _)) rfl) rfl rfl (.yes rfl rfl rfl rfl) ?_
      refine F_load rfl (.head _) (V_loadA rfl rfl (Cells.own (.head _)) rfl) rfl rfl (.yes rfl rfl rfl rfl) ?_
      (refine F_litZ rfl rfl rfl (by decide) (by simp [fillS, zeros, setLs, setL, Value.cells, List.range, List.range.loop]; rfl) (by rfl) rfl rfl (.yes rfl rfl rfl rfl) ?_; intro b162 E162 hE162 hs162)
      replace hp := hp.mono hE162
      refine F_callv (k := 24) rfl (.mk rfl rfl rfl rfl) rfl rfl (.yes rfl rfl rfl rfl) (fun _ => PutStringBad_call _ _ _ _ (by first | assumption | exact SlE.toI (by assumption) rfl | exact SlE.toS (by assumption) rfl | omega | (simp; omega) | (simp; done)) (by first | assumption | exact SlE.toI (by assumption) rfl | exact SlE.toS (by assumption) rfl | omega | (simp; omega) | (simp; done)) _ (by first | assumption | exact SlE.toI (by assumption) rfl | exact SlE.toS (by assumption) rfl | omega | (simp; omega) | (simp; done)) _ _ _ _ (by first | assumption | exact SlE.toI (by assumption) rfl | exact SlE.toS (by assumption) rfl | omega | (simp; omega) | (simp; done)) (by first | assumption | exact SlE.toI (by assumption) rfl | exact SlE.toS (by assumption) rfl | omega | (simp; omega) | (simp; done)) (by first | assumption | exact SlE.toI (by assumption) rfl | exact SlE.toS (by assumption) rfl | omega | (simp; omega) | (simp; done)) (by first | assumption | exact SlE.toI (by assumption) rfl | exact SlE.toS (by assumption) rfl | omega | (simp; omega) | (simp; done))) ?_
      refine F_pure rfl (fun _ _ => V_aeql_31 rfl rfl rfl) rfl rfl (.yes rfl rfl rfl rfl) ?_
      refine F_pure rfl (fun _ _ => V_pick_t rfl rfl rfl) rfl rfl (.none rfl) ?_
      refine F_pure rfl (fun _ _ => V_move rfl rfl) rfl rfl (.none rfl) ?_
      refine GF.bool_t 167 rfl (by simp [*]; done) ?_
      refine F_load rfl (.head _) (V_loadA rfl rfl (Cells.own (.head _)) rfl) rfl rfl (.yes rfl rfl rfl rfl) ?_
      refine F_load rfl (.head _) (V_loadA rfl rfl (Cells.own (.head _)) rfl) rfl rfl (.yes rfl rfl rfl rfl) ?_
      refine F_callv (k := 26) rfl (.mk rfl rfl rfl rfl) rfl rfl (.yes rfl rfl rfl rfl) (fun _ => PutIntsBad_call _ _ _ _ (by first | assumption | exact SlE.toI (by assumption) rfl | exact SlE.toS (by assumption) rfl | omega | (simp; omega) | (simp; done)) (by first | assumption | exact SlE.toI (by assumption) rfl | exact SlE.toS (by assumption) rfl | omega | (simp; omega) | (simp; done)) _ (by first | assumption | exact SlE.toI (by assumption) rfl | exact SlE.toS (by assumption) rfl | omega | (simp; omega) | (simp; done)) _ _ (by first | assumption | exact SlE.toI (by assumption) rfl | exact SlE.toS (by assumption) rfl | omega | (simp; omega) | (simp; done)) (by first | assumption | exact SlE.toI (by assumption) rfl | exact SlE.toS (by assumption) rfl | omega | (simp; omega) | (simp; done)) (by first | assumption | exact SlE.toI (by assumption) rfl | exact SlE.toS (by assumption) rfl | omega | (simp; omega) | (simp; done))) ?_
      refine F_pure rfl (fun _ _ => V_aeql_31 rfl rfl rfl) rfl rfl (.yes rfl rfl rfl rfl) ?_
      refine F_pure rfl (fun _ _ => V_pick_t rfl rfl rfl) rfl rfl (.none rfl) ?_
      refine F_pure rfl (fun _ _ => V_move rfl rfl) rfl rfl (.none rfl) ?_
      refine GF.bool_t 173 rfl (by simp [*]; done) ?_
      refine F_load rfl (.head _) (V_loadA rfl rfl (Cells.own (.head _)) rfl) rfl rfl (.yes rfl rfl rfl rfl) ?_
      refine F_load rfl (.head _) (V_loadA rfl rfl (Cells.own (.head _)) rfl) rfl rfl (.yes rfl rfl rfl rfl) ?_
      refine F_callv (k := 28) rfl (.mk rfl rfl rfl rfl) rfl rfl (.yes rfl rfl rfl rfl) (fun _ => AddBad_call _ _ _ _ (by first | assumption | exact SlE.toI (by assumption) rfl | exact SlE.toS (by assumption) rfl | omega | (simp; omega) | (simp; done)) (by first | assumption | exact SlE.toI (by assumption) rfl | exact SlE.toS (by assumption) rfl | omega | (simp; omega) | (simp; done)) _ (by first | assumption | exact SlE.toI (by assumption) rfl | exact SlE.toS (by assumption) rfl | omega | (simp; omega) | (simp; done)) _ (by first | assumption | exact SlE.toI (by assumption) rfl | exact SlE.toS (by assumption) rfl | omega | (simp; omega) | (simp; done)) (by first | assumption | exact SlE.toI (by assumption) rfl | exact SlE.toS (by assumption) rfl | omega | (simp; omega) | (simp; done))) ?_
      refine F_pure rfl (fun _ _ => V_aeql_31 rfl rfl rfl) rfl rfl (.yes rfl rfl rfl rfl) ?_
      refine F_pure rfl (fun _ _ => V_pick_t rfl rfl rfl) rfl rfl (.none rfl) ?_
      refine F_pure rfl (fun _ _ => V_assign rfl rfl) rfl rfl (.none rfl) ?_
      (refine F_end (.nil _) ?_; dsimp only [List.drop])
      refine G_end ?_
      refine X_then ?_
      refine G_ret ?_
      refine G_leaveS (.drop _ (.drop _ (.drop _ (.nil _)))) (by exact (.cons (.tmp rfl) (.nil))) rfl ?_ ?_
      · exact (hE4.trans hE162)
      exact ⟨(by first | rfl | (simp (discharger := omega) only [resVal, if_pos, if_neg]; first | done | rfl) | (simp [resVal, *]; done) | ((try simp only [resVal]); (repeat' split) <;> first | rfl | (exfalso; omega) | (simp_all; done) | (simp_all; omega))), (by first | rfl | (simp (discharger := omega) only [resVal, if_pos, if_neg]; first | done | rfl) | (simp [resVal, *]; done) | ((try simp only [resVal]); (repeat' split) <;> first | rfl | (exfalso; omega) | (simp_all; done) | (simp_all; omega)))⟩
    · have hAe : ¬ (A : Int) = (lens texts).flatten.length := by omega
      refine G_seq ?_
      refine G_seq ?_
      refine G_region ?_
      refine G_val (V_move rfl rfl) rfl rfl (.none rfl) ?_
      refine G_val (V_move rfl rfl) rfl rfl (.none rfl) ?_
      refine G_val (V_lenS rfl rfl) rfl rfl (.none rfl) ?_
      refine G_val (V_lss rfl rfl rfl) rfl rfl (.none rfl) ?_
      refine G_end ?_
      refine X_then ?_
      refine G_cond_f rfl (decide_eq_false (by omega)) ?_
      refine G_exit ?_
      refine X_then_exit ?_
      refine X_then_exit ?_
      refine X_block_hit ?_
      refine X_then ?_
      refine G_seq ?_
      refine G_seq ?_
      refine G_region ?_
      refine G_val (V_fieldAddr rfl rfl (by decide)) rfl rfl (.none rfl) ?_
      refine G_val (V_fieldAddr rfl rfl (by decide)) rfl rfl (.none rfl) ?_
      refine G_val (V_load rfl rfl (Cell.own (.head _) rfl)) rfl rfl (.none rfl) ?_
      refine G_val (V_eql rfl rfl rfl) rfl rfl (.none rfl) ?_
      refine G_val (V_move rfl rfl) rfl rfl (.none rfl) ?_
      refine G_val (V_move rfl rfl) rfl rfl (.none rfl) ?_
      refine G_val (V_len rfl rfl) rfl rfl (.none rfl) ?_
      refine G_val (V_eql rfl rfl rfl) rfl rfl (.none rfl) ?_
      refine G_val (V_bneq rfl rfl rfl) rfl rfl (.none rfl) ?_
      refine G_end ?_
      refine X_then ?_
      refine G_cond rfl (fun H1 => ?_) (fun H1 => ?_)
      · simp only [Bool.and_eq_true, Bool.or_eq_true, Bool.not_eq_true', Bool.not_eq_false', Bool.and_eq_false_iff, Bool.or_eq_false_iff, Bool.not_not, decide_eq_true_eq, decide_eq_false_iff_not, ne_eq, Decidable.not_not, Bool.decide_eq_true] at H1
        refine G_seq ?_
        refine G_region ?_
        refine G_val (V_assign rfl rfl) rfl rfl (.none rfl) ?_
        refine G_end ?_
        refine X_then ?_
        refine G_ret ?_
        refine X_then_ret ?_
        refine G_leaveS (.drop _ (.nil _)) (by exact (.cons (.tmp rfl) (.nil))) rfl ?_ ?_
        · exact hE4
        exact ⟨(by first | rfl | (simp (discharger := omega) only [resVal, if_pos, if_neg]; first | done | rfl) | (simp [resVal, *]; done) | ((try simp only [resVal]); (repeat' split) <;> first | rfl | (exfalso; omega) | (simp_all; done) | (simp_all; omega))), (by first | rfl | (simp (discharger := omega) only [resVal, if_pos, if_neg]; first | done | rfl) | (simp [resVal, *]; done) | ((try simp only [resVal]); (repeat' split) <;> first | rfl | (exfalso; omega) | (simp_all; done) | (simp_all; omega)))⟩
      simp only [Bool.and_eq_true, Bool.or_eq_true, Bool.not_eq_true', Bool.not_eq_false', Bool.and_eq_false_iff, Bool.or_eq_false_iff, Bool.not_not, decide_eq_true_eq, decide_eq_false_iff_not, ne_eq, Decidable.not_not, Bool.decide_eq_true] at H1
      refine G_skip ?_
      refine X_then ?_
      refine G_seq ?_
      refine G_region ?_
      refine G_val (V_move rfl rfl) rfl rfl (.none rfl) ?_
      refine G_val (V_len rfl rfl) rfl rfl (.none rfl) ?_
      refine G_callv (k := 20) (.mk rfl rfl rfl rfl) rfl rfl (.none rfl) (Make_call' _ _ _ (by first | assumption | exact SlE.toI (by assumption) rfl | exact SlE.toS (by assumption) rfl | omega | (simp; omega) | (simp; done)) (by first | assumption | exact SlE.toI (by assumption) rfl | exact SlE.toS (by assumption) rfl | omega | (simp; omega) | (simp; done))) ?_
      refine G_val (V_move rfl rfl) rfl rfl (.none rfl) ?_
      refine G_callv (k := 28) (.mk rfl rfl rfl rfl) rfl rfl (.none rfl) (Add_call'' _ _ _ (by first | assumption | exact SlE.toI (by assumption) rfl | exact SlE.toS (by assumption) rfl | omega | (simp; omega) | (simp; done)) _ (by first | assumption | exact SlE.toI (by assumption) rfl | exact SlE.toS (by assumption) rfl | omega | (simp; omega) | (simp; done)) _ _ (by first | assumption | exact SlE.toI (by assumption) rfl | exact SlE.toS (by assumption) rfl | omega | (simp; omega) | (simp; done)) (by first | assumption | exact SlE.toI (by assumption) rfl | exact SlE.toS (by assumption) rfl | omega | (simp; omega) | (simp; done)) (by first | assumption | exact SlE.toI (by assumption) rfl | exact SlE.toS (by assumption) rfl | omega | (simp; omega) | (simp; done))) ?_
      (refine G_alloc rfl rfl rfl (.none rfl) ?_; intro b12)
      refine G_storeA rfl rfl rfl rfl (by simp [Value.oneCell']) rfl (.none rfl) (.head _ _ _) rfl ?_
      refine G_end ?_
      refine X_then ?_
      refine G_seq ?_
      refine G_region ?_
      refine G_val (V_loadA rfl rfl (Cells.own (.head _)) rfl) rfl rfl (.none rfl) ?_
      refine G_callv (k := 28) (.mk rfl rfl rfl rfl) rfl rfl (.none rfl) (AddOver_call _ _ _ _ (by first | assumption | exact SlE.toI (by assumption) rfl | exact SlE.toS (by assumption) rfl | omega | (simp; omega) | (simp; done)) (by first | assumption | exact SlE.toI (by assumption) rfl | exact SlE.toS (by assumption) rfl | omega | (simp; omega) | (simp; done)) _ (by first | assumption | exact SlE.toI (by assumption) rfl | exact SlE.toS (by assumption) rfl | omega | (simp; omega) | (simp; done)) _ (by first | assumption | exact SlE.toI (by assumption) rfl | exact SlE.toS (by assumption) rfl | omega | (simp; omega) | (simp; done)) (by first | assumption | exact SlE.toI (by assumption) rfl | exact SlE.toS (by assumption) rfl | omega | (simp; omega) | (simp; done)) (by first | assumption | exact SlE.toI (by assumption) rfl | exact SlE.toS (by assumption) rfl | omega | (simp; omega) | (simp; done))) ?_
      (refine G_alloc rfl rfl rfl (.none rfl) ?_; intro b13)
      refine G_storeA rfl rfl rfl rfl (by simp [Value.oneCell']) rfl (.none rfl) (.head _ _ _) rfl ?_
      refine G_end ?_
      refine X_then ?_
      refine G_seq ?_
      refine G_drawX 49 ((0, 0) :: (1, 0) :: (2, 0) :: (3, 1) :: (4, 0) :: (5, 0) :: (6, 0) :: (7, 0) :: (8, 1) :: (9, 0) :: (10, 0) :: (11, 0) :: (12, 0) :: (13, 0) :: (14, 1) :: (15, 0) :: (16, 0) :: (17, 0) :: (18, 0) :: (19, 1) :: (20, 0) :: (21, 0) :: (22, 0) :: (23, 0) :: (24, 1) :: (26, 1) :: (25, 3) :: (27, 0) :: (28, 0) :: (29, 0) :: (30, 1) :: (33, 1) :: (31, 2) :: (32, 3) :: (34, 0) :: (35, 0) :: (36, 0) :: (37, 1) :: (39, 1) :: (38, 3) :: (40, 0) :: (41, 0) :: (42, 0) :: (43, 1) :: (45, 1) :: (44, 3) :: (46, 0) :: (47, 0) :: (48, 0) :: []) mixed (by kernel_rfl) ?_
      refine F_pure rfl (fun _ _ => V_move rfl rfl) rfl rfl (.none rfl) ?_
      refine F_pure rfl (fun _ _ => V_move rfl rfl) rfl rfl (.none rfl) ?_
      refine F_pure rfl (fun _ _ => V_fieldAddr rfl rfl (by decide)) rfl rfl (.yes rfl rfl rfl rfl) ?_
      refine F_load rfl (.tail _ (.head _)) (V_load rfl rfl (Cell.own (.head _) rfl)) rfl rfl (.yes rfl rfl rfl rfl) ?_
      refine F_pure rfl (fun _ _ => V_eql rfl rfl rfl) rfl rfl (.yes rfl rfl rfl rfl) ?_
      refine F_pure rfl (fun _ _ => V_pick_t rfl rfl rfl) rfl rfl (.none rfl) ?_
      refine F_pure rfl (fun _ _ => V_move rfl rfl) rfl rfl (.none rfl) ?_
      refine GF.bool_t 137 rfl (by kernel_rfl) ?_
      refine F_pure rfl (fun _ _ => V_fieldAddr rfl rfl (by decide)) rfl rfl (.yes rfl rfl rfl rfl) ?_
      refine F_load rfl (.tail _ (.head _)) (V_load rfl rfl (Cell.own (.head _) rfl)) rfl rfl (.yes rfl rfl rfl rfl) ?_
      refine F_pure rfl (fun _ _ => V_move rfl rfl) rfl rfl (.yes rfl rfl rfl rfl) ?_
      refine F_pure rfl (fun _ _ => V_seql rfl rfl rfl) rfl rfl (.yes rfl rfl rfl rfl) ?_
      refine F_pure rfl (fun _ _ => V_pick_t rfl rfl rfl) rfl rfl (.none rfl) ?_
      refine F_pure rfl (fun _ _ => V_move rfl rfl) rfl rfl (.none rfl) ?_
      refine GF.bool_t 143 rfl (by simp [*]; done) ?_
      refine F_pure rfl (fun _ _ => V_fieldAddr rfl rfl (by decide)) rfl rfl (.yes rfl rfl rfl rfl) ?_
      refine F_load rfl (.head _) (V_load rfl rfl (Cell.own (.head _) rfl)) rfl rfl (.yes rfl rfl rfl rfl) ?_
      refine F_pure rfl (fun _ _ => V_eql rfl rfl rfl) rfl rfl (.yes rfl rfl rfl rfl) ?_
      refine F_pure rfl (fun _ _ => V_pick_t rfl rfl rfl) rfl rfl (.none rfl) ?_
      refine F_pure rfl (fun _ _ => V_move rfl rfl) rfl rfl (.none rfl) ?_
      refine GF.bool_t 148 rfl (by kernel_rfl) ?_
      refine F_pure rfl (fun _ _ => V_fieldAddr rfl rfl (by decide)) rfl rfl (.yes rfl rfl rfl rfl) ?_
      refine F_load rfl (.head _) (V_load rfl rfl (Cell.own (.head _) rfl)) rfl rfl (.yes rfl rfl rfl rfl) ?_
      refine F_pure rfl (fun _ _ => V_move rfl rfl) rfl rfl (.yes rfl rfl rfl rfl) ?_
      refine F_pure rfl (fun _ _ => V_seql rfl rfl rfl) rfl rfl (.yes rfl rfl rfl rfl) ?_
      refine F_pure rfl (fun _ _ => V_pick_t rfl rfl rfl) rfl rfl (.none rfl) ?_
      refine F_pure rfl (fun _ _ => V_move rfl rfl) rfl rfl (.none rfl) ?_
      refine GF.bool_t 154 rfl (by simp [*]; done) ?_
      refine F_load rfl (.head _) (V_loadA rfl rfl (Cells.own (.head _)) rfl) rfl rfl (.yes rfl rfl rfl rfl) ?_
      refine F_load rfl (.head _) (V_loadA rfl rfl (Cells.own (.head _)) rfl) rfl rfl (.yes rfl rfl rfl rfl) ?_
      refine F_callv (k := 22) rfl (.mk rfl rfl rfl rfl) rfl rfl (.yes rfl rfl rfl rfl) (fun _ => PutBad_call _ _ _ _ (by first | assumption | exact SlE.toI (by assumption) rfl | exact SlE.toS (by assumption) rfl | omega | (simp; omega) | (simp; done)) (by first | assumption | exact SlE.toI (by assumption) rfl | exact SlE.toS (by assumption) rfl | omega | (simp; omega) | (simp; done)) _ (by first | assumption | exact SlE.toI (by assumption) rfl | exact SlE.toS (by assumption) rfl | omega | (simp; omega) | (simp; done)) _ (by first | assumption | exact SlE.toI (by assumption) rfl | exact SlE.toS (by assumption) rfl | omega | (simp; omega) | (simp; done)) (by first | assumption | exact SlE.toI (by assumption) rfl | exact SlE.toS (by assumption) rfl | omega | (simp; omega) | (simp; done))) ?_
      refine F_pure rfl (fun _ _ => V_aeql_31 rfl rfl rfl) rfl rfl (.yes rfl rfl rfl rfl) ?_
      refine F_pure rfl (fun _ _ => V_pick_t rfl rfl rfl) rfl rfl (.none rfl) ?_
      refine F_pure rfl (fun _ _ => V_move rfl rfl) rfl rfl (.none rfl) ?_
      refine GF.bool_t 160 rfl (by simp [*]; done) ?_
      refine F_load rfl (.head _) (V_loadA rfl rfl (Cells.own (.head _)) rfl) rfl rfl (.yes rfl rfl rfl rfl) ?_
      refine F_load rfl (.head _) (V_loadA rfl rfl (Cells.own (.head _)) rfl) rfl rfl (.yes rfl rfl rfl rfl) ?_
      (refine F_litZ rfl rfl rfl (by decide) (by simp [fillS, zeros, setLs, setL, Value.cells, List.range, List.range.loop]; rfl) (by rfl) rfl rfl (.yes rfl rfl rfl rfl) ?_; intro b162 E162 hE162 hs162)
      replace hp := hp.mono hE162
      refine F_callv (k := 24) rfl (.mk rfl rfl rfl rfl) rfl rfl (.yes rfl rfl rfl rfl) (fun _ => PutStringBad_call _ _ _ _ (by first | assumption | exact SlE.toI (by assumption) rfl | exact SlE.toS (by assumption) rfl | omega | (simp; omega) | (simp; done)) (by first | assumption | exact SlE.toI (by assumption) rfl | exact SlE.toS (by assumption) rfl | omega | (simp; omega) | (simp; done)) _ (by first | assumption | exact SlE.toI (by assumption) rfl | exact SlE.toS (by assumption) rfl | omega | (simp; omega) | (simp; done)) _ _ _ _ (by first | assumption | exact SlE.toI (by assumption) rfl | exact SlE.toS (by assumption) rfl | omega | (simp; omega) | (simp; done)) (by first | assumption | exact SlE.toI (by assumption) rfl | exact SlE.toS (by assumption) rfl | omega | (simp; omega) | (simp; done)) (by first | assumption | exact SlE.toI (by assumption) rfl | exact SlE.toS (by assumption) rfl | omega | (simp; omega) | (simp; done)) (by first | assumption | exact SlE.toI (by assumption) rfl | exact SlE.toS (by assumption) rfl | omega | (simp; omega) | (simp; done))) ?_
      refine F_pure rfl (fun _ _ => V_aeql_31 rfl rfl rfl) rfl rfl (.yes rfl rfl rfl rfl) ?_
      refine F_pure rfl (fun _ _ => V_pick_t rfl rfl rfl) rfl rfl (.none rfl) ?_
      refine F_pure rfl (fun _ _ => V_move rfl rfl) rfl rfl (.none rfl) ?_
      refine GF.bool_t 167 rfl (by simp [*]; done) ?_
      refine F_load rfl (.head _) (V_loadA rfl rfl (Cells.own (.head _)) rfl) rfl rfl (.yes rfl rfl rfl rfl) ?_
      refine F_load rfl (.head _) (V_loadA rfl rfl (Cells.own (.head _)) rfl) rfl rfl (.yes rfl rfl rfl rfl) ?_
      refine F_callv (k := 26) rfl (.mk rfl rfl rfl rfl) rfl rfl (.yes rfl rfl rfl rfl) (fun _ => PutIntsBad_call _ _ _ _ (by first | assumption | exact SlE.toI (by assumption) rfl | exact SlE.toS (by assumption) rfl | omega | (simp; omega) | (simp; done)) (by first | assumption | exact SlE.toI (by assumption) rfl | exact SlE.toS (by assumption) rfl | omega | (simp; omega) | (simp; done)) _ (by first | assumption | exact SlE.toI (by assumption) rfl | exact SlE.toS (by assumption) rfl | omega | (simp; omega) | (simp; done)) _ _ (by first | assumption | exact SlE.toI (by assumption) rfl | exact SlE.toS (by assumption) rfl | omega | (simp; omega) | (simp; done)) (by first | assumption | exact SlE.toI (by assumption) rfl | exact SlE.toS (by assumption) rfl | omega | (simp; omega) | (simp; done)) (by first | assumption | exact SlE.toI (by assumption) rfl | exact SlE.toS (by assumption) rfl | omega | (simp; omega) | (simp; done))) ?_
      refine F_pure rfl (fun _ _ => V_aeql_31 rfl rfl rfl) rfl rfl (.yes rfl rfl rfl rfl) ?_
      refine F_pure rfl (fun _ _ => V_pick_t rfl rfl rfl) rfl rfl (.none rfl) ?_
      refine F_pure rfl (fun _ _ => V_move rfl rfl) rfl rfl (.none rfl) ?_
      refine GF.bool_t 173 rfl (by simp [*]; done) ?_
      refine F_load rfl (.head _) (V_loadA rfl rfl (Cells.own (.head _)) rfl) rfl rfl (.yes rfl rfl rfl rfl) ?_
      refine F_load rfl (.head _) (V_loadA rfl rfl (Cells.own (.head _)) rfl) rfl rfl (.yes rfl rfl rfl rfl) ?_
      refine F_callv (k := 28) rfl (.mk rfl rfl rfl rfl) rfl rfl (.yes rfl rfl rfl rfl) (fun _ => AddBad_call _ _ _ _ (by first | assumption | exact SlE.toI (by assumption) rfl | exact SlE.toS (by assumption) rfl | omega | (simp; omega) | (simp; done)) (by first | assumption | exact SlE.toI (by assumption) rfl | exact SlE.toS (by assumption) rfl | omega | (simp; omega) | (simp; done)) _ (by first | assumption | exact SlE.toI (by assumption) rfl | exact SlE.toS (by assumption) rfl | omega | (simp; omega) | (simp; done)) _ (by first | assumption | exact SlE.toI (by assumption) rfl | exact SlE.toS (by assumption) rfl | omega | (simp; omega) | (simp; done)) (by first | assumption | exact SlE.toI (by assumption) rfl | exact SlE.toS (by assumption) rfl | omega | (simp; omega) | (simp; done))) ?_
      refine F_pure rfl (fun _ _ => V_aeql_31 rfl rfl rfl) rfl rfl (.yes rfl rfl rfl rfl) ?_
      refine F_pure rfl (fun _ _ => V_pick_t rfl rfl rfl) rfl rfl (.none rfl) ?_
      refine F_pure rfl (fun _ _ => V_assign rfl rfl) rfl rfl (.none rfl) ?_
      (refine F_end (.nil _) ?_; dsimp only [List.drop])
      refine G_end ?_
      refine X_then ?_
      refine G_ret ?_
      refine G_leaveS (.drop _ (.drop _ (.drop _ (.nil _)))) (by exact (.cons (.tmp rfl) (.nil))) rfl ?_ ?_
      · exact (hE4.trans hE162)
      exact ⟨(by first | rfl | (simp (discharger := omega) only [resVal, if_pos, if_neg]; first | done | rfl) | (simp [resVal, *]; done) | ((try simp only [resVal]); (repeat' split) <;> first | rfl | (exfalso; omega) | (simp_all; done) | (simp_all; omega))), (by first | rfl | (simp (discharger := omega) only [resVal, if_pos, if_neg]; first | done | rfl) | (simp [resVal, *]; done) | ((try simp only [resVal]); (repeat' split) <;> first | rfl | (exfalso; omega) | (simp_all; done) | (simp_all; omega)))⟩
end Go.Proofs.Ytlkfbokdbfnicaa
