import Derived.Test.YtlkfbokdbfnicaaSep19
import Derived.Test.YtlkfbokdbfnicaaInst
import Derived.Test.YtlkfbokdbfnicaaR10
set_option linter.unusedSimpArgs false
set_option linter.unusedVariables false
set_option maxHeartbeats 2000000
set_option maxRecDepth 20000
namespace Go.Proofs.Ytlkfbokdbfnicaa
open Go.RowKit

theorem bk_take (r s : List Tok) : ∀ k, k ≤ r.length → bk (r ++ s) k = bk r k := by
  intro k
  induction k with
  | zero => intro _; rfl
  | succ k ih =>
    intro hk
    have : (r ++ s).getD k tk0 = r.getD k tk0 := by simp only [List.getD, List.getElem?_append_left (show k < r.length by omega)]
    rw [bk, bk, ih (by omega), this]
theorem solB_snoc (r : List Tok) (t : Tok) (x : Int) : solB (r ++ [t]) x = if tbeh t = x then solB r t.at' else false := by
  have e1 : (r ++ [t]).length = r.length + 1 := by simp
  have e2 : (r ++ [t]).getD r.length tk0 = t := by simp [List.getD]
  simp only [solB, e1, bk, e2, solR]
  split
  · rw [bk_take r [t] r.length (Nat.le_refl _)]
  · rfl
theorem Chain.snoc {terms a : Int} {r : List Tok} {t : Tok} (h : Chain terms a (r ++ [t])) : t.at' = Ytlkfbokdbfnicaa.tendF a r := by
  induction r generalizing a with
  | nil => cases h with | cons => rfl
  | cons x r ih => cases h with | cons _ _ _ _ h => exact ih h
theorem solB_chain {terms a : Int} : ∀ (n : Nat) (l : List Tok), l.length = n → Chain terms a l → ∀ x, solB l x = (decide (l.length = 0) || decide (x = tendF a l)) := by
  intro n
  induction n with
  | zero => intro l hl _ x; rw [List.eq_nil_of_length_eq_zero hl]; rfl
  | succ n ih =>
    intro l hl h x
    rcases List.eq_nil_or_concat l with rfl | ⟨r, t, rfl⟩
    · cases hl
    · rw [List.concat_eq_append] at *
      have h1 := h.snoc
      have hr : Chain terms a r := by have := h.take r.length; simpa using this
      simp only [List.length_append, List.length_singleton] at hl
      rw [solB_snoc, tendF_snoc]
      have e0 : decide ((r ++ [t]).length = 0) = false := by simp
      rw [e0, Bool.false_or]
      split
      · rename_i h2
        rw [ih r (by omega) hr t.at', h1]; simp [h2]
      · rename_i h2
        simp only [Bool.false_eq, decide_eq_false_iff_not]; exact fun e => h2 e.symm
theorem Chain.tsz {terms a : Int} {l : List Tok} (h : Chain terms a l) : tsize l = Ytlkfbokdbfnicaa.tendF a l - a := by
  have key : ∀ (l : List Tok) (a b : Int), Chain terms a l → l.foldl (fun n t => n + (2 + (t.text.length : Int))) b - b = Ytlkfbokdbfnicaa.tendF a l - a := by
    intro l
    induction l with
    | nil => intro a b _; simp [Ytlkfbokdbfnicaa.tendF]
    | cons t l ih =>
      intro a b h
      cases h with
      | cons _ _ _ _ h =>
        have h1 := ih (tbeh t) (b + (2 + t.text.length)) h
        simp only [List.foldl_cons]
        have h2 : Ytlkfbokdbfnicaa.tendF t.at' (t :: l) = Ytlkfbokdbfnicaa.tendF (tbeh t) l := rfl
        rw [h2]
        simp only [tbeh] at *
        omega
  have := key l a 0 h
  simpa [tsize] using this
theorem Chain.add {terms a : Int} {l : List Tok} (h : Chain terms a l) (t : Tok) (ht : tokB terms t = true) (h3 : t.text.length ≤ 3) (e : t.at' = Ytlkfbokdbfnicaa.tendF a l) : Chain terms a (l ++ [t]) := by
  induction h with
  | nil a => simp only [Ytlkfbokdbfnicaa.tendF, List.foldl_nil] at e; subst e; exact .cons t [] ht h3 (.nil _)
  | cons x l hx hx3 _ ih => exact .cons x _ hx hx3 (ih e)
theorem chain_ring' {k terms a : Int} {l : List Tok} (hk : 1 ≤ k) (hk4 : k ≤ 4) (ht : 1 ≤ terms) (ht8 : terms ≤ 8) (ha : 0 ≤ a) (h : Chain terms a l) (hl : (l.length : Int) ≤ k) : gringB k terms l 0 0 = true :=
  gring_iff.2 ⟨hk, hk4, ht, ht8, hl, h.tok, ordB_mono l a 0 ha h.ord, by omega, by omega, by omega, by omega, .inr rfl, .inl rfl⟩
theorem gring_snoc {k terms : Int} {l : List Tok} {t : Tok} (h : gringB k terms l 0 0 = true) (hl : (l.length : Int) < k) (ht : tokB terms t = true) (ho : tend l ≤ t.at') : gringB k terms (l ++ [t]) 0 0 = true := by
  obtain ⟨g1, g2, g3, g4, g5, g6, g7, g8, g9, g10, g11, g12, g13⟩ := gring_iff.1 h
  refine gring_iff.2 ⟨g1, g2, g3, g4, by simp; omega, ?_, ordB_snoc l 0 t g7 ho, g8, g9, g10, g11, g12, .inl rfl⟩
  intro x hx
  rcases List.mem_append.1 hx with hx | hx
  · exact g6 x hx
  · simp only [List.mem_singleton] at hx; subst hx; exact ht
theorem tend_chain {terms a : Int} {l : List Tok} (ha : 0 ≤ a) (h : Chain terms a l) : tend l ≤ Ytlkfbokdbfnicaa.tendF a l := by
  rcases List.eq_nil_or_concat l with rfl | ⟨r, t, rfl⟩
  · exact ha
  · rw [List.concat_eq_append, tend_snoc, tendF_snoc]; exact Int.le_refl _

theorem Solid26_call (E : Env) (L : List Res) (p : Option Addr) (c : Nat) (ns : List Int) (hs : SlE E 1 p ns.length (i64s ns)) (hn : ns.length ≤ 9223372036854775807) (hb : ∀ n, n ∈ ns → -9223372036854775808 ≤ n ∧ n ≤ 9223372036854775807) (a0 k : Int) (ha0 : -9223372036854775808 ≤ a0 ∧ a0 ≤ 9223372036854775807) (hk : -9223372036854775808 ≤ k ∧ k ≤ 9223372036854775807) :
    CallS Try.prog 7 #[.slice p ns.length c, .int .i64 a0, .int .i64 k] E L (fun r E' L' => r = .bool true ∧ L' = L) := by
  obtain ⟨K, hK⟩ : ∃ K, 1 + k % 3 = K := ⟨_, rfl⟩
  have hK1 : 1 ≤ K := by omega
  have hK4 : K ≤ 3 := by omega
  obtain ⟨A, hA⟩ : ∃ A, a0 % 1001 = A := ⟨_, rfl⟩
  have hA0 : 0 ≤ A := by omega
  have hA1 : A ≤ 1000 := by omega
  obtain ⟨l0, hl0⟩ : ∃ l, mkToks ns 3 A = l := ⟨_, rfl⟩
  have hch0 : Chain 3 A l0 := by rw [← hl0]; exact mkToksAt_chain 3 (by omega) _ A (by omega) (by simp; omega)
  obtain ⟨m, hm⟩ : ∃ m : Nat, min (l0.length : Int) K = m := ⟨(min (l0.length : Int) K).toNat, by omega⟩
  obtain ⟨l, hl⟩ : ∃ l, l0.take m = l := ⟨_, rfl⟩
  have hch : Chain 3 A l := by rw [← hl]; exact hch0.take m
  have hlm : l.length = m := by rw [← hl]; simp; omega
  have hnil : SlE E 3 none 0 (toks []) := SlE.nilT
  refine CallS.intro (l := [.slice p ns.length c, .int .i64 a0, .int .i64 k]) _ Try.func7 rfl Try.ntmps7 rfl ?_
  refine G_seq ?_
  refine G_region ?_
  refine G_val (V_assign rfl rfl) rfl rfl (.none rfl) ?_
  refine G_end ?_
  refine X_then ?_
  refine G_seq ?_
  refine G_region ?_
  refine G_call (k := 5) (.mk rfl rfl rfl rfl) rfl rfl (.none rfl) (Known26_call _ _) ?_
  rintro r1 E2 L3 hE4 ⟨rfl, rfl⟩
  replace hs := hs.mono hE4
  replace hnil := hnil.mono hE4
  refine G_val (V_assign rfl rfl) rfl rfl (.none rfl) ?_
  refine G_end ?_
  refine X_then ?_
  refine G_seq ?_
  refine G_region ?_
  refine G_val (V_move rfl rfl) rfl rfl (.none rfl) ?_
  refine G_callv (k := 46) (.mk rfl rfl rfl rfl) rfl rfl (.none rfl) (Mod_call' _ _ _ _ (by first | assumption | exact SlE.toI (by assumption) rfl | exact SlE.toS (by assumption) rfl | exact SlE.toT (by assumption) rfl | exact SlE.nilT | exact (rfl : (_ : Option _) = some _) | exact .head _ | exact .tail _ (.head _) | exact .tail _ (.tail _ (.head _)) | exact .tail _ (.tail _ (.tail _ (.head _))) | omega | (simp; omega) | (simp; done) | exact (by kernel_rfl : (_ : Bool) = _)) (by first | assumption | exact SlE.toI (by assumption) rfl | exact SlE.toS (by assumption) rfl | exact SlE.toT (by assumption) rfl | exact SlE.nilT | exact (rfl : (_ : Option _) = some _) | exact .head _ | exact .tail _ (.head _) | exact .tail _ (.tail _ (.head _)) | exact .tail _ (.tail _ (.tail _ (.head _))) | omega | (simp; omega) | (simp; done) | exact (by kernel_rfl : (_ : Bool) = _))) ?_
  refine G_val (V_assign rfl rfl) rfl rfl (.none rfl) ?_
  refine G_end ?_
  refine X_then ?_
  refine G_seq ?_
  refine G_region ?_
  refine G_val (V_move rfl rfl) rfl rfl (.none rfl) ?_
  refine G_callv (k := 46) (.mk rfl rfl rfl rfl) rfl rfl (.none rfl) (Mod_call' _ _ _ _ (by first | assumption | exact SlE.toI (by assumption) rfl | exact SlE.toS (by assumption) rfl | exact SlE.toT (by assumption) rfl | exact SlE.nilT | exact (rfl : (_ : Option _) = some _) | exact .head _ | exact .tail _ (.head _) | exact .tail _ (.tail _ (.head _)) | exact .tail _ (.tail _ (.tail _ (.head _))) | omega | (simp; omega) | (simp; done) | exact (by kernel_rfl : (_ : Bool) = _)) (by first | assumption | exact SlE.toI (by assumption) rfl | exact SlE.toS (by assumption) rfl | exact SlE.toT (by assumption) rfl | exact SlE.nilT | exact (rfl : (_ : Option _) = some _) | exact .head _ | exact .tail _ (.head _) | exact .tail _ (.tail _ (.head _)) | exact .tail _ (.tail _ (.tail _ (.head _))) | omega | (simp; omega) | (simp; done) | exact (by kernel_rfl : (_ : Bool) = _))) ?_
  refine G_val (V_add_i64 rfl rfl rfl (by omega) (by omega)) rfl rfl (.none rfl) ?_
  refine G_val (V_assign rfl rfl) rfl rfl (.none rfl) ?_
  refine G_end ?_
  refine X_then ?_
  refine G_seq ?_
  refine G_region ?_
  refine G_val (V_move rfl rfl) rfl rfl (.none rfl) ?_
  refine G_val (V_move rfl rfl) rfl rfl (.none rfl) ?_
  refine G_call (k := 47) (.mk rfl rfl rfl rfl) rfl rfl (.none rfl) (Tokens_call _ _ _ _ _ (by first | assumption | exact SlE.toI (by assumption) rfl | exact SlE.toS (by assumption) rfl | exact SlE.toT (by assumption) rfl | exact SlE.nilT | exact (rfl : (_ : Option _) = some _) | exact .head _ | exact .tail _ (.head _) | exact .tail _ (.tail _ (.head _)) | exact .tail _ (.tail _ (.tail _ (.head _))) | omega | (simp; omega) | (simp; done) | exact (by kernel_rfl : (_ : Bool) = _)) (by first | assumption | exact SlE.toI (by assumption) rfl | exact SlE.toS (by assumption) rfl | exact SlE.toT (by assumption) rfl | exact SlE.nilT | exact (rfl : (_ : Option _) = some _) | exact .head _ | exact .tail _ (.head _) | exact .tail _ (.tail _ (.head _)) | exact .tail _ (.tail _ (.tail _ (.head _))) | omega | (simp; omega) | (simp; done) | exact (by kernel_rfl : (_ : Bool) = _)) (by first | assumption | exact SlE.toI (by assumption) rfl | exact SlE.toS (by assumption) rfl | exact SlE.toT (by assumption) rfl | exact SlE.nilT | exact (rfl : (_ : Option _) = some _) | exact .head _ | exact .tail _ (.head _) | exact .tail _ (.tail _ (.head _)) | exact .tail _ (.tail _ (.tail _ (.head _))) | omega | (simp; omega) | (simp; done) | exact (by kernel_rfl : (_ : Bool) = _)) _ _ (by first | assumption | exact SlE.toI (by assumption) rfl | exact SlE.toS (by assumption) rfl | exact SlE.toT (by assumption) rfl | exact SlE.nilT | exact (rfl : (_ : Option _) = some _) | exact .head _ | exact .tail _ (.head _) | exact .tail _ (.tail _ (.head _)) | exact .tail _ (.tail _ (.tail _ (.head _))) | omega | (simp; omega) | (simp; done) | exact (by kernel_rfl : (_ : Bool) = _)) (by first | assumption | exact SlE.toI (by assumption) rfl | exact SlE.toS (by assumption) rfl | exact SlE.toT (by assumption) rfl | exact SlE.nilT | exact (rfl : (_ : Option _) = some _) | exact .head _ | exact .tail _ (.head _) | exact .tail _ (.tail _ (.head _)) | exact .tail _ (.tail _ (.tail _ (.head _))) | omega | (simp; omega) | (simp; done) | exact (by kernel_rfl : (_ : Bool) = _)) (by first | assumption | exact SlE.toI (by assumption) rfl | exact SlE.toS (by assumption) rfl | exact SlE.toT (by assumption) rfl | exact SlE.nilT | exact (rfl : (_ : Option _) = some _) | exact .head _ | exact .tail _ (.head _) | exact .tail _ (.tail _ (.head _)) | exact .tail _ (.tail _ (.tail _ (.head _))) | omega | (simp; omega) | (simp; done) | exact (by kernel_rfl : (_ : Bool) = _)) (by first | assumption | exact SlE.toI (by assumption) rfl | exact SlE.toS (by assumption) rfl | exact SlE.toT (by assumption) rfl | exact SlE.nilT | exact (rfl : (_ : Option _) = some _) | exact .head _ | exact .tail _ (.head _) | exact .tail _ (.tail _ (.head _)) | exact .tail _ (.tail _ (.tail _ (.head _))) | omega | (simp; omega) | (simp; done) | exact (by kernel_rfl : (_ : Bool) = _))) ?_
  rintro r5 E6 L7 hE8 ⟨z9, ⟨z10, ⟨z11, ⟨rfl, ⟨rfl, ⟨Z12, ⟨Z13, rfl⟩⟩⟩⟩⟩⟩⟩
  replace hs := hs.mono hE8
  replace hnil := hnil.mono hE8
  refine G_val (V_assign rfl rfl) rfl rfl (.none rfl) ?_
  refine G_end ?_
  refine X_then ?_
  refine G_seq ?_
  refine G_region ?_
  refine G_val (V_move rfl rfl) rfl rfl (.none rfl) ?_
  refine G_val (V_move rfl rfl) rfl rfl (.none rfl) ?_
  refine G_val (V_lenS rfl rfl) rfl rfl (.none rfl) ?_
  refine G_val (V_move rfl rfl) rfl rfl (.none rfl) ?_
  refine G_val (V_min rfl rfl rfl) rfl rfl (.none rfl) ?_
  refine G_val (V_slHead rfl rfl rfl (by omega) (by omega)) rfl rfl (.none rfl) ?_
  refine G_val (V_assign rfl rfl) rfl rfl (.none rfl) ?_
  refine G_end ?_
  refine X_then ?_
  refine G_seq ?_
  refine G_region ?_
  refine G_val (V_move rfl rfl) rfl rfl (.none rfl) ?_
  refine G_val (V_assign rfl rfl) rfl rfl (.none rfl) ?_
  refine G_end ?_
  refine X_then ?_
  refine G_seq ?_
  refine G_seq ?_
  refine G_region ?_
  refine G_val (V_assign rfl rfl) rfl rfl (.none rfl) ?_
  refine G_end ?_
  refine X_then ?_
  refine G_block ?_
  rw [hA] at Z12 ⊢
  rw [hl0] at Z12 ⊢
  rw [hK, hm]
  rw [Int.toNat_natCast]
  have hl1 := Z12.head (i := m) (by omega)
  rw [toks_take, hl] at hl1
  clear Z12 hch0
  have hAe := hch.tendF
  have htt : ∀ i, 0 ≤ tendF A (l.take i) ∧ tendF A (l.take i) ≤ 2000 := by
    intro i
    have h := (hch.take i).tendF
    have : (l.take i).length ≤ 3 := by simp; omega
    omega
  refine G_loop (α := Nat) (fun x => [(1, .int .i64 A), (2, .int .i64 K), (7, .bool true), (8, .slice z9 m z10), (9, .int .i64 (tendF A (l.take x))), (10, .int .i64 x)])
    (fun _ => E6) (fun _ => L7) (fun x => x ≤ m) (fun x => m - x) 0 (Nat.zero_le _) ⟨rfl, rfl, rfl, rfl, rfl, rfl, trivial⟩ rfl rfl ?_
  intro i hi
  by_cases hlt : i < m
  · have hlt' : i < l.length := by omega
    obtain ⟨⟨a, s, b⟩, ht⟩ : ∃ t, l[i] = t := ⟨_, rfl⟩
    have hx := toks_get (List.getElem?_eq_getElem hlt')
    rw [ht] at hx
    have h1 := htt i
    have h2 : tendF A (l.take (i + 1)) = b + (2 + (s.length : Int)) := by rw [List.take_succ_eq_append_getElem hlt', tendF_snoc, ht]; rfl
    have h3 : b = tendF A (l.take i) := by
      have h := hch.take (i + 1)
      rw [List.take_succ_eq_append_getElem hlt', ht] at h
      exact h.snoc
    have htb := tokB_iff.1 (hch.tok _ (List.getElem_mem hlt'))
    rw [ht] at htb
    simp only at htb
    have hx1 : (toks l)[i * 3 + 1]? = some (.string (S s)) := by
      have := congrArg (fun z => z[1]?) hx
      simpa [Tok.cells, List.getElem?_take] using this
    refine G_seq ?_
    refine G_seq ?_
    refine G_region ?_
    refine G_val (V_move rfl rfl) rfl rfl (.none rfl) ?_
    refine G_val (V_move rfl rfl) rfl rfl (.none rfl) ?_
    refine G_val (V_lenS rfl rfl) rfl rfl (.none rfl) ?_
    refine G_val (V_lss rfl rfl rfl) rfl rfl (.none rfl) ?_
    refine G_end ?_
    refine X_then ?_
    refine G_cond_t rfl (decide_eq_true (by omega)) ?_
    refine G_skip ?_
    refine X_then ?_
    refine G_seq ?_
    refine G_block ?_
    refine G_region ?_
    refine G_val (V_move rfl rfl) rfl rfl (.none rfl) ?_
    refine G_val (V_add_i64 rfl rfl rfl (by omega) (by omega)) rfl rfl (.none rfl) ?_
    refine G_val (V_move rfl rfl) rfl rfl (.none rfl) ?_
    refine G_val (V_move rfl rfl) rfl rfl (.none rfl) ?_
    refine G_val (V_idxAddr rfl rfl rfl (SlE.rd (by assumption)) (by omega) (by omega)) rfl rfl (.none rfl) ?_
    refine G_val (V_fieldAddrE rfl rfl (by assumption) (by omega) (by decide)) rfl rfl (.none rfl) ?_
    refine G_val (V_loadS rfl rfl (SlE.rd (by assumption)) (by assumption) (by simp)) rfl rfl (.none rfl) ?_
    refine G_val (V_len rfl rfl) rfl rfl (.none rfl) ?_
    refine G_val (V_add_i64 rfl rfl rfl (by omega) (by omega)) rfl rfl (.none rfl) ?_
    refine G_val (V_assign rfl rfl) rfl rfl (.none rfl) ?_
    refine G_end ?_
    refine X_block ?_
    refine X_then ?_
    refine G_region ?_
    refine G_val (V_move rfl rfl) rfl rfl (.none rfl) ?_
    refine G_val (V_add_i64 rfl rfl rfl (by omega) (by omega)) rfl rfl (.none rfl) ?_
    refine G_val (V_assign rfl rfl) rfl rfl (.none rfl) ?_
    refine G_end ?_
    refine X_then ?_
    exact G_again (i + 1) hlt (by omega) ⟨rfl, rfl, rfl, rfl, by rw [h2, h3]; simp only [← Int.add_assoc]; rfl, rfl, trivial⟩ rfl rfl
  have him : i = m := by omega
  subst him
  rw [show l.take i = l by rw [← hlm, List.take_length]]
  have g0 := chain_ring' (k := K) (terms := 3) hK1 (by omega) (by omega) (by omega) hA0 hch (by omega)
  have g1 := chain_ring' (k := K + 1) (terms := 3) (by omega) (by omega) (by omega) (by omega) hA0 hch (by omega)
  have s0 := solB_chain _ l rfl hch (tendF A l)
  have s1 := solB_chain _ l rfl hch (tendF A l + 1)
  have hts := hch.tsz
  have htc := tend_chain hA0 hch
  have hm2 := solB_snoc l ⟨2, [], tendF A l⟩ (tendF A l + 2)
  have hg2 := solB_snoc l ⟨2, [], tendF A l + 1⟩ (tendF A l + 3)
  obtain ⟨e, he⟩ : ∃ e, tendF A l = e := ⟨_, rfl⟩
  rw [he] at s0 s1 hts htc hAe hm2 hg2 ⊢
  have b1 : tbeh ⟨2, [], e⟩ = e + 2 := rfl
  have b2 : tbeh ⟨2, [], e + 1⟩ = e + 3 := by simp only [tbeh]; simp; omega
  rw [if_pos b1, s0] at hm2
  rw [if_pos b2, s1] at hg2
  have d0 : decide (e + 1 = e) = false := by simp; omega
  have d1 : decide (e = e) = true := by simp
  rw [d0, Bool.or_false] at s1 hg2
  rw [d1, Bool.or_true] at s0 hm2
  have tm : tokB 3 ⟨2, [], e⟩ = true := tokB_iff.2 ⟨by simp, by simp, by simp, by simp only; omega, by simp only; omega⟩
  have tg : tokB 3 ⟨2, [], e + 1⟩ = true := tokB_iff.2 ⟨by simp, by simp, by simp, by simp only; omega, by simp only; omega⟩
  have gm := gring_snoc g1 (by omega) tm htc
  have gg := gring_snoc g1 (by omega) tg (by simp only; omega)
  have pm : putB l e = true := putB_iff.2 (.inr htc)
  have pg : putB l (e + 1) = true := putB_iff.2 (.inr (by omega))
  have hl2 : (l.length : Int) ≤ 3 := by omega
  have hiK : (i : Int) ≤ K := by omega
  clear htt hm
  cases l with
  | nil =>
    have hi0 : i = 0 := hlm.symm
    subst hi0
    refine G_seq ?_
    refine G_seq ?_
    refine G_region ?_
    refine G_val (V_move rfl rfl) rfl rfl (.none rfl) ?_
    refine G_val (V_move rfl rfl) rfl rfl (.none rfl) ?_
    refine G_val (V_lenS rfl rfl) rfl rfl (.none rfl) ?_
    refine G_val (V_lss rfl rfl rfl) rfl rfl (.none rfl) ?_
    refine G_end ?_
    refine X_then ?_
    refine G_cond_f rfl (by kernel_rfl) ?_
    refine G_exit ?_
    refine X_then_exit ?_
    refine X_then_exit ?_
    refine X_block_hit ?_
    refine X_then ?_
    refine G_seq ?_
    refine G_region ?_
    refine G_val (V_move rfl rfl) rfl rfl (.none rfl) ?_
    refine G_val (V_build rfl rfl (by simp [fillV, setLs, setL, Value.cells]; rfl)) rfl rfl (.none rfl) ?_
    (refine G_alloc rfl rfl rfl (.none rfl) ?_; intro b11)
    refine G_storeA rfl rfl rfl rfl (by simp [Value.oneCell']) rfl (.none rfl) (.head _ _ _) rfl ?_
    refine G_end ?_
    refine X_then ?_
    refine G_seq ?_
    refine G_region ?_
    refine G_val (V_move rfl rfl) rfl rfl (.none rfl) ?_
    refine G_val (V_loadA rfl rfl (Cells.own (.head _)) rfl) rfl rfl (.none rfl) ?_
    refine G_val (V_move rfl rfl) rfl rfl (.none rfl) ?_
    refine G_callv (k := 41) (.mk rfl rfl rfl rfl) rfl rfl (.none rfl) (Solid_call _ _ _ _ _ _ _ _ _ (by first | assumption | exact SlE.toI (by assumption) rfl | exact SlE.toS (by assumption) rfl | exact SlE.toT (by assumption) rfl | exact SlE.nilT | exact (rfl : (_ : Option _) = some _) | exact .head _ | exact .tail _ (.head _) | exact .tail _ (.tail _ (.head _)) | exact .tail _ (.tail _ (.tail _ (.head _))) | omega | (simp; omega) | (simp; done) | exact (by kernel_rfl : (_ : Bool) = _)) _ (by first | assumption | exact SlE.toI (by assumption) rfl | exact SlE.toS (by assumption) rfl | exact SlE.toT (by assumption) rfl | exact SlE.nilT | exact (rfl : (_ : Option _) = some _) | exact .head _ | exact .tail _ (.head _) | exact .tail _ (.tail _ (.head _)) | exact .tail _ (.tail _ (.tail _ (.head _))) | omega | (simp; omega) | (simp; done) | exact (by kernel_rfl : (_ : Bool) = _)) (by first | assumption | exact SlE.toI (by assumption) rfl | exact SlE.toS (by assumption) rfl | exact SlE.toT (by assumption) rfl | exact SlE.nilT | exact (rfl : (_ : Option _) = some _) | exact .head _ | exact .tail _ (.head _) | exact .tail _ (.tail _ (.head _)) | exact .tail _ (.tail _ (.tail _ (.head _))) | omega | (simp; omega) | (simp; done) | exact (by kernel_rfl : (_ : Bool) = _)) _ (by first | assumption | exact SlE.toI (by assumption) rfl | exact SlE.toS (by assumption) rfl | exact SlE.toT (by assumption) rfl | exact SlE.nilT | exact (rfl : (_ : Option _) = some _) | exact .head _ | exact .tail _ (.head _) | exact .tail _ (.tail _ (.head _)) | exact .tail _ (.tail _ (.tail _ (.head _))) | omega | (simp; omega) | (simp; done) | exact (by kernel_rfl : (_ : Bool) = _)) (by first | assumption | exact SlE.toI (by assumption) rfl | exact SlE.toS (by assumption) rfl | exact SlE.toT (by assumption) rfl | exact SlE.nilT | exact (rfl : (_ : Option _) = some _) | exact .head _ | exact .tail _ (.head _) | exact .tail _ (.tail _ (.head _)) | exact .tail _ (.tail _ (.tail _ (.head _))) | omega | (simp; omega) | (simp; done) | exact (by kernel_rfl : (_ : Bool) = _))) ?_
    refine G_val (V_move rfl rfl) rfl rfl (.none rfl) ?_
    refine G_val (V_extract rfl rfl rfl) rfl rfl (.none rfl) ?_
    refine G_val (V_extract rfl rfl rfl) rfl rfl (.none rfl) ?_
    refine G_val (V_assign rfl rfl) rfl rfl (.none rfl) ?_
    refine G_val (V_assign rfl rfl) rfl rfl (.none rfl) ?_
    refine G_end ?_
    refine X_then ?_
    refine G_seq ?_
    refine G_region ?_
    refine G_val (V_move rfl rfl) rfl rfl (.none rfl) ?_
    refine G_val (V_loadA rfl rfl (Cells.own (.head _)) rfl) rfl rfl (.none rfl) ?_
    refine G_val (V_move rfl rfl) rfl rfl (.none rfl) ?_
    refine G_val (V_add_i64 rfl rfl rfl (by omega) (by omega)) rfl rfl (.none rfl) ?_
    refine G_callv (k := 41) (.mk rfl rfl rfl rfl) rfl rfl (.none rfl) (Solid_call _ _ _ _ _ _ _ _ _ (by first | assumption | exact SlE.toI (by assumption) rfl | exact SlE.toS (by assumption) rfl | exact SlE.toT (by assumption) rfl | exact SlE.nilT | exact (rfl : (_ : Option _) = some _) | exact .head _ | exact .tail _ (.head _) | exact .tail _ (.tail _ (.head _)) | exact .tail _ (.tail _ (.tail _ (.head _))) | omega | (simp; omega) | (simp; done) | exact (by kernel_rfl : (_ : Bool) = _)) _ (by first | assumption | exact SlE.toI (by assumption) rfl | exact SlE.toS (by assumption) rfl | exact SlE.toT (by assumption) rfl | exact SlE.nilT | exact (rfl : (_ : Option _) = some _) | exact .head _ | exact .tail _ (.head _) | exact .tail _ (.tail _ (.head _)) | exact .tail _ (.tail _ (.tail _ (.head _))) | omega | (simp; omega) | (simp; done) | exact (by kernel_rfl : (_ : Bool) = _)) (by first | assumption | exact SlE.toI (by assumption) rfl | exact SlE.toS (by assumption) rfl | exact SlE.toT (by assumption) rfl | exact SlE.nilT | exact (rfl : (_ : Option _) = some _) | exact .head _ | exact .tail _ (.head _) | exact .tail _ (.tail _ (.head _)) | exact .tail _ (.tail _ (.tail _ (.head _))) | omega | (simp; omega) | (simp; done) | exact (by kernel_rfl : (_ : Bool) = _)) _ (by first | assumption | exact SlE.toI (by assumption) rfl | exact SlE.toS (by assumption) rfl | exact SlE.toT (by assumption) rfl | exact SlE.nilT | exact (rfl : (_ : Option _) = some _) | exact .head _ | exact .tail _ (.head _) | exact .tail _ (.tail _ (.head _)) | exact .tail _ (.tail _ (.tail _ (.head _))) | omega | (simp; omega) | (simp; done) | exact (by kernel_rfl : (_ : Bool) = _)) (by first | assumption | exact SlE.toI (by assumption) rfl | exact SlE.toS (by assumption) rfl | exact SlE.toT (by assumption) rfl | exact SlE.nilT | exact (rfl : (_ : Option _) = some _) | exact .head _ | exact .tail _ (.head _) | exact .tail _ (.tail _ (.head _)) | exact .tail _ (.tail _ (.tail _ (.head _))) | omega | (simp; omega) | (simp; done) | exact (by kernel_rfl : (_ : Bool) = _))) ?_
    refine G_val (V_move rfl rfl) rfl rfl (.none rfl) ?_
    refine G_val (V_extract rfl rfl rfl) rfl rfl (.none rfl) ?_
    refine G_val (V_extract rfl rfl rfl) rfl rfl (.none rfl) ?_
    refine G_val (V_assign rfl rfl) rfl rfl (.none rfl) ?_
    refine G_val (V_assign rfl rfl) rfl rfl (.none rfl) ?_
    refine G_end ?_
    refine X_then ?_
    refine G_seq ?_
    refine G_region ?_
    refine G_val (V_move rfl rfl) rfl rfl (.none rfl) ?_
    refine G_val (V_loadA rfl rfl (Cells.own (.head _)) rfl) rfl rfl (.none rfl) ?_
    refine G_callv (k := 40) (.mk rfl rfl rfl rfl) rfl rfl (.none rfl) (Bytes_ring_call _ _ _ _ _ _ _ _ _ _ (by first | assumption | exact SlE.toI (by assumption) rfl | exact SlE.toS (by assumption) rfl | exact SlE.toT (by assumption) rfl | exact SlE.nilT | exact (rfl : (_ : Option _) = some _) | exact .head _ | exact .tail _ (.head _) | exact .tail _ (.tail _ (.head _)) | exact .tail _ (.tail _ (.tail _ (.head _))) | omega | (simp; omega) | (simp; done) | exact (by kernel_rfl : (_ : Bool) = _)) (by first | assumption | exact SlE.toI (by assumption) rfl | exact SlE.toS (by assumption) rfl | exact SlE.toT (by assumption) rfl | exact SlE.nilT | exact (rfl : (_ : Option _) = some _) | exact .head _ | exact .tail _ (.head _) | exact .tail _ (.tail _ (.head _)) | exact .tail _ (.tail _ (.tail _ (.head _))) | omega | (simp; omega) | (simp; done) | exact (by kernel_rfl : (_ : Bool) = _))) ?_
    refine G_val (V_move rfl rfl) rfl rfl (.none rfl) ?_
    refine G_val (V_extract rfl rfl rfl) rfl rfl (.none rfl) ?_
    refine G_val (V_extract rfl rfl rfl) rfl rfl (.none rfl) ?_
    refine G_val (V_assign rfl rfl) rfl rfl (.none rfl) ?_
    refine G_val (V_assign rfl rfl) rfl rfl (.none rfl) ?_
    refine G_end ?_
    refine X_then ?_
    refine G_seq ?_
    refine G_seq ?_
    refine G_region ?_
    refine G_val (V_move rfl rfl) rfl rfl (.none rfl) ?_
    refine G_val (V_neq rfl rfl rfl) rfl rfl (.none rfl) ?_
    refine G_val (V_move rfl rfl) rfl rfl (.none rfl) ?_
    refine G.bool_f 82 rfl (by kernel_rfl) ?_
    refine G_val (V_move rfl rfl) rfl rfl (.yes rfl rfl rfl rfl) ?_
    refine G_val (V_neq rfl rfl rfl) rfl rfl (.yes rfl rfl rfl rfl) ?_
    refine G_val (V_pick_f rfl rfl rfl) rfl rfl (.none rfl) ?_
    refine G_val (V_move rfl rfl) rfl rfl (.none rfl) ?_
    refine G.bool_f 86 rfl (by kernel_rfl) ?_
    refine G_val (V_move rfl rfl) rfl rfl (.yes rfl rfl rfl rfl) ?_
    refine G_val (V_neq rfl rfl rfl) rfl rfl (.yes rfl rfl rfl rfl) ?_
    refine G_val (V_pick_f rfl rfl rfl) rfl rfl (.none rfl) ?_
    refine G_val (V_move rfl rfl) rfl rfl (.none rfl) ?_
    refine G.bool_f 90 rfl (by kernel_rfl) ?_
    refine G_val (V_move rfl rfl) rfl rfl (.yes rfl rfl rfl rfl) ?_
    refine G_val (V_not rfl rfl) rfl rfl (.yes rfl rfl rfl rfl) ?_
    refine G_val (V_pick_f rfl rfl rfl) rfl rfl (.none rfl) ?_
    refine G_val (V_move rfl rfl) rfl rfl (.none rfl) ?_
    refine G.bool_f 94 rfl (by simp [*]; done) ?_
    refine G_val (V_move rfl rfl) rfl rfl (.yes rfl rfl rfl rfl) ?_
    refine G_val (V_move rfl rfl) rfl rfl (.yes rfl rfl rfl rfl) ?_
    refine G_val (V_lenS rfl rfl) rfl rfl (.yes rfl rfl rfl rfl) ?_
    refine G_val (V_eql rfl rfl rfl) rfl rfl (.yes rfl rfl rfl rfl) ?_
    refine G_val (V_bneq rfl rfl rfl) rfl rfl (.yes rfl rfl rfl rfl) ?_
    refine G_val (V_pick_f rfl rfl rfl) rfl rfl (.none rfl) ?_
    refine G_val (V_move rfl rfl) rfl rfl (.none rfl) ?_
    refine G.bool_f 101 rfl (by simp [*]; done) ?_
    refine G_val (V_move rfl rfl) rfl rfl (.yes rfl rfl rfl rfl) ?_
    refine G_val (V_move rfl rfl) rfl rfl (.yes rfl rfl rfl rfl) ?_
    refine G_val (V_move rfl rfl) rfl rfl (.yes rfl rfl rfl rfl) ?_
    refine G_val (V_sub_i64 rfl rfl rfl (by omega) (by omega)) rfl rfl (.yes rfl rfl rfl rfl) ?_
    refine G_val (V_neq rfl rfl rfl) rfl rfl (.yes rfl rfl rfl rfl) ?_
    refine G_val (V_pick_f rfl rfl rfl) rfl rfl (.none rfl) ?_
    refine G_val (V_move rfl rfl) rfl rfl (.none rfl) ?_
    refine G.bool_f 108 rfl (decide_eq_false (by omega)) ?_
    refine G_val (V_move rfl rfl) rfl rfl (.yes rfl rfl rfl rfl) ?_
    refine G_val (V_add_i64 rfl rfl rfl (by omega) (by omega)) rfl rfl (.yes rfl rfl rfl rfl) ?_
    refine G_val (V_loadA rfl rfl (Cells.own (.head _)) rfl) rfl rfl (.yes rfl rfl rfl rfl) ?_
    refine G_callv (k := 50) (.mk rfl rfl rfl rfl) rfl rfl (.yes rfl rfl rfl rfl) (Check_call _ _ _ _ _ _ _ _ (by first | assumption | exact SlE.toI (by assumption) rfl | exact SlE.toS (by assumption) rfl | exact SlE.toT (by assumption) rfl | exact SlE.nilT | exact (rfl : (_ : Option _) = some _) | exact .head _ | exact .tail _ (.head _) | exact .tail _ (.tail _ (.head _)) | exact .tail _ (.tail _ (.tail _ (.head _))) | omega | (simp; omega) | (simp; done) | exact (by kernel_rfl : (_ : Bool) = _)) _ _ (by first | assumption | exact SlE.toI (by assumption) rfl | exact SlE.toS (by assumption) rfl | exact SlE.toT (by assumption) rfl | exact SlE.nilT | exact (rfl : (_ : Option _) = some _) | exact .head _ | exact .tail _ (.head _) | exact .tail _ (.tail _ (.head _)) | exact .tail _ (.tail _ (.tail _ (.head _))) | omega | (simp; omega) | (simp; done) | exact (by kernel_rfl : (_ : Bool) = _))) ?_
    refine G_val (V_neq rfl rfl rfl) rfl rfl (.yes rfl rfl rfl rfl) ?_
    refine G_val (V_pick_f rfl rfl rfl) rfl rfl (.none rfl) ?_
    refine G_end ?_
    refine X_then ?_
    refine G_cond_f rfl (by kernel_rfl) ?_
    refine G_skip ?_
    refine X_then ?_
    refine G_seq ?_
    refine G_region ?_
    refine G_val (V_move rfl rfl) rfl rfl (.none rfl) ?_
    refine G_val (V_add_i64 rfl rfl rfl (by omega) (by omega)) rfl rfl (.none rfl) ?_
    refine G_val (V_loadA rfl rfl (Cells.own (.head _)) rfl) rfl rfl (.none rfl) ?_
    refine G_val (V_move rfl rfl) rfl rfl (.none rfl) ?_
    refine G_val (V_build rfl rfl (by simp [fillV, setLs, setL, Value.cells]; rfl)) rfl rfl (.none rfl) ?_
    refine G_call (k := 48) (.mk rfl rfl rfl rfl) rfl rfl (.none rfl) (Put_call _ _ _ _ _ _ _ _ _ (by first | assumption | exact SlE.toI (by assumption) rfl | exact SlE.toS (by assumption) rfl | exact SlE.toT (by assumption) rfl | exact SlE.nilT | exact (rfl : (_ : Option _) = some _) | exact .head _ | exact .tail _ (.head _) | exact .tail _ (.tail _ (.head _)) | exact .tail _ (.tail _ (.tail _ (.head _))) | omega | (simp; omega) | (simp; done) | exact (by kernel_rfl : (_ : Bool) = _)) _ (by first | assumption | exact SlE.toI (by assumption) rfl | exact SlE.toS (by assumption) rfl | exact SlE.toT (by assumption) rfl | exact SlE.nilT | exact (rfl : (_ : Option _) = some _) | exact .head _ | exact .tail _ (.head _) | exact .tail _ (.tail _ (.head _)) | exact .tail _ (.tail _ (.tail _ (.head _))) | omega | (simp; omega) | (simp; done) | exact (by kernel_rfl : (_ : Bool) = _)) (by first | assumption | exact SlE.toI (by assumption) rfl | exact SlE.toS (by assumption) rfl | exact SlE.toT (by assumption) rfl | exact SlE.nilT | exact (rfl : (_ : Option _) = some _) | exact .head _ | exact .tail _ (.head _) | exact .tail _ (.tail _ (.head _)) | exact .tail _ (.tail _ (.tail _ (.head _))) | omega | (simp; omega) | (simp; done) | exact (by kernel_rfl : (_ : Bool) = _)) _ _ _ (by first | assumption | exact SlE.toI (by assumption) rfl | exact SlE.toS (by assumption) rfl | exact SlE.toT (by assumption) rfl | exact SlE.nilT | exact (rfl : (_ : Option _) = some _) | exact .head _ | exact .tail _ (.head _) | exact .tail _ (.tail _ (.head _)) | exact .tail _ (.tail _ (.tail _ (.head _))) | omega | (simp; omega) | (simp; done) | exact (by kernel_rfl : (_ : Bool) = _)) (by first | assumption | exact SlE.toI (by assumption) rfl | exact SlE.toS (by assumption) rfl | exact SlE.toT (by assumption) rfl | exact SlE.nilT | exact (rfl : (_ : Option _) = some _) | exact .head _ | exact .tail _ (.head _) | exact .tail _ (.tail _ (.head _)) | exact .tail _ (.tail _ (.tail _ (.head _))) | omega | (simp; omega) | (simp; done) | exact (by kernel_rfl : (_ : Bool) = _)) (by first | assumption | exact SlE.toI (by assumption) rfl | exact SlE.toS (by assumption) rfl | exact SlE.toT (by assumption) rfl | exact SlE.nilT | exact (rfl : (_ : Option _) = some _) | exact .head _ | exact .tail _ (.head _) | exact .tail _ (.tail _ (.head _)) | exact .tail _ (.tail _ (.tail _ (.head _))) | omega | (simp; omega) | (simp; done) | exact (by kernel_rfl : (_ : Bool) = _))) ?_
    rintro r1 E3 L4 hE5 ⟨z6, ⟨z7, ⟨rfl, ⟨Z8, rfl⟩⟩⟩⟩
    replace hs := hs.mono hE5
    replace hnil := hnil.mono hE5
    replace hl1 := hl1.mono hE5
    refine G_val (V_move rfl rfl) rfl rfl (.none rfl) ?_
    refine G_val (V_extract rfl rfl rfl) rfl rfl (.none rfl) ?_
    refine G_val (V_extract rfl rfl rfl) rfl rfl (.none rfl) ?_
    (refine G_alloc rfl rfl rfl (.none rfl) ?_; intro b18)
    refine G_storeA rfl rfl rfl rfl (by simp [Value.oneCell']) rfl (.none rfl) (.head _ _ _) rfl ?_
    refine G_val (V_assign rfl rfl) rfl rfl (.none rfl) ?_
    refine G_end ?_
    refine X_then ?_
    refine G_seq ?_
    refine G_region ?_
    refine G_val (V_move rfl rfl) rfl rfl (.none rfl) ?_
    refine G_val (V_add_i64 rfl rfl rfl (by omega) (by omega)) rfl rfl (.none rfl) ?_
    refine G_val (V_loadA rfl rfl (Cells.own (.tail _ (.head _))) rfl) rfl rfl (.none rfl) ?_
    refine G_val (V_move rfl rfl) rfl rfl (.none rfl) ?_
    refine G_val (V_add_i64 rfl rfl rfl (by omega) (by omega)) rfl rfl (.none rfl) ?_
    refine G_val (V_build rfl rfl (by simp [fillV, setLs, setL, Value.cells]; rfl)) rfl rfl (.none rfl) ?_
    refine G_call (k := 48) (.mk rfl rfl rfl rfl) rfl rfl (.none rfl) (Put_call _ _ _ _ _ _ _ _ _ (by first | assumption | exact SlE.toI (by assumption) rfl | exact SlE.toS (by assumption) rfl | exact SlE.toT (by assumption) rfl | exact SlE.nilT | exact (rfl : (_ : Option _) = some _) | exact .head _ | exact .tail _ (.head _) | exact .tail _ (.tail _ (.head _)) | exact .tail _ (.tail _ (.tail _ (.head _))) | omega | (simp; omega) | (simp; done) | exact (by kernel_rfl : (_ : Bool) = _)) _ (by first | assumption | exact SlE.toI (by assumption) rfl | exact SlE.toS (by assumption) rfl | exact SlE.toT (by assumption) rfl | exact SlE.nilT | exact (rfl : (_ : Option _) = some _) | exact .head _ | exact .tail _ (.head _) | exact .tail _ (.tail _ (.head _)) | exact .tail _ (.tail _ (.tail _ (.head _))) | omega | (simp; omega) | (simp; done) | exact (by kernel_rfl : (_ : Bool) = _)) (by first | assumption | exact SlE.toI (by assumption) rfl | exact SlE.toS (by assumption) rfl | exact SlE.toT (by assumption) rfl | exact SlE.nilT | exact (rfl : (_ : Option _) = some _) | exact .head _ | exact .tail _ (.head _) | exact .tail _ (.tail _ (.head _)) | exact .tail _ (.tail _ (.tail _ (.head _))) | omega | (simp; omega) | (simp; done) | exact (by kernel_rfl : (_ : Bool) = _)) _ _ _ (by first | assumption | exact SlE.toI (by assumption) rfl | exact SlE.toS (by assumption) rfl | exact SlE.toT (by assumption) rfl | exact SlE.nilT | exact (rfl : (_ : Option _) = some _) | exact .head _ | exact .tail _ (.head _) | exact .tail _ (.tail _ (.head _)) | exact .tail _ (.tail _ (.tail _ (.head _))) | omega | (simp; omega) | (simp; done) | exact (by kernel_rfl : (_ : Bool) = _)) (by first | assumption | exact SlE.toI (by assumption) rfl | exact SlE.toS (by assumption) rfl | exact SlE.toT (by assumption) rfl | exact SlE.nilT | exact (rfl : (_ : Option _) = some _) | exact .head _ | exact .tail _ (.head _) | exact .tail _ (.tail _ (.head _)) | exact .tail _ (.tail _ (.tail _ (.head _))) | omega | (simp; omega) | (simp; done) | exact (by kernel_rfl : (_ : Bool) = _)) (by first | assumption | exact SlE.toI (by assumption) rfl | exact SlE.toS (by assumption) rfl | exact SlE.toT (by assumption) rfl | exact SlE.nilT | exact (rfl : (_ : Option _) = some _) | exact .head _ | exact .tail _ (.head _) | exact .tail _ (.tail _ (.head _)) | exact .tail _ (.tail _ (.tail _ (.head _))) | omega | (simp; omega) | (simp; done) | exact (by kernel_rfl : (_ : Bool) = _))) ?_
    rintro r9 E10 L11 hE12 ⟨z13, ⟨z14, ⟨rfl, ⟨Z15, rfl⟩⟩⟩⟩
    replace Z8 := Z8.mono hE12
    replace hs := hs.mono hE12
    replace hnil := hnil.mono hE12
    replace hl1 := hl1.mono hE12
    refine G_val (V_move rfl rfl) rfl rfl (.none rfl) ?_
    refine G_val (V_extract rfl rfl rfl) rfl rfl (.none rfl) ?_
    refine G_val (V_extract rfl rfl rfl) rfl rfl (.none rfl) ?_
    (refine G_alloc rfl rfl rfl (.none rfl) ?_; intro b19)
    refine G_storeA rfl rfl rfl rfl (by simp [Value.oneCell']) rfl (.none rfl) (.head _ _ _) rfl ?_
    refine G_val (V_assign rfl rfl) rfl rfl (.none rfl) ?_
    refine G_end ?_
    refine X_then ?_
    refine G_seq ?_
    refine G_region ?_
    refine G_val (V_move rfl rfl) rfl rfl (.none rfl) ?_
    refine G_val (V_add_i64 rfl rfl rfl (by omega) (by omega)) rfl rfl (.none rfl) ?_
    refine G_val (V_loadA rfl rfl (Cells.own (.tail _ (.head _))) rfl) rfl rfl (.none rfl) ?_
    refine G_val (V_move rfl rfl) rfl rfl (.none rfl) ?_
    refine G_val (V_add_i64 rfl rfl rfl (by omega) (by omega)) rfl rfl (.none rfl) ?_
    refine G_callv (k := 41) (.mk rfl rfl rfl rfl) rfl rfl (.none rfl) (Solid_call _ _ _ _ _ _ _ _ _ (by first | assumption | exact SlE.toI (by assumption) rfl | exact SlE.toS (by assumption) rfl | exact SlE.toT (by assumption) rfl | exact SlE.nilT | exact (rfl : (_ : Option _) = some _) | exact .head _ | exact .tail _ (.head _) | exact .tail _ (.tail _ (.head _)) | exact .tail _ (.tail _ (.tail _ (.head _))) | omega | (simp; omega) | (simp; done) | exact (by kernel_rfl : (_ : Bool) = _)) _ (by first | assumption | exact SlE.toI (by assumption) rfl | exact SlE.toS (by assumption) rfl | exact SlE.toT (by assumption) rfl | exact SlE.nilT | exact (rfl : (_ : Option _) = some _) | exact .head _ | exact .tail _ (.head _) | exact .tail _ (.tail _ (.head _)) | exact .tail _ (.tail _ (.tail _ (.head _))) | omega | (simp; omega) | (simp; done) | exact (by kernel_rfl : (_ : Bool) = _)) (by first | assumption | exact SlE.toI (by assumption) rfl | exact SlE.toS (by assumption) rfl | exact SlE.toT (by assumption) rfl | exact SlE.nilT | exact (rfl : (_ : Option _) = some _) | exact .head _ | exact .tail _ (.head _) | exact .tail _ (.tail _ (.head _)) | exact .tail _ (.tail _ (.tail _ (.head _))) | omega | (simp; omega) | (simp; done) | exact (by kernel_rfl : (_ : Bool) = _)) _ (by first | assumption | exact SlE.toI (by assumption) rfl | exact SlE.toS (by assumption) rfl | exact SlE.toT (by assumption) rfl | exact SlE.nilT | exact (rfl : (_ : Option _) = some _) | exact .head _ | exact .tail _ (.head _) | exact .tail _ (.tail _ (.head _)) | exact .tail _ (.tail _ (.tail _ (.head _))) | omega | (simp; omega) | (simp; done) | exact (by kernel_rfl : (_ : Bool) = _)) (by first | assumption | exact SlE.toI (by assumption) rfl | exact SlE.toS (by assumption) rfl | exact SlE.toT (by assumption) rfl | exact SlE.nilT | exact (rfl : (_ : Option _) = some _) | exact .head _ | exact .tail _ (.head _) | exact .tail _ (.tail _ (.head _)) | exact .tail _ (.tail _ (.tail _ (.head _))) | omega | (simp; omega) | (simp; done) | exact (by kernel_rfl : (_ : Bool) = _))) ?_
    refine G_val (V_move rfl rfl) rfl rfl (.none rfl) ?_
    refine G_val (V_extract rfl rfl rfl) rfl rfl (.none rfl) ?_
    refine G_val (V_extract rfl rfl rfl) rfl rfl (.none rfl) ?_
    refine G_val (V_assign rfl rfl) rfl rfl (.none rfl) ?_
    refine G_val (V_assign rfl rfl) rfl rfl (.none rfl) ?_
    refine G_end ?_
    refine X_then ?_
    refine G_seq ?_
    refine G_region ?_
    refine G_val (V_move rfl rfl) rfl rfl (.none rfl) ?_
    refine G_val (V_add_i64 rfl rfl rfl (by omega) (by omega)) rfl rfl (.none rfl) ?_
    refine G_val (V_loadA rfl rfl (Cells.own (.head _)) rfl) rfl rfl (.none rfl) ?_
    refine G_val (V_move rfl rfl) rfl rfl (.none rfl) ?_
    refine G_val (V_add_i64 rfl rfl rfl (by omega) (by omega)) rfl rfl (.none rfl) ?_
    refine G_callv (k := 41) (.mk rfl rfl rfl rfl) rfl rfl (.none rfl) (Solid_call _ _ _ _ _ _ _ _ _ (by first | assumption | exact SlE.toI (by assumption) rfl | exact SlE.toS (by assumption) rfl | exact SlE.toT (by assumption) rfl | exact SlE.nilT | exact (rfl : (_ : Option _) = some _) | exact .head _ | exact .tail _ (.head _) | exact .tail _ (.tail _ (.head _)) | exact .tail _ (.tail _ (.tail _ (.head _))) | omega | (simp; omega) | (simp; done) | exact (by kernel_rfl : (_ : Bool) = _)) _ (by first | assumption | exact SlE.toI (by assumption) rfl | exact SlE.toS (by assumption) rfl | exact SlE.toT (by assumption) rfl | exact SlE.nilT | exact (rfl : (_ : Option _) = some _) | exact .head _ | exact .tail _ (.head _) | exact .tail _ (.tail _ (.head _)) | exact .tail _ (.tail _ (.tail _ (.head _))) | omega | (simp; omega) | (simp; done) | exact (by kernel_rfl : (_ : Bool) = _)) (by first | assumption | exact SlE.toI (by assumption) rfl | exact SlE.toS (by assumption) rfl | exact SlE.toT (by assumption) rfl | exact SlE.nilT | exact (rfl : (_ : Option _) = some _) | exact .head _ | exact .tail _ (.head _) | exact .tail _ (.tail _ (.head _)) | exact .tail _ (.tail _ (.tail _ (.head _))) | omega | (simp; omega) | (simp; done) | exact (by kernel_rfl : (_ : Bool) = _)) _ (by first | assumption | exact SlE.toI (by assumption) rfl | exact SlE.toS (by assumption) rfl | exact SlE.toT (by assumption) rfl | exact SlE.nilT | exact (rfl : (_ : Option _) = some _) | exact .head _ | exact .tail _ (.head _) | exact .tail _ (.tail _ (.head _)) | exact .tail _ (.tail _ (.tail _ (.head _))) | omega | (simp; omega) | (simp; done) | exact (by kernel_rfl : (_ : Bool) = _)) (by first | assumption | exact SlE.toI (by assumption) rfl | exact SlE.toS (by assumption) rfl | exact SlE.toT (by assumption) rfl | exact SlE.nilT | exact (rfl : (_ : Option _) = some _) | exact .head _ | exact .tail _ (.head _) | exact .tail _ (.tail _ (.head _)) | exact .tail _ (.tail _ (.tail _ (.head _))) | omega | (simp; omega) | (simp; done) | exact (by kernel_rfl : (_ : Bool) = _))) ?_
    refine G_val (V_move rfl rfl) rfl rfl (.none rfl) ?_
    refine G_val (V_extract rfl rfl rfl) rfl rfl (.none rfl) ?_
    refine G_val (V_extract rfl rfl rfl) rfl rfl (.none rfl) ?_
    refine G_val (V_assign rfl rfl) rfl rfl (.none rfl) ?_
    refine G_val (V_assign rfl rfl) rfl rfl (.none rfl) ?_
    refine G_end ?_
    refine X_then ?_
    refine G_seq ?_
    refine G_seq ?_
    refine G_region ?_
    refine G_val (V_move rfl rfl) rfl rfl (.none rfl) ?_
    refine G_val (V_neq rfl rfl rfl) rfl rfl (.none rfl) ?_
    refine G_val (V_move rfl rfl) rfl rfl (.none rfl) ?_
    refine G.bool_f 154 rfl (by kernel_rfl) ?_
    refine G_val (V_move rfl rfl) rfl rfl (.yes rfl rfl rfl rfl) ?_
    refine G_val (V_neq rfl rfl rfl) rfl rfl (.yes rfl rfl rfl rfl) ?_
    refine G_val (V_pick_f rfl rfl rfl) rfl rfl (.none rfl) ?_
    refine G_val (V_move rfl rfl) rfl rfl (.none rfl) ?_
    refine G.bool_f 158 rfl (by kernel_rfl) ?_
    refine G_val (V_move rfl rfl) rfl rfl (.yes rfl rfl rfl rfl) ?_
    refine G_val (V_neq rfl rfl rfl) rfl rfl (.yes rfl rfl rfl rfl) ?_
    refine G_val (V_pick_f rfl rfl rfl) rfl rfl (.none rfl) ?_
    refine G_val (V_move rfl rfl) rfl rfl (.none rfl) ?_
    refine G.bool_f 162 rfl (by kernel_rfl) ?_
    refine G_val (V_move rfl rfl) rfl rfl (.yes rfl rfl rfl rfl) ?_
    refine G_val (V_neq rfl rfl rfl) rfl rfl (.yes rfl rfl rfl rfl) ?_
    refine G_val (V_pick_f rfl rfl rfl) rfl rfl (.none rfl) ?_
    refine G_val (V_move rfl rfl) rfl rfl (.none rfl) ?_
    refine G.bool_f 166 rfl (by kernel_rfl) ?_
    refine G_val (V_move rfl rfl) rfl rfl (.yes rfl rfl rfl rfl) ?_
    refine G_val (V_not rfl rfl) rfl rfl (.yes rfl rfl rfl rfl) ?_
    refine G_val (V_pick_f rfl rfl rfl) rfl rfl (.none rfl) ?_
    refine G_val (V_move rfl rfl) rfl rfl (.none rfl) ?_
    apply G_joinOr 6 170 176 rfl
    · intro H16
      dsimp only [List.take]
      simp only [Bool.and_eq_true, Bool.or_eq_true, Bool.not_eq_true', Bool.not_eq_false', Bool.and_eq_false_iff, Bool.or_eq_false_iff, Bool.not_not, decide_eq_true_eq, decide_eq_false_iff_not, ne_eq, Decidable.not_not, Bool.decide_eq_true] at H16
      refine G_stay (.no rfl rfl rfl rfl) rfl rfl ?_
      refine G_stay (.no rfl rfl rfl rfl) rfl rfl ?_
      refine G_stay (.no rfl rfl rfl rfl) rfl rfl ?_
      refine G_stay (.no rfl rfl rfl rfl) rfl rfl ?_
      refine G_stay (.no rfl rfl rfl rfl) rfl rfl ?_
      refine G_val (V_pick_t rfl rfl rfl) rfl rfl (.none rfl) ?_
      refine G_end ?_
      exact JQ_end 6 rfl rfl (by kernel_rfl)
    · intro H17
      dsimp only [List.take]
      simp only [Bool.and_eq_true, Bool.or_eq_true, Bool.not_eq_true', Bool.not_eq_false', Bool.and_eq_false_iff, Bool.or_eq_false_iff, Bool.not_not, decide_eq_true_eq, decide_eq_false_iff_not, ne_eq, Decidable.not_not, Bool.decide_eq_true] at H17
      refine G_val (V_move rfl rfl) rfl rfl (.yes rfl rfl rfl rfl) ?_
      refine G_val (V_move rfl rfl) rfl rfl (.yes rfl rfl rfl rfl) ?_
      refine G_val (V_lenS rfl rfl) rfl rfl (.yes rfl rfl rfl rfl) ?_
      refine G_val (V_eql rfl rfl rfl) rfl rfl (.yes rfl rfl rfl rfl) ?_
      refine G_val (V_bneq rfl rfl rfl) rfl rfl (.yes rfl rfl rfl rfl) ?_
      refine G_val (V_pick_f rfl rfl rfl) rfl rfl (.none rfl) ?_
      refine G_end ?_
      exact JQ_end 6 rfl rfl (by kernel_rfl)
    dsimp only [List.drop]
    refine G_end ?_
    refine X_then ?_
    refine G_cond rfl (fun H18 => ?_) (fun H18 => ?_)
    · simp only [Bool.and_eq_true, Bool.or_eq_true, Bool.not_eq_true', Bool.not_eq_false', Bool.and_eq_false_iff, Bool.or_eq_false_iff, Bool.not_not, decide_eq_true_eq, decide_eq_false_iff_not, ne_eq, Decidable.not_not, Bool.decide_eq_true] at H18
      refine G_seq ?_
      refine G_region ?_
      refine G_val (V_assign rfl rfl) rfl rfl (.none rfl) ?_
      refine G_end ?_
      refine X_then ?_
      refine G_ret ?_
      refine X_then_ret ?_
      refine G_leaveS (.drop _ (.drop _ (.drop _ (.nil _)))) (by exact (.cons (.tmp rfl) (.nil))) rfl ?_ ?_
      · exact (((hE4.trans hE8).trans hE5).trans hE12)
      exact ⟨(by first | rfl | (simp (discharger := omega) only [resVal, if_pos, if_neg]; first | done | rfl) | (simp [resVal, *]; done) | ((try simp only [resVal]); (repeat' split) <;> first | rfl | (exfalso; omega) | (simp_all; done) | (simp_all; omega))), (by first | rfl | (simp (discharger := omega) only [resVal, if_pos, if_neg]; first | done | rfl) | (simp [resVal, *]; done) | ((try simp only [resVal]); (repeat' split) <;> first | rfl | (exfalso; omega) | (simp_all; done) | (simp_all; omega)))⟩
    simp only [Bool.and_eq_true, Bool.or_eq_true, Bool.not_eq_true', Bool.not_eq_false', Bool.and_eq_false_iff, Bool.or_eq_false_iff, Bool.not_not, decide_eq_true_eq, decide_eq_false_iff_not, ne_eq, Decidable.not_not, Bool.decide_eq_true] at H18
    refine G_skip ?_
    refine X_then ?_
    refine G_seq ?_
    refine G_seq ?_
    refine G_region ?_
    refine G_val (V_move rfl rfl) rfl rfl (.none rfl) ?_
    refine G_val (V_lenS rfl rfl) rfl rfl (.none rfl) ?_
    refine G_val (V_eql rfl rfl rfl) rfl rfl (.none rfl) ?_
    refine G_end ?_
    refine X_then ?_
    refine G_cond_t rfl (by kernel_rfl) ?_
    refine G_seq ?_
    refine G_region ?_
    refine G_val (V_move rfl rfl) rfl rfl (.none rfl) ?_
    refine G_val (V_assign rfl rfl) rfl rfl (.none rfl) ?_
    refine G_end ?_
    refine X_then ?_
    refine G_ret ?_
    refine X_then_ret ?_
    refine G_leaveS (.drop _ (.drop _ (.drop _ (.nil _)))) (by exact (.cons (.tmp rfl) (.nil))) rfl ?_ ?_
    · exact (((hE4.trans hE8).trans hE5).trans hE12)
    exact ⟨(by kernel_rfl), rfl⟩
  | cons t r =>
    obtain ⟨a, s, b⟩ := t
    have hi1 : 0 < i := by rw [← hlm]; simp
    have hr := hch.drop1
    have hbb := (tokB_iff.1 (hch.tok _ (.head _))).2.2.2.1
    have hrl : r.length + 1 = i := hlm
    have gr : gringB K 3 (List.drop 1 (⟨a, s, b⟩ :: r)) 0 0 = true := chain_ring' (k := K) (terms := 3) hK1 (by omega) (by omega) (by omega) (by simp only [tbeh] at *; omega) hr (by simp only [List.drop_succ_cons, List.drop_zero]; omega)
    have sr : solB (List.drop 1 (⟨a, s, b⟩ :: r)) e = true := by
      have h := solB_chain _ r rfl hr (tendF A (⟨a, s, b⟩ :: r))
      have h2 : tendF A (⟨a, s, b⟩ :: r) = tendF (tbeh ⟨a, s, b⟩) r := rfl
      rw [h2] at h he
      rw [he] at h
      simpa using h
    refine G_seq ?_
    refine G_seq ?_
    refine G_region ?_
    refine G_val (V_move rfl rfl) rfl rfl (.none rfl) ?_
    refine G_val (V_move rfl rfl) rfl rfl (.none rfl) ?_
    refine G_val (V_lenS rfl rfl) rfl rfl (.none rfl) ?_
    refine G_val (V_lss rfl rfl rfl) rfl rfl (.none rfl) ?_
    refine G_end ?_
    refine X_then ?_
    refine G_cond_f rfl (decide_eq_false (by omega)) ?_
    refine G_exit ?_
    refine X_then_exit ?_
    refine X_then_exit ?_
    refine X_block_hit ?_
    refine X_then ?_
    refine G_seq ?_
    refine G_region ?_
    refine G_val (V_move rfl rfl) rfl rfl (.none rfl) ?_
    refine G_val (V_build rfl rfl (by simp [fillV, setLs, setL, Value.cells]; rfl)) rfl rfl (.none rfl) ?_
    (refine G_alloc rfl rfl rfl (.none rfl) ?_; intro b11)
    refine G_storeA rfl rfl rfl rfl (by simp [Value.oneCell']) rfl (.none rfl) (.head _ _ _) rfl ?_
    refine G_end ?_
    refine X_then ?_
    refine G_seq ?_
    refine G_region ?_
    refine G_val (V_move rfl rfl) rfl rfl (.none rfl) ?_
    refine G_val (V_loadA rfl rfl (Cells.own (.head _)) rfl) rfl rfl (.none rfl) ?_
    refine G_val (V_move rfl rfl) rfl rfl (.none rfl) ?_
    refine G_callv (k := 41) (.mk rfl rfl rfl rfl) rfl rfl (.none rfl) (Solid_call _ _ _ _ _ _ _ _ _ (by first | assumption | exact SlE.toI (by assumption) rfl | exact SlE.toS (by assumption) rfl | exact SlE.toT (by assumption) rfl | exact SlE.nilT | exact (rfl : (_ : Option _) = some _) | exact .head _ | exact .tail _ (.head _) | exact .tail _ (.tail _ (.head _)) | exact .tail _ (.tail _ (.tail _ (.head _))) | omega | (simp; omega) | (simp; done) | exact (by kernel_rfl : (_ : Bool) = _)) _ (by first | assumption | exact SlE.toI (by assumption) rfl | exact SlE.toS (by assumption) rfl | exact SlE.toT (by assumption) rfl | exact SlE.nilT | exact (rfl : (_ : Option _) = some _) | exact .head _ | exact .tail _ (.head _) | exact .tail _ (.tail _ (.head _)) | exact .tail _ (.tail _ (.tail _ (.head _))) | omega | (simp; omega) | (simp; done) | exact (by kernel_rfl : (_ : Bool) = _)) (by first | assumption | exact SlE.toI (by assumption) rfl | exact SlE.toS (by assumption) rfl | exact SlE.toT (by assumption) rfl | exact SlE.nilT | exact (rfl : (_ : Option _) = some _) | exact .head _ | exact .tail _ (.head _) | exact .tail _ (.tail _ (.head _)) | exact .tail _ (.tail _ (.tail _ (.head _))) | omega | (simp; omega) | (simp; done) | exact (by kernel_rfl : (_ : Bool) = _)) _ (by first | assumption | exact SlE.toI (by assumption) rfl | exact SlE.toS (by assumption) rfl | exact SlE.toT (by assumption) rfl | exact SlE.nilT | exact (rfl : (_ : Option _) = some _) | exact .head _ | exact .tail _ (.head _) | exact .tail _ (.tail _ (.head _)) | exact .tail _ (.tail _ (.tail _ (.head _))) | omega | (simp; omega) | (simp; done) | exact (by kernel_rfl : (_ : Bool) = _)) (by first | assumption | exact SlE.toI (by assumption) rfl | exact SlE.toS (by assumption) rfl | exact SlE.toT (by assumption) rfl | exact SlE.nilT | exact (rfl : (_ : Option _) = some _) | exact .head _ | exact .tail _ (.head _) | exact .tail _ (.tail _ (.head _)) | exact .tail _ (.tail _ (.tail _ (.head _))) | omega | (simp; omega) | (simp; done) | exact (by kernel_rfl : (_ : Bool) = _))) ?_
    refine G_val (V_move rfl rfl) rfl rfl (.none rfl) ?_
    refine G_val (V_extract rfl rfl rfl) rfl rfl (.none rfl) ?_
    refine G_val (V_extract rfl rfl rfl) rfl rfl (.none rfl) ?_
    refine G_val (V_assign rfl rfl) rfl rfl (.none rfl) ?_
    refine G_val (V_assign rfl rfl) rfl rfl (.none rfl) ?_
    refine G_end ?_
    refine X_then ?_
    refine G_seq ?_
    refine G_region ?_
    refine G_val (V_move rfl rfl) rfl rfl (.none rfl) ?_
    refine G_val (V_loadA rfl rfl (Cells.own (.head _)) rfl) rfl rfl (.none rfl) ?_
    refine G_val (V_move rfl rfl) rfl rfl (.none rfl) ?_
    refine G_val (V_add_i64 rfl rfl rfl (by omega) (by omega)) rfl rfl (.none rfl) ?_
    refine G_callv (k := 41) (.mk rfl rfl rfl rfl) rfl rfl (.none rfl) (Solid_call _ _ _ _ _ _ _ _ _ (by first | assumption | exact SlE.toI (by assumption) rfl | exact SlE.toS (by assumption) rfl | exact SlE.toT (by assumption) rfl | exact SlE.nilT | exact (rfl : (_ : Option _) = some _) | exact .head _ | exact .tail _ (.head _) | exact .tail _ (.tail _ (.head _)) | exact .tail _ (.tail _ (.tail _ (.head _))) | omega | (simp; omega) | (simp; done) | exact (by kernel_rfl : (_ : Bool) = _)) _ (by first | assumption | exact SlE.toI (by assumption) rfl | exact SlE.toS (by assumption) rfl | exact SlE.toT (by assumption) rfl | exact SlE.nilT | exact (rfl : (_ : Option _) = some _) | exact .head _ | exact .tail _ (.head _) | exact .tail _ (.tail _ (.head _)) | exact .tail _ (.tail _ (.tail _ (.head _))) | omega | (simp; omega) | (simp; done) | exact (by kernel_rfl : (_ : Bool) = _)) (by first | assumption | exact SlE.toI (by assumption) rfl | exact SlE.toS (by assumption) rfl | exact SlE.toT (by assumption) rfl | exact SlE.nilT | exact (rfl : (_ : Option _) = some _) | exact .head _ | exact .tail _ (.head _) | exact .tail _ (.tail _ (.head _)) | exact .tail _ (.tail _ (.tail _ (.head _))) | omega | (simp; omega) | (simp; done) | exact (by kernel_rfl : (_ : Bool) = _)) _ (by first | assumption | exact SlE.toI (by assumption) rfl | exact SlE.toS (by assumption) rfl | exact SlE.toT (by assumption) rfl | exact SlE.nilT | exact (rfl : (_ : Option _) = some _) | exact .head _ | exact .tail _ (.head _) | exact .tail _ (.tail _ (.head _)) | exact .tail _ (.tail _ (.tail _ (.head _))) | omega | (simp; omega) | (simp; done) | exact (by kernel_rfl : (_ : Bool) = _)) (by first | assumption | exact SlE.toI (by assumption) rfl | exact SlE.toS (by assumption) rfl | exact SlE.toT (by assumption) rfl | exact SlE.nilT | exact (rfl : (_ : Option _) = some _) | exact .head _ | exact .tail _ (.head _) | exact .tail _ (.tail _ (.head _)) | exact .tail _ (.tail _ (.tail _ (.head _))) | omega | (simp; omega) | (simp; done) | exact (by kernel_rfl : (_ : Bool) = _))) ?_
    refine G_val (V_move rfl rfl) rfl rfl (.none rfl) ?_
    refine G_val (V_extract rfl rfl rfl) rfl rfl (.none rfl) ?_
    refine G_val (V_extract rfl rfl rfl) rfl rfl (.none rfl) ?_
    refine G_val (V_assign rfl rfl) rfl rfl (.none rfl) ?_
    refine G_val (V_assign rfl rfl) rfl rfl (.none rfl) ?_
    refine G_end ?_
    refine X_then ?_
    refine G_seq ?_
    refine G_region ?_
    refine G_val (V_move rfl rfl) rfl rfl (.none rfl) ?_
    refine G_val (V_loadA rfl rfl (Cells.own (.head _)) rfl) rfl rfl (.none rfl) ?_
    refine G_callv (k := 40) (.mk rfl rfl rfl rfl) rfl rfl (.none rfl) (Bytes_ring_call _ _ _ _ _ _ _ _ _ _ (by first | assumption | exact SlE.toI (by assumption) rfl | exact SlE.toS (by assumption) rfl | exact SlE.toT (by assumption) rfl | exact SlE.nilT | exact (rfl : (_ : Option _) = some _) | exact .head _ | exact .tail _ (.head _) | exact .tail _ (.tail _ (.head _)) | exact .tail _ (.tail _ (.tail _ (.head _))) | omega | (simp; omega) | (simp; done) | exact (by kernel_rfl : (_ : Bool) = _)) (by first | assumption | exact SlE.toI (by assumption) rfl | exact SlE.toS (by assumption) rfl | exact SlE.toT (by assumption) rfl | exact SlE.nilT | exact (rfl : (_ : Option _) = some _) | exact .head _ | exact .tail _ (.head _) | exact .tail _ (.tail _ (.head _)) | exact .tail _ (.tail _ (.tail _ (.head _))) | omega | (simp; omega) | (simp; done) | exact (by kernel_rfl : (_ : Bool) = _))) ?_
    refine G_val (V_move rfl rfl) rfl rfl (.none rfl) ?_
    refine G_val (V_extract rfl rfl rfl) rfl rfl (.none rfl) ?_
    refine G_val (V_extract rfl rfl rfl) rfl rfl (.none rfl) ?_
    refine G_val (V_assign rfl rfl) rfl rfl (.none rfl) ?_
    refine G_val (V_assign rfl rfl) rfl rfl (.none rfl) ?_
    refine G_end ?_
    refine X_then ?_
    refine G_seq ?_
    refine G_seq ?_
    refine G_region ?_
    refine G_val (V_move rfl rfl) rfl rfl (.none rfl) ?_
    refine G_val (V_neq rfl rfl rfl) rfl rfl (.none rfl) ?_
    refine G_val (V_move rfl rfl) rfl rfl (.none rfl) ?_
    refine G.bool_f 82 rfl (by kernel_rfl) ?_
    refine G_val (V_move rfl rfl) rfl rfl (.yes rfl rfl rfl rfl) ?_
    refine G_val (V_neq rfl rfl rfl) rfl rfl (.yes rfl rfl rfl rfl) ?_
    refine G_val (V_pick_f rfl rfl rfl) rfl rfl (.none rfl) ?_
    refine G_val (V_move rfl rfl) rfl rfl (.none rfl) ?_
    refine G.bool_f 86 rfl (by kernel_rfl) ?_
    refine G_val (V_move rfl rfl) rfl rfl (.yes rfl rfl rfl rfl) ?_
    refine G_val (V_neq rfl rfl rfl) rfl rfl (.yes rfl rfl rfl rfl) ?_
    refine G_val (V_pick_f rfl rfl rfl) rfl rfl (.none rfl) ?_
    refine G_val (V_move rfl rfl) rfl rfl (.none rfl) ?_
    refine G.bool_f 90 rfl (by kernel_rfl) ?_
    refine G_val (V_move rfl rfl) rfl rfl (.yes rfl rfl rfl rfl) ?_
    refine G_val (V_not rfl rfl) rfl rfl (.yes rfl rfl rfl rfl) ?_
    refine G_val (V_pick_f rfl rfl rfl) rfl rfl (.none rfl) ?_
    refine G_val (V_move rfl rfl) rfl rfl (.none rfl) ?_
    refine G.bool_f 94 rfl (by simp [*]; done) ?_
    refine G_val (V_move rfl rfl) rfl rfl (.yes rfl rfl rfl rfl) ?_
    refine G_val (V_move rfl rfl) rfl rfl (.yes rfl rfl rfl rfl) ?_
    refine G_val (V_lenS rfl rfl) rfl rfl (.yes rfl rfl rfl rfl) ?_
    refine G_val (V_eql rfl rfl rfl) rfl rfl (.yes rfl rfl rfl rfl) ?_
    refine G_val (V_bneq rfl rfl rfl) rfl rfl (.yes rfl rfl rfl rfl) ?_
    refine G_val (V_pick_f rfl rfl rfl) rfl rfl (.none rfl) ?_
    refine G_val (V_move rfl rfl) rfl rfl (.none rfl) ?_
    refine G.bool_f 101 rfl (by simp [*]; done) ?_
    refine G_val (V_move rfl rfl) rfl rfl (.yes rfl rfl rfl rfl) ?_
    refine G_val (V_move rfl rfl) rfl rfl (.yes rfl rfl rfl rfl) ?_
    refine G_val (V_move rfl rfl) rfl rfl (.yes rfl rfl rfl rfl) ?_
    refine G_val (V_sub_i64 rfl rfl rfl (by omega) (by omega)) rfl rfl (.yes rfl rfl rfl rfl) ?_
    refine G_val (V_neq rfl rfl rfl) rfl rfl (.yes rfl rfl rfl rfl) ?_
    refine G_val (V_pick_f rfl rfl rfl) rfl rfl (.none rfl) ?_
    refine G_val (V_move rfl rfl) rfl rfl (.none rfl) ?_
    refine G.bool_f 108 rfl (decide_eq_false (by omega)) ?_
    refine G_val (V_move rfl rfl) rfl rfl (.yes rfl rfl rfl rfl) ?_
    refine G_val (V_add_i64 rfl rfl rfl (by omega) (by omega)) rfl rfl (.yes rfl rfl rfl rfl) ?_
    refine G_val (V_loadA rfl rfl (Cells.own (.head _)) rfl) rfl rfl (.yes rfl rfl rfl rfl) ?_
    refine G_callv (k := 50) (.mk rfl rfl rfl rfl) rfl rfl (.yes rfl rfl rfl rfl) (Check_call _ _ _ _ _ _ _ _ (by first | assumption | exact SlE.toI (by assumption) rfl | exact SlE.toS (by assumption) rfl | exact SlE.toT (by assumption) rfl | exact SlE.nilT | exact (rfl : (_ : Option _) = some _) | exact .head _ | exact .tail _ (.head _) | exact .tail _ (.tail _ (.head _)) | exact .tail _ (.tail _ (.tail _ (.head _))) | omega | (simp; omega) | (simp; done) | exact (by kernel_rfl : (_ : Bool) = _)) _ _ (by first | assumption | exact SlE.toI (by assumption) rfl | exact SlE.toS (by assumption) rfl | exact SlE.toT (by assumption) rfl | exact SlE.nilT | exact (rfl : (_ : Option _) = some _) | exact .head _ | exact .tail _ (.head _) | exact .tail _ (.tail _ (.head _)) | exact .tail _ (.tail _ (.tail _ (.head _))) | omega | (simp; omega) | (simp; done) | exact (by kernel_rfl : (_ : Bool) = _))) ?_
    refine G_val (V_neq rfl rfl rfl) rfl rfl (.yes rfl rfl rfl rfl) ?_
    refine G_val (V_pick_f rfl rfl rfl) rfl rfl (.none rfl) ?_
    refine G_end ?_
    refine X_then ?_
    refine G_cond_f rfl (by kernel_rfl) ?_
    refine G_skip ?_
    refine X_then ?_
    refine G_seq ?_
    refine G_region ?_
    refine G_val (V_move rfl rfl) rfl rfl (.none rfl) ?_
    refine G_val (V_add_i64 rfl rfl rfl (by omega) (by omega)) rfl rfl (.none rfl) ?_
    refine G_val (V_loadA rfl rfl (Cells.own (.head _)) rfl) rfl rfl (.none rfl) ?_
    refine G_val (V_move rfl rfl) rfl rfl (.none rfl) ?_
    refine G_val (V_build rfl rfl (by simp [fillV, setLs, setL, Value.cells]; rfl)) rfl rfl (.none rfl) ?_
    refine G_call (k := 48) (.mk rfl rfl rfl rfl) rfl rfl (.none rfl) (Put_call _ _ _ _ _ _ _ _ _ (by first | assumption | exact SlE.toI (by assumption) rfl | exact SlE.toS (by assumption) rfl | exact SlE.toT (by assumption) rfl | exact SlE.nilT | exact (rfl : (_ : Option _) = some _) | exact .head _ | exact .tail _ (.head _) | exact .tail _ (.tail _ (.head _)) | exact .tail _ (.tail _ (.tail _ (.head _))) | omega | (simp; omega) | (simp; done) | exact (by kernel_rfl : (_ : Bool) = _)) _ (by first | assumption | exact SlE.toI (by assumption) rfl | exact SlE.toS (by assumption) rfl | exact SlE.toT (by assumption) rfl | exact SlE.nilT | exact (rfl : (_ : Option _) = some _) | exact .head _ | exact .tail _ (.head _) | exact .tail _ (.tail _ (.head _)) | exact .tail _ (.tail _ (.tail _ (.head _))) | omega | (simp; omega) | (simp; done) | exact (by kernel_rfl : (_ : Bool) = _)) (by first | assumption | exact SlE.toI (by assumption) rfl | exact SlE.toS (by assumption) rfl | exact SlE.toT (by assumption) rfl | exact SlE.nilT | exact (rfl : (_ : Option _) = some _) | exact .head _ | exact .tail _ (.head _) | exact .tail _ (.tail _ (.head _)) | exact .tail _ (.tail _ (.tail _ (.head _))) | omega | (simp; omega) | (simp; done) | exact (by kernel_rfl : (_ : Bool) = _)) _ _ _ (by first | assumption | exact SlE.toI (by assumption) rfl | exact SlE.toS (by assumption) rfl | exact SlE.toT (by assumption) rfl | exact SlE.nilT | exact (rfl : (_ : Option _) = some _) | exact .head _ | exact .tail _ (.head _) | exact .tail _ (.tail _ (.head _)) | exact .tail _ (.tail _ (.tail _ (.head _))) | omega | (simp; omega) | (simp; done) | exact (by kernel_rfl : (_ : Bool) = _)) (by first | assumption | exact SlE.toI (by assumption) rfl | exact SlE.toS (by assumption) rfl | exact SlE.toT (by assumption) rfl | exact SlE.nilT | exact (rfl : (_ : Option _) = some _) | exact .head _ | exact .tail _ (.head _) | exact .tail _ (.tail _ (.head _)) | exact .tail _ (.tail _ (.tail _ (.head _))) | omega | (simp; omega) | (simp; done) | exact (by kernel_rfl : (_ : Bool) = _)) (by first | assumption | exact SlE.toI (by assumption) rfl | exact SlE.toS (by assumption) rfl | exact SlE.toT (by assumption) rfl | exact SlE.nilT | exact (rfl : (_ : Option _) = some _) | exact .head _ | exact .tail _ (.head _) | exact .tail _ (.tail _ (.head _)) | exact .tail _ (.tail _ (.tail _ (.head _))) | omega | (simp; omega) | (simp; done) | exact (by kernel_rfl : (_ : Bool) = _))) ?_
    rintro r1 E3 L4 hE5 ⟨z6, ⟨z7, ⟨rfl, ⟨Z8, rfl⟩⟩⟩⟩
    replace hs := hs.mono hE5
    replace hnil := hnil.mono hE5
    replace hl1 := hl1.mono hE5
    refine G_val (V_move rfl rfl) rfl rfl (.none rfl) ?_
    refine G_val (V_extract rfl rfl rfl) rfl rfl (.none rfl) ?_
    refine G_val (V_extract rfl rfl rfl) rfl rfl (.none rfl) ?_
    (refine G_alloc rfl rfl rfl (.none rfl) ?_; intro b18)
    refine G_storeA rfl rfl rfl rfl (by simp [Value.oneCell']) rfl (.none rfl) (.head _ _ _) rfl ?_
    refine G_val (V_assign rfl rfl) rfl rfl (.none rfl) ?_
    refine G_end ?_
    refine X_then ?_
    refine G_seq ?_
    refine G_region ?_
    refine G_val (V_move rfl rfl) rfl rfl (.none rfl) ?_
    refine G_val (V_add_i64 rfl rfl rfl (by omega) (by omega)) rfl rfl (.none rfl) ?_
    refine G_val (V_loadA rfl rfl (Cells.own (.tail _ (.head _))) rfl) rfl rfl (.none rfl) ?_
    refine G_val (V_move rfl rfl) rfl rfl (.none rfl) ?_
    refine G_val (V_add_i64 rfl rfl rfl (by omega) (by omega)) rfl rfl (.none rfl) ?_
    refine G_val (V_build rfl rfl (by simp [fillV, setLs, setL, Value.cells]; rfl)) rfl rfl (.none rfl) ?_
    refine G_call (k := 48) (.mk rfl rfl rfl rfl) rfl rfl (.none rfl) (Put_call _ _ _ _ _ _ _ _ _ (by first | assumption | exact SlE.toI (by assumption) rfl | exact SlE.toS (by assumption) rfl | exact SlE.toT (by assumption) rfl | exact SlE.nilT | exact (rfl : (_ : Option _) = some _) | exact .head _ | exact .tail _ (.head _) | exact .tail _ (.tail _ (.head _)) | exact .tail _ (.tail _ (.tail _ (.head _))) | omega | (simp; omega) | (simp; done) | exact (by kernel_rfl : (_ : Bool) = _)) _ (by first | assumption | exact SlE.toI (by assumption) rfl | exact SlE.toS (by assumption) rfl | exact SlE.toT (by assumption) rfl | exact SlE.nilT | exact (rfl : (_ : Option _) = some _) | exact .head _ | exact .tail _ (.head _) | exact .tail _ (.tail _ (.head _)) | exact .tail _ (.tail _ (.tail _ (.head _))) | omega | (simp; omega) | (simp; done) | exact (by kernel_rfl : (_ : Bool) = _)) (by first | assumption | exact SlE.toI (by assumption) rfl | exact SlE.toS (by assumption) rfl | exact SlE.toT (by assumption) rfl | exact SlE.nilT | exact (rfl : (_ : Option _) = some _) | exact .head _ | exact .tail _ (.head _) | exact .tail _ (.tail _ (.head _)) | exact .tail _ (.tail _ (.tail _ (.head _))) | omega | (simp; omega) | (simp; done) | exact (by kernel_rfl : (_ : Bool) = _)) _ _ _ (by first | assumption | exact SlE.toI (by assumption) rfl | exact SlE.toS (by assumption) rfl | exact SlE.toT (by assumption) rfl | exact SlE.nilT | exact (rfl : (_ : Option _) = some _) | exact .head _ | exact .tail _ (.head _) | exact .tail _ (.tail _ (.head _)) | exact .tail _ (.tail _ (.tail _ (.head _))) | omega | (simp; omega) | (simp; done) | exact (by kernel_rfl : (_ : Bool) = _)) (by first | assumption | exact SlE.toI (by assumption) rfl | exact SlE.toS (by assumption) rfl | exact SlE.toT (by assumption) rfl | exact SlE.nilT | exact (rfl : (_ : Option _) = some _) | exact .head _ | exact .tail _ (.head _) | exact .tail _ (.tail _ (.head _)) | exact .tail _ (.tail _ (.tail _ (.head _))) | omega | (simp; omega) | (simp; done) | exact (by kernel_rfl : (_ : Bool) = _)) (by first | assumption | exact SlE.toI (by assumption) rfl | exact SlE.toS (by assumption) rfl | exact SlE.toT (by assumption) rfl | exact SlE.nilT | exact (rfl : (_ : Option _) = some _) | exact .head _ | exact .tail _ (.head _) | exact .tail _ (.tail _ (.head _)) | exact .tail _ (.tail _ (.tail _ (.head _))) | omega | (simp; omega) | (simp; done) | exact (by kernel_rfl : (_ : Bool) = _))) ?_
    rintro r9 E10 L11 hE12 ⟨z13, ⟨z14, ⟨rfl, ⟨Z15, rfl⟩⟩⟩⟩
    replace Z8 := Z8.mono hE12
    replace hs := hs.mono hE12
    replace hnil := hnil.mono hE12
    replace hl1 := hl1.mono hE12
    refine G_val (V_move rfl rfl) rfl rfl (.none rfl) ?_
    refine G_val (V_extract rfl rfl rfl) rfl rfl (.none rfl) ?_
    refine G_val (V_extract rfl rfl rfl) rfl rfl (.none rfl) ?_
    (refine G_alloc rfl rfl rfl (.none rfl) ?_; intro b19)
    refine G_storeA rfl rfl rfl rfl (by simp [Value.oneCell']) rfl (.none rfl) (.head _ _ _) rfl ?_
    refine G_val (V_assign rfl rfl) rfl rfl (.none rfl) ?_
    refine G_end ?_
    refine X_then ?_
    refine G_seq ?_
    refine G_region ?_
    refine G_val (V_move rfl rfl) rfl rfl (.none rfl) ?_
    refine G_val (V_add_i64 rfl rfl rfl (by omega) (by omega)) rfl rfl (.none rfl) ?_
    refine G_val (V_loadA rfl rfl (Cells.own (.tail _ (.head _))) rfl) rfl rfl (.none rfl) ?_
    refine G_val (V_move rfl rfl) rfl rfl (.none rfl) ?_
    refine G_val (V_add_i64 rfl rfl rfl (by omega) (by omega)) rfl rfl (.none rfl) ?_
    refine G_callv (k := 41) (.mk rfl rfl rfl rfl) rfl rfl (.none rfl) (Solid_call _ _ _ _ _ _ _ _ _ (by first | assumption | exact SlE.toI (by assumption) rfl | exact SlE.toS (by assumption) rfl | exact SlE.toT (by assumption) rfl | exact SlE.nilT | exact (rfl : (_ : Option _) = some _) | exact .head _ | exact .tail _ (.head _) | exact .tail _ (.tail _ (.head _)) | exact .tail _ (.tail _ (.tail _ (.head _))) | omega | (simp; omega) | (simp; done) | exact (by kernel_rfl : (_ : Bool) = _)) _ (by first | assumption | exact SlE.toI (by assumption) rfl | exact SlE.toS (by assumption) rfl | exact SlE.toT (by assumption) rfl | exact SlE.nilT | exact (rfl : (_ : Option _) = some _) | exact .head _ | exact .tail _ (.head _) | exact .tail _ (.tail _ (.head _)) | exact .tail _ (.tail _ (.tail _ (.head _))) | omega | (simp; omega) | (simp; done) | exact (by kernel_rfl : (_ : Bool) = _)) (by first | assumption | exact SlE.toI (by assumption) rfl | exact SlE.toS (by assumption) rfl | exact SlE.toT (by assumption) rfl | exact SlE.nilT | exact (rfl : (_ : Option _) = some _) | exact .head _ | exact .tail _ (.head _) | exact .tail _ (.tail _ (.head _)) | exact .tail _ (.tail _ (.tail _ (.head _))) | omega | (simp; omega) | (simp; done) | exact (by kernel_rfl : (_ : Bool) = _)) _ (by first | assumption | exact SlE.toI (by assumption) rfl | exact SlE.toS (by assumption) rfl | exact SlE.toT (by assumption) rfl | exact SlE.nilT | exact (rfl : (_ : Option _) = some _) | exact .head _ | exact .tail _ (.head _) | exact .tail _ (.tail _ (.head _)) | exact .tail _ (.tail _ (.tail _ (.head _))) | omega | (simp; omega) | (simp; done) | exact (by kernel_rfl : (_ : Bool) = _)) (by first | assumption | exact SlE.toI (by assumption) rfl | exact SlE.toS (by assumption) rfl | exact SlE.toT (by assumption) rfl | exact SlE.nilT | exact (rfl : (_ : Option _) = some _) | exact .head _ | exact .tail _ (.head _) | exact .tail _ (.tail _ (.head _)) | exact .tail _ (.tail _ (.tail _ (.head _))) | omega | (simp; omega) | (simp; done) | exact (by kernel_rfl : (_ : Bool) = _))) ?_
    refine G_val (V_move rfl rfl) rfl rfl (.none rfl) ?_
    refine G_val (V_extract rfl rfl rfl) rfl rfl (.none rfl) ?_
    refine G_val (V_extract rfl rfl rfl) rfl rfl (.none rfl) ?_
    refine G_val (V_assign rfl rfl) rfl rfl (.none rfl) ?_
    refine G_val (V_assign rfl rfl) rfl rfl (.none rfl) ?_
    refine G_end ?_
    refine X_then ?_
    refine G_seq ?_
    refine G_region ?_
    refine G_val (V_move rfl rfl) rfl rfl (.none rfl) ?_
    refine G_val (V_add_i64 rfl rfl rfl (by omega) (by omega)) rfl rfl (.none rfl) ?_
    refine G_val (V_loadA rfl rfl (Cells.own (.head _)) rfl) rfl rfl (.none rfl) ?_
    refine G_val (V_move rfl rfl) rfl rfl (.none rfl) ?_
    refine G_val (V_add_i64 rfl rfl rfl (by omega) (by omega)) rfl rfl (.none rfl) ?_
    refine G_callv (k := 41) (.mk rfl rfl rfl rfl) rfl rfl (.none rfl) (Solid_call _ _ _ _ _ _ _ _ _ (by first | assumption | exact SlE.toI (by assumption) rfl | exact SlE.toS (by assumption) rfl | exact SlE.toT (by assumption) rfl | exact SlE.nilT | exact (rfl : (_ : Option _) = some _) | exact .head _ | exact .tail _ (.head _) | exact .tail _ (.tail _ (.head _)) | exact .tail _ (.tail _ (.tail _ (.head _))) | omega | (simp; omega) | (simp; done) | exact (by kernel_rfl : (_ : Bool) = _)) _ (by first | assumption | exact SlE.toI (by assumption) rfl | exact SlE.toS (by assumption) rfl | exact SlE.toT (by assumption) rfl | exact SlE.nilT | exact (rfl : (_ : Option _) = some _) | exact .head _ | exact .tail _ (.head _) | exact .tail _ (.tail _ (.head _)) | exact .tail _ (.tail _ (.tail _ (.head _))) | omega | (simp; omega) | (simp; done) | exact (by kernel_rfl : (_ : Bool) = _)) (by first | assumption | exact SlE.toI (by assumption) rfl | exact SlE.toS (by assumption) rfl | exact SlE.toT (by assumption) rfl | exact SlE.nilT | exact (rfl : (_ : Option _) = some _) | exact .head _ | exact .tail _ (.head _) | exact .tail _ (.tail _ (.head _)) | exact .tail _ (.tail _ (.tail _ (.head _))) | omega | (simp; omega) | (simp; done) | exact (by kernel_rfl : (_ : Bool) = _)) _ (by first | assumption | exact SlE.toI (by assumption) rfl | exact SlE.toS (by assumption) rfl | exact SlE.toT (by assumption) rfl | exact SlE.nilT | exact (rfl : (_ : Option _) = some _) | exact .head _ | exact .tail _ (.head _) | exact .tail _ (.tail _ (.head _)) | exact .tail _ (.tail _ (.tail _ (.head _))) | omega | (simp; omega) | (simp; done) | exact (by kernel_rfl : (_ : Bool) = _)) (by first | assumption | exact SlE.toI (by assumption) rfl | exact SlE.toS (by assumption) rfl | exact SlE.toT (by assumption) rfl | exact SlE.nilT | exact (rfl : (_ : Option _) = some _) | exact .head _ | exact .tail _ (.head _) | exact .tail _ (.tail _ (.head _)) | exact .tail _ (.tail _ (.tail _ (.head _))) | omega | (simp; omega) | (simp; done) | exact (by kernel_rfl : (_ : Bool) = _))) ?_
    refine G_val (V_move rfl rfl) rfl rfl (.none rfl) ?_
    refine G_val (V_extract rfl rfl rfl) rfl rfl (.none rfl) ?_
    refine G_val (V_extract rfl rfl rfl) rfl rfl (.none rfl) ?_
    refine G_val (V_assign rfl rfl) rfl rfl (.none rfl) ?_
    refine G_val (V_assign rfl rfl) rfl rfl (.none rfl) ?_
    refine G_end ?_
    refine X_then ?_
    refine G_seq ?_
    refine G_seq ?_
    refine G_region ?_
    refine G_val (V_move rfl rfl) rfl rfl (.none rfl) ?_
    refine G_val (V_neq rfl rfl rfl) rfl rfl (.none rfl) ?_
    refine G_val (V_move rfl rfl) rfl rfl (.none rfl) ?_
    refine G.bool_f 154 rfl (by kernel_rfl) ?_
    refine G_val (V_move rfl rfl) rfl rfl (.yes rfl rfl rfl rfl) ?_
    refine G_val (V_neq rfl rfl rfl) rfl rfl (.yes rfl rfl rfl rfl) ?_
    refine G_val (V_pick_f rfl rfl rfl) rfl rfl (.none rfl) ?_
    refine G_val (V_move rfl rfl) rfl rfl (.none rfl) ?_
    refine G.bool_f 158 rfl (by kernel_rfl) ?_
    refine G_val (V_move rfl rfl) rfl rfl (.yes rfl rfl rfl rfl) ?_
    refine G_val (V_neq rfl rfl rfl) rfl rfl (.yes rfl rfl rfl rfl) ?_
    refine G_val (V_pick_f rfl rfl rfl) rfl rfl (.none rfl) ?_
    refine G_val (V_move rfl rfl) rfl rfl (.none rfl) ?_
    refine G.bool_f 162 rfl (by kernel_rfl) ?_
    refine G_val (V_move rfl rfl) rfl rfl (.yes rfl rfl rfl rfl) ?_
    refine G_val (V_neq rfl rfl rfl) rfl rfl (.yes rfl rfl rfl rfl) ?_
    refine G_val (V_pick_f rfl rfl rfl) rfl rfl (.none rfl) ?_
    refine G_val (V_move rfl rfl) rfl rfl (.none rfl) ?_
    refine G.bool_f 166 rfl (by kernel_rfl) ?_
    refine G_val (V_move rfl rfl) rfl rfl (.yes rfl rfl rfl rfl) ?_
    refine G_val (V_not rfl rfl) rfl rfl (.yes rfl rfl rfl rfl) ?_
    refine G_val (V_pick_f rfl rfl rfl) rfl rfl (.none rfl) ?_
    refine G_val (V_move rfl rfl) rfl rfl (.none rfl) ?_
    apply G_joinOr 6 170 176 rfl
    · intro H16
      dsimp only [List.take]
      simp only [Bool.and_eq_true, Bool.or_eq_true, Bool.not_eq_true', Bool.not_eq_false', Bool.and_eq_false_iff, Bool.or_eq_false_iff, Bool.not_not, decide_eq_true_eq, decide_eq_false_iff_not, ne_eq, Decidable.not_not, Bool.decide_eq_true] at H16
      refine G_stay (.no rfl rfl rfl rfl) rfl rfl ?_
      refine G_stay (.no rfl rfl rfl rfl) rfl rfl ?_
      refine G_stay (.no rfl rfl rfl rfl) rfl rfl ?_
      refine G_stay (.no rfl rfl rfl rfl) rfl rfl ?_
      refine G_stay (.no rfl rfl rfl rfl) rfl rfl ?_
      refine G_val (V_pick_t rfl rfl rfl) rfl rfl (.none rfl) ?_
      refine G_end ?_
      exact JQ_end 6 rfl rfl (by kernel_rfl)
    · intro H17
      dsimp only [List.take]
      simp only [Bool.and_eq_true, Bool.or_eq_true, Bool.not_eq_true', Bool.not_eq_false', Bool.and_eq_false_iff, Bool.or_eq_false_iff, Bool.not_not, decide_eq_true_eq, decide_eq_false_iff_not, ne_eq, Decidable.not_not, Bool.decide_eq_true] at H17
      refine G_val (V_move rfl rfl) rfl rfl (.yes rfl rfl rfl rfl) ?_
      refine G_val (V_move rfl rfl) rfl rfl (.yes rfl rfl rfl rfl) ?_
      refine G_val (V_lenS rfl rfl) rfl rfl (.yes rfl rfl rfl rfl) ?_
      refine G_val (V_eql rfl rfl rfl) rfl rfl (.yes rfl rfl rfl rfl) ?_
      refine G_val (V_bneq rfl rfl rfl) rfl rfl (.yes rfl rfl rfl rfl) ?_
      refine G_val (V_pick_f rfl rfl rfl) rfl rfl (.none rfl) ?_
      refine G_end ?_
      exact JQ_end 6 rfl rfl (by kernel_rfl)
    dsimp only [List.drop]
    refine G_end ?_
    refine X_then ?_
    refine G_cond rfl (fun H18 => ?_) (fun H18 => ?_)
    · simp only [Bool.and_eq_true, Bool.or_eq_true, Bool.not_eq_true', Bool.not_eq_false', Bool.and_eq_false_iff, Bool.or_eq_false_iff, Bool.not_not, decide_eq_true_eq, decide_eq_false_iff_not, ne_eq, Decidable.not_not, Bool.decide_eq_true] at H18
      refine G_seq ?_
      refine G_region ?_
      refine G_val (V_assign rfl rfl) rfl rfl (.none rfl) ?_
      refine G_end ?_
      refine X_then ?_
      refine G_ret ?_
      refine X_then_ret ?_
      refine G_leaveS (.drop _ (.drop _ (.drop _ (.nil _)))) (by exact (.cons (.tmp rfl) (.nil))) rfl ?_ ?_
      · exact (((hE4.trans hE8).trans hE5).trans hE12)
      exact ⟨(by first | rfl | (simp (discharger := omega) only [resVal, if_pos, if_neg]; first | done | rfl) | (simp [resVal, *]; done) | ((try simp only [resVal]); (repeat' split) <;> first | rfl | (exfalso; omega) | (simp_all; done) | (simp_all; omega))), (by first | rfl | (simp (discharger := omega) only [resVal, if_pos, if_neg]; first | done | rfl) | (simp [resVal, *]; done) | ((try simp only [resVal]); (repeat' split) <;> first | rfl | (exfalso; omega) | (simp_all; done) | (simp_all; omega)))⟩
    simp only [Bool.and_eq_true, Bool.or_eq_true, Bool.not_eq_true', Bool.not_eq_false', Bool.and_eq_false_iff, Bool.or_eq_false_iff, Bool.not_not, decide_eq_true_eq, decide_eq_false_iff_not, ne_eq, Decidable.not_not, Bool.decide_eq_true] at H18
    refine G_skip ?_
    refine X_then ?_
    refine G_seq ?_
    refine G_seq ?_
    refine G_region ?_
    refine G_val (V_move rfl rfl) rfl rfl (.none rfl) ?_
    refine G_val (V_lenS rfl rfl) rfl rfl (.none rfl) ?_
    refine G_val (V_eql rfl rfl rfl) rfl rfl (.none rfl) ?_
    refine G_end ?_
    refine X_then ?_
    refine G_cond_f rfl (decide_eq_false (by omega)) ?_
    refine G_skip ?_
    refine X_then ?_
    refine G_seq ?_
    refine G_region ?_
    refine G_val (V_move rfl rfl) rfl rfl (.none rfl) ?_
    refine G_val (V_loadA rfl rfl (Cells.own (.tail _ (.tail _ (.head _)))) rfl) rfl rfl (.none rfl) ?_
    refine G_call (k := 35) (.mk rfl rfl rfl rfl) rfl rfl (.none rfl) (Take_call _ _ _ _ _ _ _ _ _ _ (by first | assumption | exact SlE.toI (by assumption) rfl | exact SlE.toS (by assumption) rfl | exact SlE.toT (by assumption) rfl | exact SlE.nilT | exact (rfl : (_ : Option _) = some _) | exact .head _ | exact .tail _ (.head _) | exact .tail _ (.tail _ (.head _)) | exact .tail _ (.tail _ (.tail _ (.head _))) | omega | (simp; omega) | (simp; done) | exact (by kernel_rfl : (_ : Bool) = _)) (by first | assumption | exact SlE.toI (by assumption) rfl | exact SlE.toS (by assumption) rfl | exact SlE.toT (by assumption) rfl | exact SlE.nilT | exact (rfl : (_ : Option _) = some _) | exact .head _ | exact .tail _ (.head _) | exact .tail _ (.tail _ (.head _)) | exact .tail _ (.tail _ (.tail _ (.head _))) | omega | (simp; omega) | (simp; done) | exact (by kernel_rfl : (_ : Bool) = _)) (by first | assumption | exact SlE.toI (by assumption) rfl | exact SlE.toS (by assumption) rfl | exact SlE.toT (by assumption) rfl | exact SlE.nilT | exact (rfl : (_ : Option _) = some _) | exact .head _ | exact .tail _ (.head _) | exact .tail _ (.tail _ (.head _)) | exact .tail _ (.tail _ (.tail _ (.head _))) | omega | (simp; omega) | (simp; done) | exact (by kernel_rfl : (_ : Bool) = _)) _ _ _ (by first | assumption | exact SlE.toI (by assumption) rfl | exact SlE.toS (by assumption) rfl | exact SlE.toT (by assumption) rfl | exact SlE.nilT | exact (rfl : (_ : Option _) = some _) | exact .head _ | exact .tail _ (.head _) | exact .tail _ (.tail _ (.head _)) | exact .tail _ (.tail _ (.tail _ (.head _))) | omega | (simp; omega) | (simp; done) | exact (by kernel_rfl : (_ : Bool) = _))) ?_
    rintro r19 E20 L21 hE22 ⟨z23, ⟨z24, ⟨rfl, ⟨Z25, rfl⟩⟩⟩⟩
    replace Z15 := Z15.mono hE22
    replace Z8 := Z8.mono hE22
    replace hs := hs.mono hE22
    replace hnil := hnil.mono hE22
    replace hl1 := hl1.mono hE22
    refine G_val (V_move rfl rfl) rfl rfl (.none rfl) ?_
    refine G_val (V_extract rfl rfl rfl) rfl rfl (.none rfl) ?_
    refine G_val (V_extract rfl rfl rfl) rfl rfl (.none rfl) ?_
    refine G_val (V_extract rfl rfl rfl) rfl rfl (.none rfl) ?_
    (refine G_alloc rfl rfl rfl (.none rfl) ?_; intro b23)
    (refine G_alloc rfl rfl rfl (.none rfl) ?_; intro b24)
    refine G_storeA rfl rfl rfl rfl (by simp [Value.oneCell']) rfl (.none rfl) (.tail _ (.head _ _ _)) rfl ?_
    refine G_storeA rfl rfl rfl rfl (by simp [Value.oneCell']) rfl (.none rfl) (.head _ _ _) rfl ?_
    refine G_val (V_assign rfl rfl) rfl rfl (.none rfl) ?_
    refine G_end ?_
    refine X_then ?_
    refine G_seq ?_
    refine G_region ?_
    refine G_val (V_move rfl rfl) rfl rfl (.none rfl) ?_
    refine G_val (V_loadA rfl rfl (Cells.own (.tail _ (.head _))) rfl) rfl rfl (.none rfl) ?_
    refine G_val (V_move rfl rfl) rfl rfl (.none rfl) ?_
    refine G_callv (k := 41) (.mk rfl rfl rfl rfl) rfl rfl (.none rfl) (Solid_call _ _ _ _ _ _ _ _ _ (by first | assumption | exact SlE.toI (by assumption) rfl | exact SlE.toS (by assumption) rfl | exact SlE.toT (by assumption) rfl | exact SlE.nilT | exact (rfl : (_ : Option _) = some _) | exact .head _ | exact .tail _ (.head _) | exact .tail _ (.tail _ (.head _)) | exact .tail _ (.tail _ (.tail _ (.head _))) | omega | (simp; omega) | (simp; done) | exact (by kernel_rfl : (_ : Bool) = _)) _ (by first | assumption | exact SlE.toI (by assumption) rfl | exact SlE.toS (by assumption) rfl | exact SlE.toT (by assumption) rfl | exact SlE.nilT | exact (rfl : (_ : Option _) = some _) | exact .head _ | exact .tail _ (.head _) | exact .tail _ (.tail _ (.head _)) | exact .tail _ (.tail _ (.tail _ (.head _))) | omega | (simp; omega) | (simp; done) | exact (by kernel_rfl : (_ : Bool) = _)) (by first | assumption | exact SlE.toI (by assumption) rfl | exact SlE.toS (by assumption) rfl | exact SlE.toT (by assumption) rfl | exact SlE.nilT | exact (rfl : (_ : Option _) = some _) | exact .head _ | exact .tail _ (.head _) | exact .tail _ (.tail _ (.head _)) | exact .tail _ (.tail _ (.tail _ (.head _))) | omega | (simp; omega) | (simp; done) | exact (by kernel_rfl : (_ : Bool) = _)) _ (by first | assumption | exact SlE.toI (by assumption) rfl | exact SlE.toS (by assumption) rfl | exact SlE.toT (by assumption) rfl | exact SlE.nilT | exact (rfl : (_ : Option _) = some _) | exact .head _ | exact .tail _ (.head _) | exact .tail _ (.tail _ (.head _)) | exact .tail _ (.tail _ (.tail _ (.head _))) | omega | (simp; omega) | (simp; done) | exact (by kernel_rfl : (_ : Bool) = _)) (by first | assumption | exact SlE.toI (by assumption) rfl | exact SlE.toS (by assumption) rfl | exact SlE.toT (by assumption) rfl | exact SlE.nilT | exact (rfl : (_ : Option _) = some _) | exact .head _ | exact .tail _ (.head _) | exact .tail _ (.tail _ (.head _)) | exact .tail _ (.tail _ (.tail _ (.head _))) | omega | (simp; omega) | (simp; done) | exact (by kernel_rfl : (_ : Bool) = _))) ?_
    refine G_val (V_move rfl rfl) rfl rfl (.none rfl) ?_
    refine G_val (V_extract rfl rfl rfl) rfl rfl (.none rfl) ?_
    refine G_val (V_extract rfl rfl rfl) rfl rfl (.none rfl) ?_
    refine G_val (V_assign rfl rfl) rfl rfl (.none rfl) ?_
    refine G_val (V_assign rfl rfl) rfl rfl (.none rfl) ?_
    refine G_end ?_
    refine X_then ?_
    refine G_seq ?_
    refine G_region ?_
    refine G_val (V_move rfl rfl) rfl rfl (.none rfl) ?_
    refine G_val (V_move rfl rfl) rfl rfl (.none rfl) ?_
    refine G_val (V_move rfl rfl) rfl rfl (.yes rfl rfl rfl rfl) ?_
    refine G_val (V_eql rfl rfl rfl) rfl rfl (.yes rfl rfl rfl rfl) ?_
    refine G_val (V_pick_t rfl rfl rfl) rfl rfl (.none rfl) ?_
    refine G_val (V_move rfl rfl) rfl rfl (.none rfl) ?_
    refine G.bool_t 200 rfl (by kernel_rfl) ?_
    refine G_val (V_move rfl rfl) rfl rfl (.yes rfl rfl rfl rfl) ?_
    refine G_val (V_eql rfl rfl rfl) rfl rfl (.yes rfl rfl rfl rfl) ?_
    refine G_val (V_pick_t rfl rfl rfl) rfl rfl (.none rfl) ?_
    refine G_val (V_move rfl rfl) rfl rfl (.none rfl) ?_
    refine G.bool_t 204 rfl (by kernel_rfl) ?_
    refine G_val (V_move rfl rfl) rfl rfl (.yes rfl rfl rfl rfl) ?_
    refine G_val (V_pick_t rfl rfl rfl) rfl rfl (.none rfl) ?_
    refine G_val (V_assign rfl rfl) rfl rfl (.none rfl) ?_
    refine G_end ?_
    refine X_then ?_
    refine G_ret ?_
    refine G_leaveS (.drop _ (.drop _ (.drop _ (.drop _ (.drop _ (.nil _)))))) (by exact (.cons (.tmp rfl) (.nil))) rfl ?_ ?_
    · exact ((((hE4.trans hE8).trans hE5).trans hE12).trans hE22)
    exact ⟨(by first | rfl | (simp (discharger := omega) only [resVal, if_pos, if_neg]; first | done | rfl) | (simp [resVal, *]; done) | ((try simp only [resVal]); (repeat' split) <;> first | rfl | (exfalso; omega) | (simp_all; done) | (simp_all; omega))), (by first | rfl | (simp (discharger := omega) only [resVal, if_pos, if_neg]; first | done | rfl) | (simp [resVal, *]; done) | ((try simp only [resVal]); (repeat' split) <;> first | rfl | (exfalso; omega) | (simp_all; done) | (simp_all; omega)))⟩
end Go.Proofs.Ytlkfbokdbfnicaa
