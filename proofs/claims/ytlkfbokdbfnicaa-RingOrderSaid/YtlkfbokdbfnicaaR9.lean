import Derived.Test.YtlkfbokdbfnicaaSep19
import Derived.Test.YtlkfbokdbfnicaaInst
import Derived.Test.YtlkfbokdbfnicaaR6
set_option linter.unusedSimpArgs false
set_option linter.unusedVariables false
set_option maxHeartbeats 2000000
set_option maxRecDepth 20000
namespace Go.Proofs.Ytlkfbokdbfnicaa
open Go.RowKit

def kbyte (k : Int) : UInt8 := UInt8.ofNat (k % 256).toNat
theorem kbyte_wrap (k : Int) : IntKind.u8.wrap k = ((kbyte k).toNat : Int) := by
  have h1 : 0 ≤ k % 256 := by omega
  have h2 : k % 256 < 256 := by omega
  have e : (kbyte k).toNat = (k % 256).toNat := by
    simp only [kbyte, UInt8.toNat_ofNat']
    omega
  rw [e]
  simp [IntKind.wrap, IntKind.bits, IntKind.signed]
  omega
/-- n bytes made of a number. -/
def fillB : Nat → Int → List UInt8
  | 0, _ => []
  | n + 1, k => kbyte ((k * 75 + 74) % 65537) :: fillB n ((k * 75 + 74) % 65537)
theorem fillB_len (n : Nat) : ∀ k, (fillB n k).length = n := by
  induction n with
  | zero => intro k; rfl
  | succ n ih => intro k; simp [fillB, ih]
section
variable (E : Env) (L : List Res)
theorem Fill_call (k : Int) (hk0 : 0 ≤ k) (hk1 : k ≤ 100000000000000000) (n : Nat) (hn : n ≤ 1000) : CallV Try.prog 104 #[.int .i64 k, .int .i64 n] E L (.string (S (fillB n k))) := by
  refine CallS.toV (CallS.intro (l := [.int .i64 k, .int .i64 n]) _ Try.func104 rfl Try.ntmps104 rfl ?_)
  refine G_seq ?_
  refine G_region ?_
  refine G_val (V_assign rfl rfl) rfl rfl (.none rfl) ?_
  refine G_end ?_
  refine X_then ?_
  refine G_seq ?_
  refine G_region ?_
  refine G_val (V_assign rfl rfl) rfl rfl (.none rfl) ?_
  refine G_end ?_
  refine X_then ?_
  refine G_seq ?_
  refine G_seq ?_
  refine G_region ?_
  refine G_val (V_assign rfl rfl) rfl rfl (.none rfl) ?_
  refine G_end ?_
  refine X_then ?_
  refine G_block ?_
  refine G_loop (α := Nat × Int × List UInt8) (fun x => [(0, .int .i64 x.2.1), (1, .int .i64 n), (5, .string (S x.2.2)), (6, .int .i64 x.1)]) (fun _ => E) (fun _ => L)
    (fun x => x.1 ≤ n ∧ x.2.2 ++ fillB (n - x.1) x.2.1 = fillB n k ∧ x.2.2.length = x.1 ∧ 0 ≤ x.2.1 ∧ x.2.1 ≤ 100000000000000000) (fun x => n - x.1) (0, k, []) ⟨Nat.zero_le _, rfl, rfl, hk0, hk1⟩ ⟨rfl, rfl, rfl, rfl, trivial⟩ rfl rfl ?_
  rintro ⟨i, j, o⟩ ⟨hi, ho, hl, hj0, hj1⟩
  simp only at hi ho hl hj0 hj1 ⊢
  by_cases hlt : i < n
  · have e := kbyte_wrap ((j * 75 + 74) % 65537)
    have h1 : 0 ≤ (j * 75 + 74) % 65537 := by omega
    have h2 : (j * 75 + 74) % 65537 < 65537 := by omega
    refine G_seq ?_
    refine G_seq ?_
    refine G_region ?_
    refine G_val (V_move rfl rfl) rfl rfl (.none rfl) ?_
    refine G_val (V_move rfl rfl) rfl rfl (.none rfl) ?_
    refine G_val (V_lss rfl rfl rfl) rfl rfl (.none rfl) ?_
    refine G_end ?_
    refine X_then ?_
    refine G_cond_t rfl (decide_eq_true (by omega)) ?_
    refine G_skip ?_
    refine X_then ?_
    refine G_seq ?_
    refine G_block ?_
    refine G_seq ?_
    refine G_region ?_
    refine G_val (V_move rfl rfl) rfl rfl (.none rfl) ?_
    refine G_val (V_mul_i64 rfl rfl rfl (by omega) (by omega)) rfl rfl (.none rfl) ?_
    refine G_val (V_add_i64 rfl rfl rfl (by omega) (by omega)) rfl rfl (.none rfl) ?_
    refine G_callv (k := 46) (.mk rfl rfl rfl rfl) rfl rfl (.none rfl) (Mod_call' _ _ _ _ (by first | assumption | exact SlE.toI (by assumption) rfl | exact SlE.toS (by assumption) rfl | exact SlE.toT (by assumption) rfl | exact SlE.nilT | exact (rfl : (_ : Option _) = some _) | exact .head _ | exact .tail _ (.head _) | exact .tail _ (.tail _ (.head _)) | exact .tail _ (.tail _ (.tail _ (.head _))) | omega | (simp; omega) | (simp; done) | exact (by kernel_rfl : (_ : Bool) = _)) (by first | assumption | exact SlE.toI (by assumption) rfl | exact SlE.toS (by assumption) rfl | exact SlE.toT (by assumption) rfl | exact SlE.nilT | exact (rfl : (_ : Option _) = some _) | exact .head _ | exact .tail _ (.head _) | exact .tail _ (.tail _ (.head _)) | exact .tail _ (.tail _ (.tail _ (.head _))) | omega | (simp; omega) | (simp; done) | exact (by kernel_rfl : (_ : Bool) = _))) ?_
    refine G_val (V_assign rfl rfl) rfl rfl (.none rfl) ?_
    refine G_end ?_
    refine X_then ?_
    refine G_region ?_
    refine G_val (V_move rfl rfl) rfl rfl (.none rfl) ?_
    refine G_val (V_move rfl rfl) rfl rfl (.none rfl) ?_
    refine G_val (V_conv rfl rfl) rfl rfl (.none rfl) ?_
    (refine G_lit1 rfl rfl rfl rfl rfl (.none rfl) ?_; intro b19)
    rw [e]
    refine G_val (V_b2s (l := [_]) rfl rfl (Rd.lit (.head _) rfl)) rfl rfl (.none rfl) ?_
    refine G_val (V_cat rfl rfl rfl (by simp; omega)) rfl rfl (.none rfl) ?_
    refine G_val (V_assign rfl rfl) rfl rfl (.none rfl) ?_
    refine G_end ?_
    refine X_block ?_
    refine X_then ?_
    refine G_region ?_
    refine G_val (V_move rfl rfl) rfl rfl (.none rfl) ?_
    refine G_val (V_add_i64 rfl rfl rfl (by omega) (by omega)) rfl rfl (.none rfl) ?_
    refine G_val (V_assign rfl rfl) rfl rfl (.none rfl) ?_
    refine G_end ?_
    refine X_then ?_
    refine G.drop ?_
    generalize hj' : (j * 75 + 74) % 65537 = j' at *
    refine G_again (i + 1, j', o ++ [kbyte j']) ⟨hlt, ?_, by simp [hl], h1, by simp only; omega⟩ (by simp only; omega) ⟨rfl, rfl, rfl, rfl, trivial⟩ rfl rfl
    simp only
    rw [← ho, show n - i = (n - (i + 1)) + 1 by omega, fillB, List.append_assoc, hj']
    rfl
  · have hin : i = n := by omega
    subst hin
    rw [Nat.sub_self, fillB, List.append_nil] at ho
    rw [← ho]
    refine G_seq ?_
    refine G_seq ?_
    refine G_region ?_
    refine G_val (V_move rfl rfl) rfl rfl (.none rfl) ?_
    refine G_val (V_move rfl rfl) rfl rfl (.none rfl) ?_
    refine G_val (V_lss rfl rfl rfl) rfl rfl (.none rfl) ?_
    refine G_end ?_
    refine X_then ?_
    refine G_cond_f rfl (decide_eq_false (by omega)) ?_
    refine G_exit ?_
    refine X_then_exit ?_
    refine X_then_exit ?_
    refine X_block_hit ?_
    refine X_then ?_
    refine G_seq ?_
    refine G_region ?_
    refine G_val (V_move rfl rfl) rfl rfl (.none rfl) ?_
    refine G_val (V_assign rfl rfl) rfl rfl (.none rfl) ?_
    refine G_end ?_
    refine X_then ?_
    refine G_ret ?_
    refine G_leaveS (.nil _) (by exact (.cons (.tmp rfl) (.nil))) rfl ?_ ?_
    · exact (.refl _)
    exact ⟨rfl, rfl⟩
/-- A token made of a number. -/
def mkTokQ (q terms at1 : Int) : Tok := ⟨q % terms, fillB ((q / 8) % 4).toNat q, at1⟩
def mkTok (n terms at1 : Int) : Tok := mkTokQ (n % 1073741824) terms at1
theorem Token_call (n terms at1 : Int) (hn : -9223372036854775808 ≤ n ∧ n ≤ 9223372036854775807) (ht : 1 ≤ terms) (ht8 : terms ≤ 8) :
    CallV Try.prog 83 #[.int .i64 n, .int .i64 terms, .int .i64 at1] E L (mkTok n terms at1).v := by
  obtain ⟨q, hq⟩ : ∃ q, n % 1073741824 = q := ⟨_, rfl⟩
  have h1 : 0 ≤ q := by omega
  have h2 : q < 1073741824 := by omega
  obtain ⟨m, hm⟩ : ∃ m : Nat, (q / 8) % 4 = (m : Int) := ⟨((q / 8) % 4).toNat, by omega⟩
  have h4 : m ≤ 3 := by omega
  have h7 : max terms 1 = terms := by omega
  have h8 : mkTok n terms at1 = ⟨q % terms, fillB m q, at1⟩ := by rw [mkTok, hq, mkTokQ, hm]; rfl
  rw [h8]
  refine CallS.toV (CallS.intro (l := [.int .i64 n, .int .i64 terms, .int .i64 at1]) _ Try.func83 rfl Try.ntmps83 rfl ?_)
  refine G_seq ?_
  refine G_region ?_
  (refine G_alloc rfl rfl rfl (.none rfl) ?_; intro b6)
  refine G_end ?_
  refine X_then ?_
  refine G_seq ?_
  refine G_region ?_
  refine G_val (V_move rfl rfl) rfl rfl (.none rfl) ?_
  refine G_callv (.mk rfl rfl rfl rfl) rfl rfl (.none rfl) (Mod_call' E _ n 1073741824 hn (by omega)) ?_
  rw [hq]
  refine G_val (V_assign rfl rfl) rfl rfl (.none rfl) ?_
  refine G_end ?_
  refine X_then ?_
  refine G_seq ?_
  refine G_region ?_
  refine G_val (V_move rfl rfl) rfl rfl (.none rfl) ?_
  refine G_val (V_move rfl rfl) rfl rfl (.none rfl) ?_
  refine G_val (V_max rfl rfl rfl) rfl rfl (.none rfl) ?_
  rw [h7]
  refine G_callv (.mk rfl rfl rfl rfl) rfl rfl (.none rfl) (Mod_call' E _ q terms (by omega) (by omega)) ?_
  refine G_val (V_move rfl rfl) rfl rfl (.none rfl) ?_
  refine G_val (V_move rfl rfl) rfl rfl (.none rfl) ?_
  refine G_val (V_quo_n rfl rfl rfl (by omega) (by omega) (by simp [IntKind.max, IntKind.signed, IntKind.bits]; omega)) rfl rfl (.none rfl) ?_
  refine G_val (V_rem_n rfl rfl rfl (by omega) (by omega)) rfl rfl (.none rfl) ?_
  rw [hm]
  refine G_callv (k := 104) (.mk rfl rfl rfl rfl) rfl rfl (.none rfl) (Fill_call _ _ _ (by first | assumption | exact SlE.toI (by assumption) rfl | exact SlE.toS (by assumption) rfl | exact SlE.toT (by assumption) rfl | exact SlE.nilT | exact (rfl : (_ : Option _) = some _) | exact .head _ | exact .tail _ (.head _) | exact .tail _ (.tail _ (.head _)) | exact .tail _ (.tail _ (.tail _ (.head _))) | omega | (simp; omega) | (simp; done) | exact (by kernel_rfl : (_ : Bool) = _)) (by first | assumption | exact SlE.toI (by assumption) rfl | exact SlE.toS (by assumption) rfl | exact SlE.toT (by assumption) rfl | exact SlE.nilT | exact (rfl : (_ : Option _) = some _) | exact .head _ | exact .tail _ (.head _) | exact .tail _ (.tail _ (.head _)) | exact .tail _ (.tail _ (.tail _ (.head _))) | omega | (simp; omega) | (simp; done) | exact (by kernel_rfl : (_ : Bool) = _)) _ (by first | assumption | exact SlE.toI (by assumption) rfl | exact SlE.toS (by assumption) rfl | exact SlE.toT (by assumption) rfl | exact SlE.nilT | exact (rfl : (_ : Option _) = some _) | exact .head _ | exact .tail _ (.head _) | exact .tail _ (.tail _ (.head _)) | exact .tail _ (.tail _ (.tail _ (.head _))) | omega | (simp; omega) | (simp; done) | exact (by kernel_rfl : (_ : Bool) = _))) ?_
  refine G_val (V_move rfl rfl) rfl rfl (.none rfl) ?_
  refine G_val (V_build rfl rfl (by simp [fillV, setLs, setL, Value.cells]; rfl)) rfl rfl (.none rfl) ?_
  refine G_storeA rfl rfl rfl rfl (by simp [Value.oneCell']) rfl (.none rfl) (.head _ _ _) rfl ?_
  refine G_end ?_
  refine X_then ?_
  refine G_ret ?_
  refine G_leaveS (.drop _ (.nil _)) (by exact (.cons (.cellA rfl (Cells.own (.head _)) rfl) (.nil))) rfl ?_ ?_
  · exact (.refl _)
  exact ⟨rfl, rfl⟩
theorem mkTok_ok (n terms at1 : Int) (ht : 1 ≤ terms) (ha0 : 0 ≤ at1) (ha1 : at1 ≤ 1099511627776) : tokB terms (mkTok n terms at1) = true ∧ (mkTok n terms at1).text.length ≤ 3 := by
  obtain ⟨q, hq⟩ : ∃ q, n % 1073741824 = q := ⟨_, rfl⟩
  have h1 : 0 ≤ q := by omega
  obtain ⟨m, hm⟩ : ∃ m : Nat, (q / 8) % 4 = (m : Int) := ⟨((q / 8) % 4).toNat, by omega⟩
  have h8 : mkTok n terms at1 = ⟨q % terms, fillB m q, at1⟩ := by rw [mkTok, hq, mkTokQ, hm]; rfl
  have h2 := Int.emod_nonneg q (b := terms) (by omega)
  have h3 := Int.emod_lt_of_pos q (b := terms) (by omega)
  rw [h8, tokB_iff]
  simp only [fillB_len]
  omega
/-- Tokens made of numbers, their frames one directly behind the other. -/
def mkToksAt (terms : Int) : List Int → Int → List Tok
  | [], _ => []
  | n :: l, at1 => mkTok n terms at1 :: mkToksAt terms l (tbeh (mkTok n terms at1))
def mkToks (ns : List Int) (terms at1 : Int) : List Tok := mkToksAt terms (ns.take 12) at1
theorem mkToksAt_len (terms : Int) : ∀ ns at1, (mkToksAt terms ns at1).length = ns.length := by
  intro ns
  induction ns with
  | nil => intro _; rfl
  | cons n l ih => intro a; simp [mkToksAt, ih]
theorem mkTok_at (n terms at1 : Int) : (mkTok n terms at1).at' = at1 := rfl
theorem mkToksAt_app (terms : Int) : ∀ (a b : List Int) (at1 : Int), mkToksAt terms (a ++ b) at1 = mkToksAt terms a at1 ++ mkToksAt terms b (tendF at1 (mkToksAt terms a at1)) := by
  intro a
  induction a with
  | nil => intro b at1; rfl
  | cons n a ih =>
    intro b at1
    simp only [List.cons_append, mkToksAt, ih]
    rfl
/-- What tokens in order look like. -/
inductive Chain (terms : Int) : Int → List Tok → Prop
  | nil (at1 : Int) : Chain terms at1 []
  | cons (t : Tok) (l : List Tok) (h : tokB terms t = true) (ht : t.text.length ≤ 3) (hl : Chain terms (tbeh t) l) : Chain terms t.at' (t :: l)
theorem mkToksAt_chain (terms : Int) (ht : 1 ≤ terms) : ∀ (ns : List Int) (at1 : Int), 0 ≤ at1 → at1 + 5 * ns.length ≤ 1000000 → Chain terms at1 (mkToksAt terms ns at1) := by
  intro ns
  induction ns with
  | nil => intro at1 _ _; exact .nil _
  | cons n l ih =>
    intro at1 h0 h1
    simp only [List.length_cons] at h1
    obtain ⟨h2, h3⟩ := mkTok_ok n terms at1 ht h0 (by omega)
    have h4 : tbeh (mkTok n terms at1) = at1 + (2 + (mkTok n terms at1).text.length) := rfl
    exact .cons (mkTok n terms at1) _ h2 h3 (ih _ (by omega) (by omega))
theorem Tokens_call (p : Option Addr) (c : Nat) (ns : List Int) (hs : SlE E 1 p ns.length (i64s ns)) (hn : ns.length ≤ 9223372036854775807) (hb : ∀ n, n ∈ ns → -9223372036854775808 ≤ n ∧ n ≤ 9223372036854775807) (terms at1 : Int) (ht : 1 ≤ terms) (ht8 : terms ≤ 8) (h0 : 0 ≤ at1) (h1 : at1 ≤ 10000) :
    CallS Try.prog 47 #[.slice p ns.length c, .int .i64 terms, .int .i64 at1] E L
      (fun r E' L' => ∃ a c' k, r = .slice a k c' ∧ k = (mkToks ns terms at1).length ∧ SlE E' 3 a k (toks (mkToks ns terms at1)) ∧ k ≤ c' ∧ L' = L) := by
  refine CallS.intro (l := [.slice p ns.length c, .int .i64 terms, .int .i64 at1]) _ Try.func47 rfl Try.ntmps47 rfl ?_
  refine G_seq ?_
  refine G_region ?_
  refine G_val (V_assign rfl rfl) rfl rfl (.none rfl) ?_
  refine G_end ?_
  refine X_then ?_
  refine G_seq ?_
  refine G_region ?_
  refine G_val (V_assign rfl rfl) rfl rfl (.none rfl) ?_
  refine G_end ?_
  refine X_then ?_
  refine G_seq ?_
  refine G_seq ?_
  refine G_region ?_
  refine G_val (V_assign rfl rfl) rfl rfl (.none rfl) ?_
  refine G_end ?_
  refine X_then ?_
  refine G_block ?_
  refine G.nilSl 55 3 ?_
  refine G_loop (α := Nat × Option Addr × Nat × List Tok × Int) (fun x => [(0, .slice p ns.length c), (1, .int .i64 terms), (2, .int .i64 x.2.2.2.2), (7, .slice x.2.1 x.1 x.2.2.1), (8, .int .i64 x.1)]) (fun _ => E)
    (fun x => .sl 55 3 x.2.1 x.1 x.2.2.1 (toks x.2.2.2.1) :: L)
    (fun x => x.1 ≤ ns.length ∧ x.1 ≤ 12 ∧ x.2.2.2.1 = mkToksAt terms (ns.take x.1) at1 ∧ x.2.2.2.2 = tendF at1 (mkToksAt terms (ns.take x.1) at1) ∧ 0 ≤ x.2.2.2.2 ∧ x.2.2.2.2 ≤ 10000 + 5 * x.1) (fun x => ns.length - x.1) (0, none, 0, [], at1) ⟨Nat.zero_le _, Nat.zero_le _, rfl, rfl, h0, h1⟩ ⟨rfl, rfl, rfl, rfl, rfl, trivial⟩ rfl rfl ?_
  rintro ⟨i, a, ca, xs, at2⟩ ⟨hi, hi12, hxs, hat, h2, h3⟩
  simp only at hi hi12 hxs hat h2 h3 ⊢
  have hxl : xs.length = i := by rw [hxs, mkToksAt_len]; simp; omega
  by_cases hlt : i < ns.length
  · by_cases hlt2 : i < 12
    · have hx := i64s_get (List.getElem?_eq_getElem hlt)
      have hbn := hb _ (List.getElem_mem hlt)
      obtain ⟨g1, g2⟩ := mkTok_ok ns[i] terms at2 ht h2 (by omega)
      obtain ⟨t, hT⟩ : ∃ t, mkTok ns[i] terms at2 = t := ⟨_, rfl⟩
      have hta : t.at' = at2 := by rw [← hT]; rfl
      have hcall := Token_call E (.sl 55 3 a i ca (toks xs) :: L) ns[i] terms at2 hbn ht ht8
      rw [hT] at hcall g1 g2
      have htl := toks_len xs
      have hap := toks_append xs [t]
      have htk : ns.take (i + 1) = ns.take i ++ [ns[i]] := List.take_succ_eq_append_getElem hlt
      have hxs' : xs ++ [t] = mkToksAt terms (ns.take (i + 1)) at1 := by rw [htk, mkToksAt_app, ← hat, ← hxs]; simp only [mkToksAt, hT]
      refine G_seq ?_
      refine G_seq ?_
      refine G_region ?_
      refine G_val (V_move rfl rfl) rfl rfl (.none rfl) ?_
      refine G_val (V_move rfl rfl) rfl rfl (.none rfl) ?_
      refine G_val (V_lenS rfl rfl) rfl rfl (.none rfl) ?_
      refine G_val (V_lss rfl rfl rfl) rfl rfl (.none rfl) ?_
      refine G_val (V_move rfl rfl) rfl rfl (.none rfl) ?_
      refine G.bool_t 14 rfl (decide_eq_true (by omega)) ?_
      refine G_val (V_move rfl rfl) rfl rfl (.yes rfl rfl rfl rfl) ?_
      refine G_val (V_lss rfl rfl rfl) rfl rfl (.yes rfl rfl rfl rfl) ?_
      refine G_val (V_pick_t rfl rfl rfl) rfl rfl (.none rfl) ?_
      refine G_end ?_
      refine X_then ?_
      refine G_cond_t rfl (decide_eq_true (by omega)) ?_
      refine G_skip ?_
      refine X_then ?_
      refine G_seq ?_
      refine G_block ?_
      refine G_seq ?_
      refine G_region ?_
      refine G_val (V_move rfl rfl) rfl rfl (.none rfl) ?_
      refine G_val (V_move rfl rfl) rfl rfl (.none rfl) ?_
      refine G_val (V_idxAddr rfl rfl rfl (SlE.rd (by assumption)) (by omega) (by omega)) rfl rfl (.none rfl) ?_
      refine G_val (V_loadS rfl rfl (SlE.rd (by assumption)) (by assumption) (by simp)) rfl rfl (.none rfl) ?_
      refine G_val (V_move rfl rfl) rfl rfl (.none rfl) ?_
      refine G_val (V_move rfl rfl) rfl rfl (.none rfl) ?_
      refine G_callv (.mk rfl rfl rfl rfl) rfl rfl (.none rfl) hcall ?_
      (refine G_alloc rfl rfl rfl (.none rfl) ?_; intro b9)
      refine G_storeA rfl rfl rfl rfl (by simp [Value.oneCell']) rfl (.none rfl) (.head _ _ _) rfl ?_
      refine G_end ?_
      refine X_then ?_
      refine G_seq ?_
      refine G_region ?_
      refine G_val (V_move rfl rfl) rfl rfl (.none rfl) ?_
      refine G_val (V_loadA rfl rfl (Cells.own (.head _)) rfl) rfl rfl (.none rfl) ?_
      (refine G_lit rfl rfl (by decide) (by simp [fillS, zeros, setLs, setL, Value.cells, List.range, List.range.loop]; rfl) rfl rfl (.none rfl) ?_; intro b29)
      (refine G_append rfl rfl rfl (Rd.lit (.head _) rfl) (by simp [Value.oneCell']) (by omega) (by omega) rfl rfl (.none rfl) (fun _ _ => (.tail _ (.tail _ (.head _ _ _)))) ?_; intro a30 c30; refine G.rm (.head _ _) ?_)
      refine G_val (V_assign rfl rfl) rfl rfl (.none rfl) ?_
      refine G_end ?_
      refine X_then ?_
      refine G_region ?_
      refine G_val (V_move rfl rfl) rfl rfl (.none rfl) ?_
      refine G_val (V_add_i64 rfl rfl rfl (by omega) (by omega)) rfl rfl (.none rfl) ?_
      refine G_val (V_fieldAddr rfl rfl (by decide)) rfl rfl (.none rfl) ?_
      refine G_val (V_load rfl rfl (Cell.own (.head _) rfl)) rfl rfl (.none rfl) ?_
      refine G_val (V_len rfl rfl) rfl rfl (.none rfl) ?_
      refine G_val (V_add_i64 rfl rfl rfl (by omega) (by omega)) rfl rfl (.none rfl) ?_
      refine G_val (V_assign rfl rfl) rfl rfl (.none rfl) ?_
      refine G_end ?_
      refine X_block ?_
      refine X_then ?_
      refine G_region ?_
      refine G_val (V_move rfl rfl) rfl rfl (.none rfl) ?_
      refine G_val (V_add_i64 rfl rfl rfl (by omega) (by omega)) rfl rfl (.none rfl) ?_
      refine G_val (V_assign rfl rfl) rfl rfl (.none rfl) ?_
      refine G_end ?_
      refine X_then ?_
      refine G.drop ?_
      have htb : tbeh t = at2 + (2 + t.text.length) := by rw [← hta]; rfl
      refine G_again (i + 1, a30, c30, xs ++ [t], tbeh t) ⟨hlt, hlt2, hxs', ?_, ?_, ?_⟩ (by simp only; omega) ⟨rfl, rfl, ?_, rfl, rfl, trivial⟩ rfl (by rw [hap]; rfl)
      · simp only; rw [← hxs']; exact (tendF_snoc at1 xs t).symm
      · simp only; omega
      · simp only; omega
      · simp only [htb, ← Int.add_assoc]; rfl
    · have hi2 : i = 12 := by omega
      subst hi2
      have hm : mkToks ns terms at1 = xs := by rw [mkToks, ← hxs]
      rw [hm]
      refine G.freezeSl (.head _ _) ?_
      intro E1 hE1 hal hc
      refine G_seq ?_
      refine G_seq ?_
      refine G_region ?_
      refine G_val (V_move rfl rfl) rfl rfl (.none rfl) ?_
      refine G_val (V_move rfl rfl) rfl rfl (.none rfl) ?_
      refine G_val (V_lenS rfl rfl) rfl rfl (.none rfl) ?_
      refine G_val (V_lss rfl rfl rfl) rfl rfl (.none rfl) ?_
      refine G_val (V_move rfl rfl) rfl rfl (.none rfl) ?_
      refine G.bool_t 14 rfl (decide_eq_true (by omega)) ?_
      refine G_val (V_move rfl rfl) rfl rfl (.yes rfl rfl rfl rfl) ?_
      refine G_val (V_lss rfl rfl rfl) rfl rfl (.yes rfl rfl rfl rfl) ?_
      refine G_val (V_pick_t rfl rfl rfl) rfl rfl (.none rfl) ?_
      refine G_end ?_
      refine X_then ?_
      refine G_cond_f rfl (by kernel_rfl) ?_
      refine G_exit ?_
      refine X_then_exit ?_
      refine X_then_exit ?_
      refine X_block_hit ?_
      refine X_then ?_
      refine G_seq ?_
      refine G_region ?_
      refine G_val (V_move rfl rfl) rfl rfl (.none rfl) ?_
      refine G_val (V_assign rfl rfl) rfl rfl (.none rfl) ?_
      refine G_end ?_
      refine X_then ?_
      refine G_ret ?_
      refine G_leaveS (.nil _) (by exact (.cons (.tmp rfl) (.nil))) rfl ?_ ?_
      · exact hE1
      exact ⟨_, ⟨_, ⟨_, ⟨(by first | rfl | (simp (discharger := omega) only [resVal, if_pos, if_neg]; first | done | rfl) | (simp [resVal, *]; done) | ((try simp only [resVal]); (repeat' split) <;> first | rfl | (exfalso; omega) | (simp_all; done) | (simp_all; omega))), ⟨(by first | rfl | (simp (discharger := omega) only [resVal, if_pos, if_neg]; first | done | rfl) | (simp [resVal, *]; done) | ((try simp only [resVal]); (repeat' split) <;> first | rfl | (exfalso; omega) | (simp_all; done) | (simp_all; omega))), ⟨(by first | assumption | omega | (simp; done) | exact SlE.tail (by assumption) (by omega) (by omega)), ⟨(by first | assumption | omega | (simp; done) | exact SlE.tail (by assumption) (by omega) (by omega)), (by first | rfl | (simp (discharger := omega) only [resVal, if_pos, if_neg]; first | done | rfl) | (simp [resVal, *]; done) | ((try simp only [resVal]); (repeat' split) <;> first | rfl | (exfalso; omega) | (simp_all; done) | (simp_all; omega)))⟩⟩⟩⟩⟩⟩⟩
  · have hi2 : i = ns.length := by omega
    subst hi2
    have hm : mkToks ns terms at1 = xs := by rw [mkToks, hxs, List.take_of_length_le (Nat.le_refl _), List.take_of_length_le (by omega)]
    rw [hm]
    refine G.freezeSl (.head _ _) ?_
    intro E1 hE1 hal hc
    refine G_seq ?_
    refine G_seq ?_
    refine G_region ?_
    refine G_val (V_move rfl rfl) rfl rfl (.none rfl) ?_
    refine G_val (V_move rfl rfl) rfl rfl (.none rfl) ?_
    refine G_val (V_lenS rfl rfl) rfl rfl (.none rfl) ?_
    refine G_val (V_lss rfl rfl rfl) rfl rfl (.none rfl) ?_
    refine G_val (V_move rfl rfl) rfl rfl (.none rfl) ?_
    refine G.bool_f 14 rfl (decide_eq_false (by omega)) ?_
    refine G_stay (.no rfl rfl rfl rfl) rfl rfl ?_
    refine G_stay (.no rfl rfl rfl rfl) rfl rfl ?_
    refine G_val (V_pick_f rfl rfl rfl) rfl rfl (.none rfl) ?_
    refine G_end ?_
    refine X_then ?_
    refine G_cond_f rfl rfl ?_
    refine G_exit ?_
    refine X_then_exit ?_
    refine X_then_exit ?_
    refine X_block_hit ?_
    refine X_then ?_
    refine G_seq ?_
    refine G_region ?_
    refine G_val (V_move rfl rfl) rfl rfl (.none rfl) ?_
    refine G_val (V_assign rfl rfl) rfl rfl (.none rfl) ?_
    refine G_end ?_
    refine X_then ?_
    refine G_ret ?_
    refine G_leaveS (.nil _) (by exact (.cons (.tmp rfl) (.nil))) rfl ?_ ?_
    · exact hE1
    exact ⟨_, ⟨_, ⟨_, ⟨(by first | rfl | (simp (discharger := omega) only [resVal, if_pos, if_neg]; first | done | rfl) | (simp [resVal, *]; done) | ((try simp only [resVal]); (repeat' split) <;> first | rfl | (exfalso; omega) | (simp_all; done) | (simp_all; omega))), ⟨(by first | rfl | (simp (discharger := omega) only [resVal, if_pos, if_neg]; first | done | rfl) | (simp [resVal, *]; done) | ((try simp only [resVal]); (repeat' split) <;> first | rfl | (exfalso; omega) | (simp_all; done) | (simp_all; omega))), ⟨(by first | assumption | omega | (simp; done) | exact SlE.tail (by assumption) (by omega) (by omega)), ⟨(by first | assumption | omega | (simp; done) | exact SlE.tail (by assumption) (by omega) (by omega)), (by first | rfl | (simp (discharger := omega) only [resVal, if_pos, if_neg]; first | done | rfl) | (simp [resVal, *]; done) | ((try simp only [resVal]); (repeat' split) <;> first | rfl | (exfalso; omega) | (simp_all; done) | (simp_all; omega)))⟩⟩⟩⟩⟩⟩⟩
end
end Go.Proofs.Ytlkfbokdbfnicaa
