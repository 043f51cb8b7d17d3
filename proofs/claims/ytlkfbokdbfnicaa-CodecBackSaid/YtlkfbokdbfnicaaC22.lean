import Derived.Test.YtlkfbokdbfnicaaC21
import Derived.Test.YtlkfbokdbfnicaaVback
set_option linter.unusedSimpArgs false
set_option linter.unusedVariables false
namespace Go.Proofs.Ytlkfbokdbfnicaa
open Go.RowKit

theorem rwide_back (s : List UInt8) (a n : Nat) (post : List UInt8) (ha : a ≤ s.length) (hn : n < 18446744073709551616) (hd : s.drop a = vbytes n ++ post) : rwide ⟨s, a, 0, 0⟩ = (⟨s, ((a + (vbytes n).length : Nat) : Int), 0, 0⟩, n) := by
  have h1 : s = s.take a ++ (vbytes n ++ post) := by rw [← hd, List.take_append_drop]
  have h2 : (s.take a).length = a := by rw [List.length_take]; omega
  have h := vread_back (s.take a) post n hn
  rw [← h1, h2] at h
  unfold rwide
  simp only [h, if_pos]
theorem rwide_short (s : List UInt8) (a n j : Nat) (ha : a ≤ s.length) (hn : n < 18446744073709551616) (hj : j < (vbytes n).length) (hd : s.drop a = (vbytes n).take j) : rwide ⟨s, a, 0, 0⟩ = (⟨s, a, 5, s.length⟩, 0) := by
  have h := vreadK_short s a 10 0 n j 0 rfl (by simpa using hn) (by omega) hj (show s.drop (a + 0) = (vdig 10 n).take j from hd)
  have h2 : vread s (a : Int) = (0, 0, 5, s.length) := by
    rw [vread, if_neg (by omega), Int.toNat_natCast, h]
  unfold rwide
  simp only [h2]
  rw [if_neg (by decide)]
  rfl
theorem rbegin_good (s : List UInt8) (a : Nat) (hs : s.length ≤ 20000) (ha : a ≤ s.length) : rbegin ⟨s, a, 0, 0⟩ = ⟨s, a, 0, 0⟩ := if_pos ⟨hs, Int.natCast_nonneg a, Int.ofNat_le.2 ha, .inl ⟨rfl, rfl⟩⟩
theorem aStr_back (s : List UInt8) (a : Nat) (t post : List UInt8) (m : Int) (hs : s.length ≤ 20000) (ha : a ≤ s.length) (hd : s.drop a = vbytes t.length ++ (t ++ post)) (ht : (t.length : Int) ≤ m) :
    aStr ⟨s, a, 0, 0⟩ m = (⟨s, ((a + (vbytes t.length).length + t.length : Nat) : Int), 0, 0⟩, t) := by
  have hl := congrArg List.length hd
  simp only [List.length_drop, List.length_append] at hl
  have h1 := rwide_back s a t.length (t ++ post) ha (by omega) hd
  have h2 : s = s.take a ++ (vbytes t.length ++ (t ++ post)) := by rw [← hd, List.take_append_drop]
  have h3 : (s.take a).length = a := by rw [List.length_take]; omega
  have h4 : (s.take (a + (vbytes t.length).length + t.length)).drop (a + (vbytes t.length).length) = t := by
    rw [List.drop_take, ← List.drop_drop, hd, List.drop_left, show a + (vbytes t.length).length + t.length - (a + (vbytes t.length).length) = t.length by omega, List.take_left]
  unfold aStr rfield
  rw [rbegin_good s a hs ha]
  have h5 : rstr ⟨s, a, 0, 0⟩ m [] = (⟨s, ((a + (vbytes t.length).length + t.length : Nat) : Int), 0, 0⟩, t) := by
    unfold rstr
    rw [if_neg (by omega), h1]
    simp only [ne_eq, not_true_eq_false, if_false]
    rw [if_neg (by omega), if_neg (by omega), rtake]
    simp only
    rw [if_neg (by omega)]
    refine Prod.ext ?_ ?_
    · simp
    · show (s.take _).drop _ = t
      rw [show (((a + (vbytes t.length).length : Nat) : Int) + ((t.length : Nat) : Int)).toNat = a + (vbytes t.length).length + t.length by omega, Int.toNat_natCast]
      exact h4
  rw [h5]
  simp [rback]
theorem aStr_short (s : List UInt8) (a : Nat) (t : List UInt8) (j : Nat) (m : Int) (hs : s.length ≤ 20000) (ha : a ≤ s.length) (hj : j < (vbytes t.length ++ t).length) (hd : s.drop a = (vbytes t.length ++ t).take j) (ht : (t.length : Int) ≤ m) (ht2 : t.length ≤ 20000) :
    ∃ fa : Int, aStr ⟨s, a, 0, 0⟩ m = (⟨s, a, 5, fa⟩, []) ∧ 0 ≤ fa ∧ fa ≤ s.length := by
  have key : ∃ (b fa : Int) (o : List UInt8), rstr ⟨s, a, 0, 0⟩ m [] = (⟨s, b, 5, fa⟩, o) ∧ 0 ≤ fa ∧ fa ≤ s.length := by
    by_cases hj2 : j < (vbytes t.length).length
    · have h1 := rwide_short s a t.length j ha (by omega) hj2 (by rw [hd, List.take_append_of_le_length (by omega)])
      refine ⟨a, s.length, [], ?_, by omega, by omega⟩
      unfold rstr
      rw [if_neg (by omega), h1]
      simp
    · have h0 : s.drop a = vbytes t.length ++ t.take (j - (vbytes t.length).length) := by
        rw [hd, List.take_append]
        rw [List.take_of_length_le (by omega)]
      have hl := congrArg List.length h0
      simp only [List.length_drop, List.length_append, List.length_take] at hl hj
      have h1 := rwide_back s a t.length _ ha (by omega) h0
      refine ⟨((a + (vbytes t.length).length : Nat) : Int), ((a + (vbytes t.length).length : Nat) : Int), [], ?_, by omega, by omega⟩
      unfold rstr
      rw [if_neg (by omega), h1]
      simp only [ne_eq, not_true_eq_false, if_false]
      rw [if_neg (by omega), if_neg (by omega), rtake]
      simp only
      rw [if_pos (by omega)]
  obtain ⟨b, fa, o, h1, h2, h3⟩ := key
  refine ⟨fa, ?_, h2, h3⟩
  unfold aStr rfield
  rw [rbegin_good s a hs ha, h1]
  simp [rback]
theorem aStr_fault (q : Rdr) (m : Int) (hok : q.ok) (he : q.e ≠ 0) : aStr q m = (q, []) := by
  unfold aStr rfield
  rw [show rbegin q = q from if_pos hok, if_neg he]

theorem lens_split (l : List (List UInt8)) (k : Nat) (h : k < l.length) : ∃ rest, (lens l).flatten = (lens (l.take k)).flatten ++ (vbytes l[k].length ++ (l[k] ++ rest)) := by
  refine ⟨(lens (l.drop (k + 1))).flatten, ?_⟩
  have e : lens l = lens (l.take k) ++ (vbytes l[k].length :: l[k] :: lens (l.drop (k + 1))) := by
    have h1 : lens l = lens (l.take k ++ l.drop k) := by rw [List.take_append_drop]
    rw [h1]
    unfold lens
    rw [List.flatMap_append, List.drop_eq_getElem_cons h, List.flatMap_cons]
    rfl
  rw [e, List.flatten_append]
  simp only [List.flatten_cons]

/-! Writers that are right. -/
theorem wstart_good {s : List UInt8} {m e : Int} (h0 : 0 ≤ m) (h1 : m ≤ 20000) (h2 : (s.length : Int) ≤ m) (h3 : 0 ≤ e) (h4 : e ≤ 31) : wstart ⟨s, m, e⟩ = ⟨s, m, e⟩ := if_pos ⟨h0, h1, h2, h3, h4⟩
theorem wput_good {s : List UInt8} {m : Int} (h0 : 0 ≤ m) (h1 : m ≤ 20000) (l : List (List UInt8)) (h2 : (s.length : Int) + l.flatten.length ≤ m) : wput (wstart ⟨s, m, 0⟩) l = ⟨s ++ l.flatten, m, 0⟩ := by
  rw [wstart_good h0 h1 (by omega) (by decide) (by decide), wput]
  simp only [ne_eq, not_true_eq_false, if_false]
  rw [if_neg (by omega)]
theorem wput_bad {s : List UInt8} {m : Int} (h0 : 0 ≤ m) (h1 : m ≤ 20000) (h2 : (s.length : Int) ≤ m) (l : List (List UInt8)) : wput (wstart ⟨s, m, 4⟩) l = ⟨s, m, 4⟩ := by
  rw [wstart_good h0 h1 (by omega) (by decide) (by decide), wput]
  simp
theorem wput_over {s : List UInt8} {m : Int} (h0 : 0 ≤ m) (h1 : m ≤ 20000) (h2 : (s.length : Int) ≤ m) (l : List (List UInt8)) (h3 : m < (s.length : Int) + l.flatten.length) : wput (wstart ⟨s, m, 0⟩) l = ⟨s, m, 4⟩ := by
  rw [wstart_good h0 h1 (by omega) (by decide) (by decide), wput]
  simp only [ne_eq, not_true_eq_false, if_false]
  rw [if_pos (by omega)]
section
variable (E : Env) (L : List Res)
theorem Make_call' (m : Int) (h0 : 0 ≤ m) (h1 : m ≤ 20000) : CallV Try.prog 20 #[.int .i64 m] E L (.agg #[.string (S []), .int .i64 m, .int .i64 0]) := by
  have := Make_call E L m
  rw [wstart_good h0 h1 (by simpa using h0) (by decide) (by decide)] at this; exact this
variable (s : List UInt8) (m : Int) (h0 : 0 ≤ m) (h1 : m ≤ 20000)
include h0 h1
theorem Done_call' (e : Int) (he : e = 0) (h2 : (s.length : Int) ≤ m) : CallV Try.prog 18 #[.agg #[.string (S s), .int .i64 m, .int .i64 e]] E L (.tuple #[.string (S s), .int .i64 0]) := by
  subst he
  have := Done_call E L s (by omega) m 0
  rw [wstart_good h0 h1 h2 (by decide) (by decide)] at this; exact this
theorem Add_call' (e : Int) (he : e = 0) (t : List UInt8) (h2 : (s.length : Int) + t.length ≤ m) : CallV Try.prog 28 #[.agg #[.string (S s), .int .i64 m, .int .i64 e], .string (S t)] E L (.agg #[.string (S (s ++ t)), .int .i64 m, .int .i64 0]) := by
  subst he
  have := Add_call E L s (by omega) m 0 t (by omega)
  rw [wput_good h0 h1 [t] (by simpa using h2)] at this; simpa using this
theorem AddOver_call (e : Int) (he : e = 0) (t : List UInt8) (h2 : (s.length : Int) ≤ m) (h3 : m < (s.length : Int) + t.length) (h4 : t.length ≤ 1000000000) : CallV Try.prog 28 #[.agg #[.string (S s), .int .i64 m, .int .i64 e], .string (S t)] E L (.agg #[.string (S s), .int .i64 m, .int .i64 4]) := by
  subst he
  have := Add_call E L s (by omega) m 0 t (by omega)
  rw [wput_over h0 h1 h2 [t] (by simpa using h3)] at this; exact this
theorem AddBad_call (e : Int) (he : e = 4) (t : List UInt8) (h2 : (s.length : Int) ≤ m) (h4 : t.length ≤ 1000000000) : CallV Try.prog 28 #[.agg #[.string (S s), .int .i64 m, .int .i64 e], .string (S t)] E L (.agg #[.string (S s), .int .i64 m, .int .i64 4]) := by
  subst he
  have := Add_call E L s (by omega) m 4 t (by omega)
  rw [wput_bad h0 h1 h2 [t]] at this; exact this
theorem Put_call' (e : Int) (he : e = 0) (n : Nat) (hn : n < 18446744073709551616) (h2 : (s.length : Int) + 10 ≤ m) : CallV Try.prog 22 #[.agg #[.string (S s), .int .i64 m, .int .i64 e], .int .u64 n] E L (.agg #[.string (S (s ++ vbytes n)), .int .i64 m, .int .i64 0]) := by
  subst he
  have := Put_call E L s (by omega) m 0 n hn
  have hv : (vbytes n).length ≤ 10 := vdig_len 10 n
  rw [wput_good h0 h1 [vbytes n] (by simp; omega)] at this; simpa using this
theorem PutBad_call (e : Int) (he : e = 4) (n : Nat) (hn : n < 18446744073709551616) (h2 : (s.length : Int) ≤ m) : CallV Try.prog 22 #[.agg #[.string (S s), .int .i64 m, .int .i64 e], .int .u64 n] E L (.agg #[.string (S s), .int .i64 m, .int .i64 4]) := by
  subst he
  have := Put_call E L s (by omega) m 4 n hn
  rw [wput_bad h0 h1 h2 [vbytes n]] at this; exact this
theorem PutString_call'' (e : Int) (he : e = 0) (p : Option Addr) (n c : Nat) (l : List (List UInt8)) (hl : SlE E 1 p n (strs l)) (hn : n ≤ 100000000) (hls : ∀ s, s ∈ l → s.length ≤ 1000000000) (h2 : (s.length : Int) + (lens l).flatten.length ≤ m) :
    CallV Try.prog 24 #[.agg #[.string (S s), .int .i64 m, .int .i64 e], .slice p n c] E L (.agg #[.string (S (s ++ (lens l).flatten)), .int .i64 m, .int .i64 0]) := by
  subst he
  have := PutString_call' E L s m 0 p n c l hl (by omega) hn hls
  rw [wput_good h0 h1 (lens l) h2] at this; exact this
theorem PutStringBad_call (e : Int) (he : e = 4) (p : Option Addr) (n c : Nat) (l : List (List UInt8)) (hl : SlE E 1 p n (strs l)) (hn : n ≤ 100000000) (hls : ∀ s, s ∈ l → s.length ≤ 1000000000) (h2 : (s.length : Int) ≤ m) :
    CallV Try.prog 24 #[.agg #[.string (S s), .int .i64 m, .int .i64 e], .slice p n c] E L (.agg #[.string (S s), .int .i64 m, .int .i64 4]) := by
  subst he
  have := PutString_call' E L s m 4 p n c l hl (by omega) hn hls
  rw [wput_bad h0 h1 h2 (lens l)] at this; exact this
theorem PutInts_call'' (e : Int) (he : e = 0) (p : Option Addr) (n c : Nat) (l : List Int) (hl : SlE E 1 p n (i64s l)) (hn : n ≤ 100000000) (hls : ∀ n, n ∈ l → -9223372036854775808 ≤ n ∧ n ≤ 9223372036854775807) (h2 : (s.length : Int) + (zigs l).flatten.length ≤ m) :
    CallV Try.prog 26 #[.agg #[.string (S s), .int .i64 m, .int .i64 e], .slice p n c] E L (.agg #[.string (S (s ++ (zigs l).flatten)), .int .i64 m, .int .i64 0]) := by
  subst he
  have := PutInts_call' E L s m 0 p n c l hl (by omega) hn hls
  rw [wput_good h0 h1 (zigs l) h2] at this; exact this
theorem PutIntsBad_call (e : Int) (he : e = 4) (p : Option Addr) (n c : Nat) (hp : p = none) (hn : n = 0) (hc : c = 0) (h2 : (s.length : Int) ≤ m) :
    CallV Try.prog 26 #[.agg #[.string (S s), .int .i64 m, .int .i64 e], .slice p n c] E L (.agg #[.string (S s), .int .i64 m, .int .i64 4]) := by
  subst he
  subst hp hn hc
  have := PutInts_call' E L s m 4 none 0 0 [] SlE.nil (by omega) (by omega) (by simp)
  rw [wput_bad h0 h1 h2 (zigs [])] at this; exact this
end
theorem String_call'' (E : Env) (L : List Res) (s : List UInt8) (a e f most : Int) (s1 : List UInt8) (a1 e1 f1 : Int) (t : List UInt8) (h : aStr ⟨s, a, e, f⟩ most = (⟨s1, a1, e1, f1⟩, t)) (hs : s.length ≤ 1000000000000) (hm : most ≤ 9223372036854775807) :
    CallV Try.prog 52 #[.agg #[.string (S s), .int .i64 a, .int .i64 e, .int .i64 f], .int .i64 most] E L (.tuple #[.agg #[.string (S s1), .int .i64 a1, .int .i64 e1, .int .i64 f1], .string (S t)]) := by
  have := String_call' E L s hs a e f most hm
  rw [h] at this; exact this
theorem Read_codec_call' (E : Env) (L : List Res) (s : List UInt8) (hs : s.length ≤ 20000) : CallV Try.prog 13 #[.string (S s)] E L (.agg #[.string (S s), .int .i64 0, .int .i64 0, .int .i64 0]) := by
  have := Read_codec_call E L s (by omega)
  rw [show rbegin ⟨s, 0, 0, 0⟩ = ⟨s, 0, 0, 0⟩ from rbegin_good s 0 hs (by omega)] at this; exact this
end Go.Proofs.Ytlkfbokdbfnicaa
