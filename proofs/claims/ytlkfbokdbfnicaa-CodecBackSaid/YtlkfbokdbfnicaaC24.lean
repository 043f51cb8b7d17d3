import Derived.Test.YtlkfbokdbfnicaaC22
set_option linter.unusedSimpArgs false
set_option linter.unusedVariables false
namespace Go.Proofs.Ytlkfbokdbfnicaa
open Go.RowKit

theorem unzig_back {z : Int} (h0 : -9223372036854775808 ≤ z) (h1 : z ≤ 9223372036854775807) : unzig (zig z) = z := by
  unfold unzig zig
  split <;> split <;> omega
theorem aWide_back (s : List UInt8) (a n : Nat) (post : List UInt8) (m : Nat) (hs : s.length ≤ 20000) (ha : a ≤ s.length) (hn : n < 18446744073709551616) (hm : n ≤ m) (hd : s.drop a = vbytes n ++ post) :
    aWide ⟨s, a, 0, 0⟩ m = (⟨s, ((a + (vbytes n).length : Nat) : Int), 0, 0⟩, n) := by
  have h1 := rwide_back s a n post ha hn hd
  unfold aWide rfield
  rw [rbegin_good s a hs ha]
  have h5 : rwd ⟨s, a, 0, 0⟩ m = (⟨s, ((a + (vbytes n).length : Nat) : Int), 0, 0⟩, n) := by
    unfold rwd
    rw [h1, if_neg (by simp only; omega)]
  rw [h5]
  simp [rback]
theorem rintsK_back (s : List UInt8) (post : List UInt8) (l : List Int) : ∀ (a : Nat) (o : List Int), a ≤ s.length → (∀ z, z ∈ l → -9223372036854775808 ≤ z ∧ z ≤ 9223372036854775807) → s.drop a = (l.map fun n => vbytes (zig n)).flatten ++ post →
    rintsK (-9223372036854775808) 9223372036854775807 l.length ⟨s, a, 0, 0⟩ o = (⟨s, ((a + (l.map fun n => vbytes (zig n)).flatten.length : Nat) : Int), 0, 0⟩, o ++ l) := by
  induction l with
  | nil => intro a o _ _ _; simp [rintsK]
  | cons z l ih =>
    intro a o ha hz hd
    obtain ⟨h0, h1⟩ := hz z List.mem_cons_self
    simp only [List.map_cons, List.flatten_cons, List.append_assoc] at hd
    have h2 := rwide_back s a (zig z) _ ha (zig_lt h0 h1) hd
    have hl := congrArg List.length hd
    simp only [List.length_drop, List.length_append] at hl
    have h3 : rone ⟨s, a, 0, 0⟩ (-9223372036854775808) 9223372036854775807 = (⟨s, ((a + (vbytes (zig z)).length : Nat) : Int), 0, 0⟩, z) := by
      unfold rone
      rw [h2, unzig_back h0 h1, if_neg (by simp only; omega)]
    have h4 : s.drop (a + (vbytes (zig z)).length) = (l.map fun n => vbytes (zig n)).flatten ++ post := by
      rw [← List.drop_drop, hd, List.drop_left]
    show (if (rone ⟨s, a, 0, 0⟩ (-9223372036854775808) 9223372036854775807).1.e = 0 then _ else _) = _
    rw [h3, if_pos rfl, ih _ _ (by omega) (fun x hx => hz x (List.mem_cons_of_mem _ hx)) h4]
    simp only [List.map_cons, List.flatten_cons, List.length_append, List.append_assoc, List.singleton_append, Nat.add_assoc]
theorem aInts_back (s : List UInt8) (a : Nat) (l : List Int) (post : List UInt8) (hs : s.length ≤ 20000) (ha : a ≤ s.length) (hl : l.length ≤ 10) (hz : ∀ z, z ∈ l → -9223372036854775808 ≤ z ∧ z ≤ 9223372036854775807) (hd : s.drop a = (zigs l).flatten ++ post) :
    aInts ⟨s, a, 0, 0⟩ 10 (-9223372036854775808) 9223372036854775807 = (⟨s, ((a + (zigs l).flatten.length : Nat) : Int), 0, 0⟩, l) := by
  have hd1 : s.drop a = vbytes l.length ++ ((l.map fun n => vbytes (zig n)).flatten ++ post) := by rw [hd]; simp only [zigs, List.flatten_cons, List.append_assoc]
  have h1 := rwide_back s a l.length _ ha (by omega) hd1
  have hl2 := congrArg List.length hd1
  simp only [List.length_drop, List.length_append] at hl2
  have hd2 : s.drop (a + (vbytes l.length).length) = (l.map fun n => vbytes (zig n)).flatten ++ post := by
    rw [← List.drop_drop, hd1, List.drop_left]
  have h5 : rints ⟨s, a, 0, 0⟩ 10 (-9223372036854775808) 9223372036854775807 = (⟨s, ((a + (zigs l).flatten.length : Nat) : Int), 0, 0⟩, l) := by
    unfold rints
    rw [if_neg (by omega), h1]
    simp only [ne_eq, not_true_eq_false, if_false]
    rw [if_neg (by omega), rintsK_back s post l _ _ (by omega) hz hd2]
    simp only [zigs, List.flatten_cons, List.length_append, List.nil_append, Nat.add_assoc]
  unfold aInts rfield
  rw [rbegin_good s a hs ha, h5]
  simp [rback]
theorem aFix_back (s : List UInt8) (a : Nat) (t post : List UInt8) (n : Int) (hs : s.length ≤ 20000) (ha : a ≤ s.length) (hn : n = t.length) (hd : s.drop a = t ++ post) :
    aFix ⟨s, a, 0, 0⟩ n = (⟨s, ((a + t.length : Nat) : Int), 0, 0⟩, t) := by
  subst hn
  have hl := congrArg List.length hd
  simp only [List.length_drop, List.length_append] at hl
  have h4 : (s.take (a + t.length)).drop a = t := by
    rw [List.drop_take, hd, show a + t.length - a = t.length by omega, List.take_left]
  unfold aFix rfield
  rw [rbegin_good s a hs ha]
  have h5 : rfix ⟨s, a, 0, 0⟩ (t.length : Int) [] = (⟨s, ((a + t.length : Nat) : Int), 0, 0⟩, t) := by
    unfold rfix
    rw [if_neg (by omega), rtake]
    simp only
    rw [if_neg (by omega)]
    refine Prod.ext ?_ ?_
    · simp
    · show (s.take _).drop _ = t
      rw [show ((a : Int) + ((t.length : Nat) : Int)).toNat = a + t.length by omega, Int.toNat_natCast]
      exact h4
  rw [h5]
  simp [rback]
theorem aEnd_back (s : List UInt8) (a : Nat) (hs : s.length ≤ 20000) (ha : a = s.length) : aEnd ⟨s, a, 0, 0⟩ = (0, 0) := by
  unfold aEnd
  rw [rbegin_good s a hs (by omega), if_neg (by simp only; omega)]

theorem Wide_call'' (E : Env) (L : List Res) (s : List UInt8) (a e f : Int) (most : Nat) (s1 : List UInt8) (a1 e1 f1 : Int) (t : Nat) (h : aWide ⟨s, a, e, f⟩ most = (⟨s1, a1, e1, f1⟩, t)) (hs : s.length ≤ 1000000000000) :
    CallV Try.prog 60 #[.agg #[.string (S s), .int .i64 a, .int .i64 e, .int .i64 f], .int .u64 most] E L (.tuple #[.agg #[.string (S s1), .int .i64 a1, .int .i64 e1, .int .i64 f1], .int .u64 t]) := by
  have := Wide_call' E L s hs a e f most
  rw [h] at this; exact this
theorem Fixed_call'' (E : Env) (L : List Res) (s : List UInt8) (a e f n : Int) (s1 : List UInt8) (a1 e1 f1 : Int) (t : List UInt8) (h : aFix ⟨s, a, e, f⟩ n = (⟨s1, a1, e1, f1⟩, t)) (hs : s.length ≤ 1000000000000) :
    CallV Try.prog 54 #[.agg #[.string (S s), .int .i64 a, .int .i64 e, .int .i64 f], .int .i64 n] E L (.tuple #[.agg #[.string (S s1), .int .i64 a1, .int .i64 e1, .int .i64 f1], .string (S t)]) := by
  have := Fixed_call' E L s hs a e f n
  rw [h] at this; exact this
theorem End_call'' (E : Env) (L : List Res) (s : List UInt8) (a e f x y : Int) (h : aEnd ⟨s, a, e, f⟩ = (x, y)) (hs : s.length ≤ 1000000000000) :
    CallV Try.prog 56 #[.agg #[.string (S s), .int .i64 a, .int .i64 e, .int .i64 f]] E L (.agg #[.int .i64 x, .int .i64 y]) := by
  have := End_call' E L s hs a e f
  rw [h] at this; exact this
theorem Ints_call'' (E : Env) (L : List Res) (s : List UInt8) (a e f most least great : Int) (s1 : List UInt8) (a1 e1 f1 : Int) (xs : List Int) (h : aInts ⟨s, a, e, f⟩ most least great = (⟨s1, a1, e1, f1⟩, xs)) (hs : s.length ≤ 1000000000000) (hm : most ≤ 9223372036854775807) :
    CallS Try.prog 53 #[.agg #[.string (S s), .int .i64 a, .int .i64 e, .int .i64 f], .int .i64 most, .int .i64 least, .int .i64 great] E L
      (fun r E' L' => ∃ p c, r = .tuple #[.agg #[.string (S s1), .int .i64 a1, .int .i64 e1, .int .i64 f1], .slice p xs.length c] ∧ SlE E' 1 p xs.length (i64s xs) ∧ L' = L) := by
  have := Ints_call' E L s hs a e f most least great hm
  rw [h] at this; exact this
end Go.Proofs.Ytlkfbokdbfnicaa
