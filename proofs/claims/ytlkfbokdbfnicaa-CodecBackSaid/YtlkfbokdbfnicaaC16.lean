import Derived.Test.YtlkfbokdbfnicaaSep17
import Derived.Test.YtlkfbokdbfnicaaInst
import Derived.Test.YtlkfbokdbfnicaaC15
set_option linter.unusedSimpArgs false
set_option linter.unusedVariables false
set_option maxHeartbeats 2000000
set_option maxRecDepth 20000
namespace Go.Proofs.Ytlkfbokdbfnicaa
open Go.RowKit

theorem rintsK_len (a b : Int) : ∀ (k : Nat) (q : Rdr) (o : List Int), q.e = 0 → q.fa = 0 → 0 ≤ q.at' → q.at' ≤ q.s.length → (o.length : Int) ≤ q.at' → (rintsK a b k q o).2.length ≤ q.s.length + 1 := by
  intro k
  induction k with
  | zero => intro q o _ _ _ h1 h2; show o.length ≤ _; omega
  | succ k ih =>
    intro q o h0 hf ha hl ho
    obtain ⟨h1, h2, _⟩ := rone_props q h0 hf ha hl a b
    unfold rintsK
    split
    · rename_i h
      have h3 := h2 h
      have h4 := congrArg List.length h1
      have := ih (rone q a b).1 (o ++ [(rone q a b).2]) h h3.2.2 (by omega) (by omega) (by simp only [List.length_append, List.length_singleton]; omega)
      omega
    · simp only [List.length_append, List.length_singleton]; omega
theorem rints_len (q : Rdr) (hok : q.ok) (h0 : q.e = 0) (m a b : Int) : (rints q m a b).2.length ≤ 20001 := by
  obtain ⟨h1, h2, h3, h4⟩ := hok
  have hv := rwide_props q h0 (by omega) h2 h3
  have hs := congrArg List.length (rwide_s q)
  unfold rints
  split
  · simp
  · split
    · simp
    · rename_i h5
      have h6 := hv.1 (by omega)
      split
      · simp
      · have := rintsK_len a b (rwide q).2 (rwide q).1 [] (by omega) h6.2.2.1 (by omega) (by omega) (by simp only [List.length_nil]; omega)
        omega

/-! The contracts once more, their results under short names. -/
def aNum (q : Rdr) (l m : Int) : Rdr × Int := rfield (rbegin q) (rnum (rbegin q) l m 0) 0
def aWide (q : Rdr) (m : Nat) : Rdr × Nat := rfield (rbegin q) (rwd (rbegin q) m) 0
def aStr (q : Rdr) (m : Int) : Rdr × List UInt8 := rfield (rbegin q) (rstr (rbegin q) m []) []
def aFix (q : Rdr) (n : Int) : Rdr × List UInt8 := rfield (rbegin q) (rfix (rbegin q) n []) []
def aInts (q : Rdr) (m l g : Int) : Rdr × List Int := rfield (rbegin q) (rints (rbegin q) m l g) []
def aEnd (q : Rdr) : Int × Int := if (rbegin q).e = 0 ∧ (rbegin q).at' < (rbegin q).s.length then (4, (rbegin q).at') else ((rbegin q).e, (rbegin q).fa)
def aFail (q : Rdr) (err a : Int) : Rdr := if (rbegin q).e = 0 then ⟨(rbegin q).s, (rbegin q).at', if err < 1 ∨ 31 < err then 3 else err, min (max a 0) (rbegin q).s.length⟩ else rbegin q
@[simp] theorem aNum_s (q : Rdr) (l m : Int) : (aNum q l m).1.s = (rbegin q).s := rfield_rnum_s _ _ _ _ _
@[simp] theorem aWide_s (q : Rdr) (m : Nat) : (aWide q m).1.s = (rbegin q).s := rfield_rwd_s _ _ _
@[simp] theorem aStr_s (q : Rdr) (m : Int) : (aStr q m).1.s = (rbegin q).s := rfield_rstr_s _ _ _ _
@[simp] theorem aFix_s (q : Rdr) (m : Int) : (aFix q m).1.s = (rbegin q).s := rfield_rfix_s _ _ _ _
@[simp] theorem aInts_s (q : Rdr) (m l g : Int) : (aInts q m l g).1.s = (rbegin q).s := rfield_rints_s _ _ _ _ _
@[simp] theorem aInts_len (q : Rdr) (m a b : Int) : (aInts q m a b).2.length ≤ 9223372036854775806 := by
  unfold aInts rfield
  split
  · rename_i h
    have := rints_len (rbegin q) (rbegin_ok q) h m a b
    simp only
    split
    · omega
    · simp
  · simp

section
variable (E : Env) (L : List Res) (s : List UInt8) (hs : s.length ≤ 1000000000000) (a e f : Int)
include hs
theorem Number_call' (least most : Int) (hm : most ≤ 9223372036854775807) : CallV Try.prog 51 #[.agg #[.string (S s), .int .i64 a, .int .i64 e, .int .i64 f], .int .i64 least, .int .i64 most] E L (.tuple #[(aNum ⟨s, a, e, f⟩ least most).1.v, .int .i64 (aNum ⟨s, a, e, f⟩ least most).2]) := Number_call E L s hs a e f least most hm
theorem Number2_call' (least most : Int) (hm : most ≤ 9223372036854775807) : CallV Try.prog 59 #[.agg #[.string (S s), .int .i64 a, .int .i64 e, .int .i64 f], .int .i64 least, .int .i64 most] E L (.tuple #[(aNum ⟨s, a, e, f⟩ least most).1.v, .int .i64 (aNum ⟨s, a, e, f⟩ least most).2]) := Number2_call E L s hs a e f least most hm
theorem Wide_call' (most : Nat) : CallV Try.prog 60 #[.agg #[.string (S s), .int .i64 a, .int .i64 e, .int .i64 f], .int .u64 most] E L (.tuple #[(aWide ⟨s, a, e, f⟩ most).1.v, .int .u64 (aWide ⟨s, a, e, f⟩ most).2]) := Wide_call E L s hs a e f most
theorem Wide2_call' (most : Nat) : CallV Try.prog 61 #[.agg #[.string (S s), .int .i64 a, .int .i64 e, .int .i64 f], .int .u64 most] E L (.tuple #[(aWide ⟨s, a, e, f⟩ most).1.v, .int .u64 (aWide ⟨s, a, e, f⟩ most).2]) := Wide2_call E L s hs a e f most
theorem String_call' (most : Int) (hm : most ≤ 9223372036854775807) : CallV Try.prog 52 #[.agg #[.string (S s), .int .i64 a, .int .i64 e, .int .i64 f], .int .i64 most] E L (.tuple #[(aStr ⟨s, a, e, f⟩ most).1.v, .string (S (aStr ⟨s, a, e, f⟩ most).2)]) := String_call E L s hs a e f most hm
theorem String2_call' (most : Int) (hm : most ≤ 9223372036854775807) : CallV Try.prog 62 #[.agg #[.string (S s), .int .i64 a, .int .i64 e, .int .i64 f], .int .i64 most] E L (.tuple #[(aStr ⟨s, a, e, f⟩ most).1.v, .string (S (aStr ⟨s, a, e, f⟩ most).2)]) := String2_call E L s hs a e f most hm
theorem Fixed_call' (n : Int) : CallV Try.prog 54 #[.agg #[.string (S s), .int .i64 a, .int .i64 e, .int .i64 f], .int .i64 n] E L (.tuple #[(aFix ⟨s, a, e, f⟩ n).1.v, .string (S (aFix ⟨s, a, e, f⟩ n).2)]) := Fixed_call E L s hs a e f n
theorem Fixed2_call' (n : Int) : CallV Try.prog 63 #[.agg #[.string (S s), .int .i64 a, .int .i64 e, .int .i64 f], .int .i64 n] E L (.tuple #[(aFix ⟨s, a, e, f⟩ n).1.v, .string (S (aFix ⟨s, a, e, f⟩ n).2)]) := Fixed2_call E L s hs a e f n
theorem Ints_call' (most least great : Int) (hm : most ≤ 9223372036854775807) : CallS Try.prog 53 #[.agg #[.string (S s), .int .i64 a, .int .i64 e, .int .i64 f], .int .i64 most, .int .i64 least, .int .i64 great] E L (IntsPost L (aInts ⟨s, a, e, f⟩ most least great)) := Ints_call E L s hs a e f most least great hm
theorem Ints2_call' (most least great : Int) (hm : most ≤ 9223372036854775807) : CallS Try.prog 64 #[.agg #[.string (S s), .int .i64 a, .int .i64 e, .int .i64 f], .int .i64 most, .int .i64 least, .int .i64 great] E L (IntsPost L (aInts ⟨s, a, e, f⟩ most least great)) := Ints2_call E L s hs a e f most least great hm
theorem End_call'  : CallV Try.prog 56 #[.agg #[.string (S s), .int .i64 a, .int .i64 e, .int .i64 f]] E L (.agg #[.int .i64 (aEnd ⟨s, a, e, f⟩).1, .int .i64 (aEnd ⟨s, a, e, f⟩).2]) := by
  have := End_call E L s hs a e f
  unfold aEnd
  split at this <;> rename_i h
  · rw [if_pos h]; exact this
  · rw [if_neg h]; exact this
theorem End2_call'  : CallV Try.prog 67 #[.agg #[.string (S s), .int .i64 a, .int .i64 e, .int .i64 f]] E L (.agg #[.int .i64 (aEnd ⟨s, a, e, f⟩).1, .int .i64 (aEnd ⟨s, a, e, f⟩).2]) := by
  have := End2_call E L s hs a e f
  unfold aEnd
  split at this <;> rename_i h
  · rw [if_pos h]; exact this
  · rw [if_neg h]; exact this
theorem Fail_call' (err at1 : Int) : CallV Try.prog 65 #[.agg #[.string (S s), .int .i64 a, .int .i64 e, .int .i64 f], .int .i64 err, .int .i64 at1] E L (aFail ⟨s, a, e, f⟩ err at1).v := by
  have := Fail_call E L s hs a e f err at1
  unfold aFail
  split at this <;> rename_i h
  · rw [if_pos h]; exact this
  · rw [if_neg h]; exact this
theorem Fail2_call' (err at1 : Int) : CallV Try.prog 66 #[.agg #[.string (S s), .int .i64 a, .int .i64 e, .int .i64 f], .int .i64 err, .int .i64 at1] E L (aFail ⟨s, a, e, f⟩ err at1).v := by
  have := Fail2_call E L s hs a e f err at1
  unfold aFail
  split at this <;> rename_i h
  · rw [if_pos h]; exact this
  · rw [if_neg h]; exact this
end

end Go.Proofs.Ytlkfbokdbfnicaa
