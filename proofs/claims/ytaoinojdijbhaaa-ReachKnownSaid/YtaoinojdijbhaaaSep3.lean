/-
  The layer's rules, operation by operation: numbers, bools, strings, slots.
-/
import Derived.Test.YtaoinojdijbhaaaSep2
namespace Go.Proofs.Ytaoinojdijbhaaa
open Go.RowKit

section rules
variable {P : Program} {ro : Option Nat} {n : Nat} {ds : List Deferred} {fs : List (Nat × Value)} {E : Env} {L : List Res} {ops : Array Oper} {Q : Exit → Act → World → Prop} {rest : List Oper} {o : Oper}

theorem Goes.none (h : o.guard = Option.none) : Goes ops fs o := by unfold Goes; rw [h]; trivial
theorem Goes.yes {j dj : Nat} {want : Bool} {oj : Oper} (h : o.guard = some (j, want)) (h1 : ops[j]? = some oj) (h2 : oj.dst = some dj) (h3 : look fs dj = some (.bool want)) : Goes ops fs o := by
  unfold Goes; rw [h]; exact ⟨oj, dj, h1, h2, h3⟩
theorem Stays.no {j dj : Nat} {want : Bool} {oj : Oper} (h : o.guard = some (j, want)) (h1 : ops[j]? = some oj) (h2 : oj.dst = some dj) (h3 : look fs dj = some (.bool (!want))) : Stays ops fs o := by
  unfold Stays; rw [h]; exact ⟨oj, dj, h1, h2, .inl h3⟩
theorem Stays.un {j dj : Nat} {want : Bool} {oj : Oper} (h : o.guard = some (j, want)) (h1 : ops[j]? = some oj) (h2 : oj.dst = some dj) (h3 : look fs dj = some undef) : Stays ops fs o := by
  unfold Stays; rw [h]; exact ⟨oj, dj, h1, h2, .inr h3⟩

/-- A string of these bytes. -/
def S (l : List UInt8) : ByteArray := ⟨⟨l⟩⟩
theorem S_size (l : List UInt8) : (S l).size = l.length := rfl
theorem S_eta (s : ByteArray) : s = S s.data.toList := rfl
theorem S_toList (l : List UInt8) : (S l).toList = l := by
  rw [ByteArray.toList_eq]; rfl

theorem S_append (a b : List UInt8) : S a ++ S b = S (a ++ b) := by
  apply ByteArray.ext
  rw [ByteArray.data_append]
  simp [S]
theorem S_get? (l : List UInt8) (i : Nat) : (S l)[i]? = l[i]? := by
  by_cases h : i < l.length
  · rw [getElem?_pos (S l) i h, List.getElem?_eq_getElem h]; rfl
  · rw [getElem?_neg (S l) i h, List.getElem?_eq_none (by omega)]

theorem V_move {x : Operand} {v : Value} (ho : o.op = .move x) (hx : ev fs x = some v) : Val P o fs E L v :=
  ⟨(by rw [ho]; intro c h; cases h), fun n ds a w ha _ => by simp [execOp, ho, ha.eval hx]⟩
theorem V_assign {x : Operand} {v : Value} (ho : o.op = .assign x) (hx : ev fs x = some v) : Val P o fs E L v :=
  ⟨(by rw [ho]; intro c h; cases h), fun n ds a w ha _ => by simp [execOp, ho, ha.eval hx]⟩
theorem V_pick_t {c x y : Operand} {v : Value} (ho : o.op = .pick c x y) (hc : ev fs c = some (.bool true)) (hx : ev fs x = some v) : Val P o fs E L v :=
  ⟨(by rw [ho]; intro c h; cases h), fun n ds a w ha _ => by simp [execOp, ho, ha.eval hx, ha.eval hc, asBool]⟩
theorem V_pick_f {c x y : Operand} {v : Value} (ho : o.op = .pick c x y) (hc : ev fs c = some (.bool false)) (hx : ev fs y = some v) : Val P o fs E L v :=
  ⟨(by rw [ho]; intro c h; cases h), fun n ds a w ha _ => by simp [execOp, ho, ha.eval hx, ha.eval hc, asBool]⟩

theorem V_bin {op : BinOp} {t u : TypeId} {x y : Operand} {a b v : Value} (ho : o.op = .binOp op t x y u) (hx : ev fs x = some a) (hy : ev fs y = some b)
    (h : ∀ w, (eqGuard op t x y a b).run P w = .ok () w ∧ (binOp op t a b).run P w = .ok v w) : Val P o fs E L v :=
  ⟨(by rw [ho]; intro c h; cases h), fun n ds a w ha _ => by simp [execOp, ho, ha.eval hx, ha.eval hy, Result.andThen, (h w).1, (h w).2]⟩

/-! The bits of numbers, as Go reckons them. -/
def andI (k : IntKind) (a b : Int) : Int := k.wrap (BitVec.ofInt k.bits a &&& BitVec.ofInt k.bits b).toNat
def orI (k : IntKind) (a b : Int) : Int := k.wrap (BitVec.ofInt k.bits a ||| BitVec.ofInt k.bits b).toNat
def xorI (k : IntKind) (a b : Int) : Int := k.wrap (BitVec.ofInt k.bits a ^^^ BitVec.ofInt k.bits b).toNat
def andNotI (k : IntKind) (a b : Int) : Int := k.wrap (BitVec.ofInt k.bits a &&& ~~~BitVec.ofInt k.bits b).toNat
def shlI (k : IntKind) (a b : Int) : Int := k.wrap (a * 2 ^ min b.toNat k.bits)
def shrI (k : IntKind) (a b : Int) : Int := a.fdiv (2 ^ min b.toNat k.bits)

section ints
variable {t u : TypeId} {x y : Operand} {k k' : IntKind} {a b : Int}
theorem V_add (ho : o.op = .binOp .add t x y u) (hx : ev fs x = some (.int k a)) (hy : ev fs y = some (.int k b)) : Val P o fs E L (.int k (k.wrap (a + b))) :=
  V_bin ho hx hy fun w => ⟨by simp [eqGuard], by simp [binOp, Op.intArith]⟩
theorem V_sub (ho : o.op = .binOp .sub t x y u) (hx : ev fs x = some (.int k a)) (hy : ev fs y = some (.int k b)) : Val P o fs E L (.int k (k.wrap (a - b))) :=
  V_bin ho hx hy fun w => ⟨by simp [eqGuard], by simp [binOp, Op.intArith]⟩
theorem V_mul (ho : o.op = .binOp .mul t x y u) (hx : ev fs x = some (.int k a)) (hy : ev fs y = some (.int k b)) : Val P o fs E L (.int k (k.wrap (a * b))) :=
  V_bin ho hx hy fun w => ⟨by simp [eqGuard], by simp [binOp, Op.intArith]⟩
theorem V_quo (ho : o.op = .binOp .quo t x y u) (hx : ev fs x = some (.int k a)) (hy : ev fs y = some (.int k b)) (hb : b ≠ 0) : Val P o fs E L (.int k (k.wrap (a.tdiv b))) :=
  V_bin ho hx hy fun w => ⟨by simp [eqGuard], by simp [binOp, Op.intDiv, hb]⟩
theorem V_rem (ho : o.op = .binOp .rem t x y u) (hx : ev fs x = some (.int k a)) (hy : ev fs y = some (.int k b)) (hb : b ≠ 0) : Val P o fs E L (.int k (a.tmod b)) :=
  V_bin ho hx hy fun w => ⟨by simp [eqGuard], by simp [binOp, Op.intDiv, hb]⟩
theorem V_and (ho : o.op = .binOp .and t x y u) (hx : ev fs x = some (.int k a)) (hy : ev fs y = some (.int k b)) : Val P o fs E L (.int k (andI k a b)) :=
  V_bin ho hx hy fun w => ⟨by simp [eqGuard], by simp only [binOp, ne_eq, not_true_eq_false, if_false, Op.intBits]; rfl⟩
theorem V_or (ho : o.op = .binOp .or t x y u) (hx : ev fs x = some (.int k a)) (hy : ev fs y = some (.int k b)) : Val P o fs E L (.int k (orI k a b)) :=
  V_bin ho hx hy fun w => ⟨by simp [eqGuard], by simp only [binOp, ne_eq, not_true_eq_false, if_false, Op.intBits]; rfl⟩
theorem V_xor (ho : o.op = .binOp .xor t x y u) (hx : ev fs x = some (.int k a)) (hy : ev fs y = some (.int k b)) : Val P o fs E L (.int k (xorI k a b)) :=
  V_bin ho hx hy fun w => ⟨by simp [eqGuard], by simp only [binOp, ne_eq, not_true_eq_false, if_false, Op.intBits]; rfl⟩
theorem V_andNot (ho : o.op = .binOp .andNot t x y u) (hx : ev fs x = some (.int k a)) (hy : ev fs y = some (.int k b)) : Val P o fs E L (.int k (andNotI k a b)) :=
  V_bin ho hx hy fun w => ⟨by simp [eqGuard], by simp only [binOp, ne_eq, not_true_eq_false, if_false, Op.intBits]; rfl⟩
theorem V_shl (ho : o.op = .binOp .shl t x y u) (hx : ev fs x = some (.int k a)) (hy : ev fs y = some (.int k' b)) (hb : 0 ≤ b) : Val P o fs E L (.int k (shlI k a b)) :=
  V_bin ho hx hy fun w => ⟨by simp [eqGuard], by simp [binOp, Op.shift, Int.not_lt.2 hb]; rfl⟩
theorem V_shr (ho : o.op = .binOp .shr t x y u) (hx : ev fs x = some (.int k a)) (hy : ev fs y = some (.int k' b)) (hb : 0 ≤ b) : Val P o fs E L (.int k (shrI k a b)) :=
  V_bin ho hx hy fun w => ⟨by simp [eqGuard], by simp [binOp, Op.shift, Int.not_lt.2 hb]; rfl⟩
theorem V_eql (ho : o.op = .binOp .eql t x y u) (hx : ev fs x = some (.int k a)) (hy : ev fs y = some (.int k b)) : Val P o fs E L (.bool (decide (a = b))) :=
  V_bin ho hx hy fun w => ⟨by simp [eqGuard], by simp [binOp, Op.intCmp]; rfl⟩
theorem V_neq (ho : o.op = .binOp .neq t x y u) (hx : ev fs x = some (.int k a)) (hy : ev fs y = some (.int k b)) : Val P o fs E L (.bool (decide (a ≠ b))) :=
  V_bin ho hx hy fun w => ⟨by simp [eqGuard], by simp [binOp, Op.intCmp, bne]; rfl⟩
theorem V_lss (ho : o.op = .binOp .lss t x y u) (hx : ev fs x = some (.int k a)) (hy : ev fs y = some (.int k b)) : Val P o fs E L (.bool (decide (a < b))) :=
  V_bin ho hx hy fun w => ⟨by simp [eqGuard], by simp [binOp, Op.intCmp]⟩
theorem V_leq (ho : o.op = .binOp .leq t x y u) (hx : ev fs x = some (.int k a)) (hy : ev fs y = some (.int k b)) : Val P o fs E L (.bool (decide (a ≤ b))) :=
  V_bin ho hx hy fun w => ⟨by simp [eqGuard], by simp [binOp, Op.intCmp]⟩
theorem V_gtr (ho : o.op = .binOp .gtr t x y u) (hx : ev fs x = some (.int k a)) (hy : ev fs y = some (.int k b)) : Val P o fs E L (.bool (decide (b < a))) :=
  V_bin ho hx hy fun w => ⟨by simp [eqGuard], by simp [binOp, Op.intCmp]⟩
theorem V_geq (ho : o.op = .binOp .geq t x y u) (hx : ev fs x = some (.int k a)) (hy : ev fs y = some (.int k b)) : Val P o fs E L (.bool (decide (b ≤ a))) :=
  V_bin ho hx hy fun w => ⟨by simp [eqGuard], by simp [binOp, Op.intCmp]⟩
theorem V_neg (ho : o.op = .unOp .neg t x) (hx : ev fs x = some (.int k a)) : Val P o fs E L (.int k (k.wrap (0 - a))) :=
  ⟨(by rw [ho]; intro c h; cases h), fun n ds a w ha _ => by simp [execOp, ho, ha.eval hx, Op.unary, Op.intArith]⟩
theorem V_conv {d : TypeDesc} {sz sz' : Nat} {ag ag' : Bool} [hs : Ty P t d sz ag] [hd : Ty P u (.int k') sz' ag'] (ho : o.op = .convert t u x) (hx : ev fs x = some (.int k a)) : Val P o fs E L (.int k' (k'.wrap a)) :=
  ⟨(by rw [ho]; intro c h; cases h), fun n ds a w ha _ => by simp [execOp, ho, ha.eval hx, Result.andThen, convert, hs.run, hd.run, Conv.intToInt]⟩
end ints

theorem V_not {t : TypeId} {x : Operand} {b : Bool} (ho : o.op = .unOp .not t x) (hx : ev fs x = some (.bool b)) : Val P o fs E L (.bool (!b)) :=
  ⟨(by rw [ho]; intro c h; cases h), fun n ds a w ha _ => by simp [execOp, ho, ha.eval hx, Op.unary]⟩

section bools
variable {t u : TypeId} {x y : Operand} {a b : Bool} {sz : Nat} {ag : Bool}
theorem V_beql [ht : Ty P t .bool sz ag] (ho : o.op = .binOp .eql t x y u) (hx : ev fs x = some (.bool a)) (hy : ev fs y = some (.bool b)) : Val P o fs E L (.bool (decide (a = b))) :=
  V_bin ho hx hy fun w => ⟨by simp [eqGuard], by rw [run_eql_bool w t a b ht.und]; cases a <;> cases b <;> rfl⟩
theorem V_bneq [ht : Ty P t .bool sz ag] (ho : o.op = .binOp .neq t x y u) (hx : ev fs x = some (.bool a)) (hy : ev fs y = some (.bool b)) : Val P o fs E L (.bool (decide (a ≠ b))) :=
  V_bin ho hx hy fun w => ⟨by simp [eqGuard], by rw [run_neq_bool w t a b ht.und]; cases a <;> cases b <;> rfl⟩
end bools

section strings
variable {t u : TypeId} {x y : Operand} {a b : List UInt8} {sz : Nat} {ag : Bool}
theorem V_seql (ho : o.op = .binOp .eql t x y u) (hx : ev fs x = some (.string (S a))) (hy : ev fs y = some (.string (S b))) : Val P o fs E L (.bool (decide (a = b))) :=
  V_bin ho hx hy fun w => ⟨by simp [eqGuard], by simp only [binOp, Op.stringOp, S_toList, Sem.run_pure]; rw [show (a == b) = decide (a = b) by rw [Bool.eq_iff_iff]; simp]⟩
theorem V_sneq (ho : o.op = .binOp .neq t x y u) (hx : ev fs x = some (.string (S a))) (hy : ev fs y = some (.string (S b))) : Val P o fs E L (.bool (decide (a ≠ b))) :=
  V_bin ho hx hy fun w => ⟨by simp [eqGuard], by simp only [binOp, Op.stringOp, S_toList, Sem.run_pure]; rw [show (a == b) = decide (a = b) by rw [Bool.eq_iff_iff]; simp]; simp⟩
theorem V_cat (ho : o.op = .binOp .add t x y u) (hx : ev fs x = some (.string (S a))) (hy : ev fs y = some (.string (S b))) (hl : a.length + b.length ≤ 9223372036854775807) : Val P o fs E L (.string (S (a ++ b))) :=
  V_bin ho hx hy fun w => ⟨by simp [eqGuard], by
    have : ¬ ((((S a).size + (S b).size : Nat) : Int) > IntKind.i64.max) := by
      rw [S_size, S_size]
      have : IntKind.i64.max = 9223372036854775807 := by decide
      omega
    have e : S a ++ S b = S (a ++ b) := by rw [S_append]
    simp only [binOp, Op.stringOp]
    rw [if_neg this, e]; rfl⟩
theorem V_len [ht : Ty P t .string sz ag] (ho : o.op = .call { callee := .builtin .len, args := #[x], argTypes := #[t] }) (hx : ev fs x = some (.string (S a))) : Val P o fs E L (.int .i64 a.length) :=
  ⟨(by rw [ho]; intro c h; cases h), fun n ds a' w ha _ => by simp [execOp, ho, ha.eval hx, resolve, invoke, builtin, Builtin.len_, ht.run, goInt, S_size]⟩
theorem V_sidx [ht : Ty P t .string sz ag] {k : IntKind} {i : Int} {c : UInt8} (ho : o.op = .index t x y) (hx : ev fs x = some (.string (S a))) (hy : ev fs y = some (.int k i)) (h0 : 0 ≤ i) (hc : a[i.toNat]? = some c) : Val P o fs E L (.int .u8 c.toNat) :=
  ⟨(by rw [ho]; intro c h; cases h), fun n ds a' w ha _ => by
    have : (S a)[i.toNat]? = some c := by rw [S_get?]; exact hc
    simp [execOp, ho, ha.eval hx, ha.eval hy, Result.andThen, Instr.index, asIntOf, ht.run, h0, this]⟩
end strings

/-! ### Bundles -/
theorem V_extract {x : Operand} {i : Nat} {vs : Array Value} {v : Value} (ho : o.op = .extract x i) (hx : ev fs x = some (.tuple vs)) (hv : vs.toList[i]? = some v) : Val P o fs E L v :=
  ⟨(by rw [ho]; intro c h; cases h), fun n ds a w ha _ => by
    have hv' : vs[i]? = some v := by simpa using hv
    simp [execOp, ho, ha.eval hx, Instr.extract, hv']⟩
theorem V_makeFunc {f : Fn} {first captured : List Operand} {vf vc : List Value} (ho : o.op = .makeFunc f first.toArray captured.toArray) (h1 : first.mapM (ev fs) = some vf) (h2 : captured.mapM (ev fs) = some vc) :
    Val P o fs E L (.func f vf.toArray vc.toArray) :=
  ⟨(by rw [ho]; intro c h; cases h), fun n ds a w ha _ => by simp [execOp, ho, Instr.makeFunc, evs_args ha h1, evs_args ha h2]⟩

end rules

/-! ### Numbers that stay within their kind -/
section
variable {P : Program} {fs : List (Nat × Value)} {E : Env} {L : List Res} {o : Oper} {t u : TypeId} {x y : Operand} {a b : Int}
theorem wrap_in {k : IntKind} {a : Int} (h0 : k.min ≤ a) (h1 : a ≤ k.max) : k.wrap a = a := by
  cases k <;> simp [IntKind.min, IntKind.max, IntKind.signed, IntKind.bits] at h0 h1 <;> simp [IntKind.wrap, IntKind.signed, IntKind.bits] <;> (try split) <;> omega
theorem wrap_i64 {a : Int} (h0 : -9223372036854775808 ≤ a) (h1 : a ≤ 9223372036854775807) : IntKind.i64.wrap a = a := by
  refine wrap_in ?_ ?_ <;> simp only [IntKind.min, IntKind.max, IntKind.signed, IntKind.bits] <;> simp <;> omega
theorem wrap_u64 {a : Int} (h0 : 0 ≤ a) (h1 : a ≤ 18446744073709551615) : IntKind.u64.wrap a = a := by
  refine wrap_in ?_ ?_ <;> simp only [IntKind.min, IntKind.max, IntKind.signed, IntKind.bits] <;> simp <;> omega
theorem wrap_u8 {a : Int} (h0 : 0 ≤ a) (h1 : a ≤ 255) : IntKind.u8.wrap a = a := by
  refine wrap_in ?_ ?_ <;> simp only [IntKind.min, IntKind.max, IntKind.signed, IntKind.bits] <;> simp <;> omega
theorem V_add_i64 (ho : o.op = .binOp .add t x y u) (hx : ev fs x = some (.int .i64 a)) (hy : ev fs y = some (.int .i64 b)) (h0 : -9223372036854775808 ≤ a + b) (h1 : a + b ≤ 9223372036854775807) : Val P o fs E L (.int .i64 (a + b)) := by
  have := V_add (P := P) (E := E) (L := L) ho hx hy
  rwa [wrap_i64 h0 h1] at this
theorem V_sub_i64 (ho : o.op = .binOp .sub t x y u) (hx : ev fs x = some (.int .i64 a)) (hy : ev fs y = some (.int .i64 b)) (h0 : -9223372036854775808 ≤ a - b) (h1 : a - b ≤ 9223372036854775807) : Val P o fs E L (.int .i64 (a - b)) := by
  have := V_sub (P := P) (E := E) (L := L) ho hx hy
  rwa [wrap_i64 h0 h1] at this
theorem V_mul_i64 (ho : o.op = .binOp .mul t x y u) (hx : ev fs x = some (.int .i64 a)) (hy : ev fs y = some (.int .i64 b)) (h0 : -9223372036854775808 ≤ a * b) (h1 : a * b ≤ 9223372036854775807) : Val P o fs E L (.int .i64 (a * b)) := by
  have := V_mul (P := P) (E := E) (L := L) ho hx hy
  rwa [wrap_i64 h0 h1] at this
theorem V_conv_i64 {k' : IntKind} {d : TypeDesc} {sz sz' : Nat} {ag ag' : Bool} [Ty P t d sz ag] [Ty P u (.int .i64) sz' ag'] (ho : o.op = .convert t u x) (hx : ev fs x = some (.int k' a)) (h0 : -9223372036854775808 ≤ a) (h1 : a ≤ 9223372036854775807) : Val P o fs E L (.int .i64 a) := by
  have := V_conv (P := P) (E := E) (L := L) (k' := .i64) ho hx
  rwa [wrap_i64 h0 h1] at this
theorem V_add_u64 (ho : o.op = .binOp .add t x y u) (hx : ev fs x = some (.int .u64 a)) (hy : ev fs y = some (.int .u64 b)) (h0 : 0 ≤ a + b) (h1 : a + b ≤ 18446744073709551615) : Val P o fs E L (.int .u64 (a + b)) := by
  have := V_add (P := P) (E := E) (L := L) ho hx hy
  rwa [wrap_u64 h0 h1] at this
theorem V_sub_u64 (ho : o.op = .binOp .sub t x y u) (hx : ev fs x = some (.int .u64 a)) (hy : ev fs y = some (.int .u64 b)) (h0 : 0 ≤ a - b) (h1 : a - b ≤ 18446744073709551615) : Val P o fs E L (.int .u64 (a - b)) := by
  have := V_sub (P := P) (E := E) (L := L) ho hx hy
  rwa [wrap_u64 h0 h1] at this
theorem V_mul_u64 (ho : o.op = .binOp .mul t x y u) (hx : ev fs x = some (.int .u64 a)) (hy : ev fs y = some (.int .u64 b)) (h0 : 0 ≤ a * b) (h1 : a * b ≤ 18446744073709551615) : Val P o fs E L (.int .u64 (a * b)) := by
  have := V_mul (P := P) (E := E) (L := L) ho hx hy
  rwa [wrap_u64 h0 h1] at this
theorem V_conv_u64 {k' : IntKind} {d : TypeDesc} {sz sz' : Nat} {ag ag' : Bool} [Ty P t d sz ag] [Ty P u (.int .u64) sz' ag'] (ho : o.op = .convert t u x) (hx : ev fs x = some (.int k' a)) (h0 : 0 ≤ a) (h1 : a ≤ 18446744073709551615) : Val P o fs E L (.int .u64 a) := by
  have := V_conv (P := P) (E := E) (L := L) (k' := .u64) ho hx
  rwa [wrap_u64 h0 h1] at this
theorem V_add_u8 (ho : o.op = .binOp .add t x y u) (hx : ev fs x = some (.int .u8 a)) (hy : ev fs y = some (.int .u8 b)) (h0 : 0 ≤ a + b) (h1 : a + b ≤ 255) : Val P o fs E L (.int .u8 (a + b)) := by
  have := V_add (P := P) (E := E) (L := L) ho hx hy
  rwa [wrap_u8 h0 h1] at this
theorem V_sub_u8 (ho : o.op = .binOp .sub t x y u) (hx : ev fs x = some (.int .u8 a)) (hy : ev fs y = some (.int .u8 b)) (h0 : 0 ≤ a - b) (h1 : a - b ≤ 255) : Val P o fs E L (.int .u8 (a - b)) := by
  have := V_sub (P := P) (E := E) (L := L) ho hx hy
  rwa [wrap_u8 h0 h1] at this
theorem V_mul_u8 (ho : o.op = .binOp .mul t x y u) (hx : ev fs x = some (.int .u8 a)) (hy : ev fs y = some (.int .u8 b)) (h0 : 0 ≤ a * b) (h1 : a * b ≤ 255) : Val P o fs E L (.int .u8 (a * b)) := by
  have := V_mul (P := P) (E := E) (L := L) ho hx hy
  rwa [wrap_u8 h0 h1] at this
theorem V_conv_u8 {k' : IntKind} {d : TypeDesc} {sz sz' : Nat} {ag ag' : Bool} [Ty P t d sz ag] [Ty P u (.int .u8) sz' ag'] (ho : o.op = .convert t u x) (hx : ev fs x = some (.int k' a)) (h0 : 0 ≤ a) (h1 : a ≤ 255) : Val P o fs E L (.int .u8 a) := by
  have := V_conv (P := P) (E := E) (L := L) (k' := .u8) ho hx
  rwa [wrap_u8 h0 h1] at this
theorem max_lt (k : IntKind) : k.max < 2 ^ k.bits := by cases k <;> decide
theorem min_le0 (k : IntKind) : k.min ≤ 0 := by cases k <;> decide
theorem nat_lt_bits {k : IntKind} {n : Nat} (h : (n : Int) ≤ k.max) : n < 2 ^ k.bits := by
  have := max_lt k
  have h2 : ((2 ^ k.bits : Nat) : Int) = 2 ^ k.bits := by push_cast; rfl
  omega
theorem wrap_nat {k : IntKind} {n : Nat} (h : (n : Int) ≤ k.max) : k.wrap (n : Int) = n := wrap_in (by have := min_le0 k; omega) h
theorem ofInt_nat {k : IntKind} {n : Nat} (h : (n : Int) ≤ k.max) : (BitVec.ofInt k.bits (n : Int)).toNat = n := by
  rw [BitVec.ofInt_natCast, BitVec.toNat_ofNat, Nat.mod_eq_of_lt (nat_lt_bits h)]
theorem andI_nat {k : IntKind} {n m : Nat} (hn : (n : Int) ≤ k.max) (hm : (m : Int) ≤ k.max) : andI k n m = ((n &&& m : Nat) : Int) := by
  unfold andI
  rw [BitVec.toNat_and, ofInt_nat hn, ofInt_nat hm]
  exact wrap_nat (by have := Nat.and_le_left (n := n) (m := m); omega)
theorem orI_nat {k : IntKind} {n m : Nat} (hn : (n : Int) ≤ k.max) (hm : (m : Int) ≤ k.max) (h : ((n ||| m : Nat) : Int) ≤ k.max) : orI k n m = ((n ||| m : Nat) : Int) := by
  unfold orI
  rw [BitVec.toNat_or, ofInt_nat hn, ofInt_nat hm]
  exact wrap_nat h
theorem shrI_nat {k : IntKind} {n s : Nat} (hs : s ≤ k.bits) : shrI k n s = ((n / 2 ^ s : Nat) : Int) := by
  unfold shrI
  rw [Int.toNat_natCast, Nat.min_eq_left hs, Int.fdiv_eq_ediv_of_nonneg _ (by exact Int.le_of_lt (Int.pow_pos (by decide)))]
  push_cast; rfl
theorem shlI_nat {k : IntKind} {n s : Nat} (hs : s ≤ k.bits) (h : ((n * 2 ^ s : Nat) : Int) ≤ k.max) : shlI k n s = ((n * 2 ^ s : Nat) : Int) := by
  unfold shlI
  rw [Int.toNat_natCast, Nat.min_eq_left hs]
  have := wrap_nat h
  push_cast at this
  rw [this]; push_cast; rfl
/-- Division and remainder of numbers that are not below 0. -/
theorem V_quo_n {k : IntKind} (ho : o.op = .binOp .quo t x y u) (hx : ev fs x = some (.int k a)) (hy : ev fs y = some (.int k b)) (ha : 0 ≤ a) (hb : 0 < b) (hk : a ≤ k.max) : Val P o fs E L (.int k (a / b)) := by
  have := V_quo (P := P) (E := E) (L := L) ho hx hy (by omega)
  have e : a.tdiv b = a / b := Int.tdiv_eq_ediv_of_nonneg ha
  have h1 : 0 ≤ a / b := Int.ediv_nonneg ha (by omega)
  have h2 : a / b ≤ a := Int.ediv_le_self b ha
  rw [e] at this
  have h3 : k.wrap (a / b) = a / b := by
    have h0 : k.min ≤ 0 := by cases k <;> decide
    exact wrap_in (by omega) (by omega)
  rwa [h3] at this
theorem V_rem_n {k : IntKind} (ho : o.op = .binOp .rem t x y u) (hx : ev fs x = some (.int k a)) (hy : ev fs y = some (.int k b)) (ha : 0 ≤ a) (hb : 0 < b) : Val P o fs E L (.int k (a % b)) := by
  have := V_rem (P := P) (E := E) (L := L) ho hx hy (by omega)
  rwa [Int.tmod_eq_emod_of_nonneg ha] at this
end

end Go.Proofs.Ytaoinojdijbhaaa
