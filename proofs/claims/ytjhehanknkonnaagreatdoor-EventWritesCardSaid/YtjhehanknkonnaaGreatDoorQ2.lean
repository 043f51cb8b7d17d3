/-
  Rules and contracts, packed: Vmath, Sep11, Sep18, Sep12, Sep13, Sep14, Sep15, Sep16, Sep17.
-/
import Derived.ChangeArms
import Derived.ChangeShapes
import Derived.WideShapes
import Derived.OpenShut
import Derived.DefersIn
import Derived.Test.YtjhehanknkonnaaGreatDoorQ1
set_option maxHeartbeats 1000000
namespace Go.Proofs.YtjhehanknkonnaaGreatDoor

/-- The bytes of a number, k of them at most. -/
def vdig : Nat → Nat → List UInt8
  | 0, _ => []
  | k + 1, n => if n < 128 then [n.toUInt8] else (n % 128 + 128).toUInt8 :: vdig k (n / 128)
def vbytes (n : Nat) : List UInt8 := vdig 10 n

theorem vdig_small {k n : Nat} (h : n < 128) : vdig (k + 1) n = [n.toUInt8] := by simp [vdig, h]
theorem vdig_big {k n : Nat} (h : 128 ≤ n) : vdig (k + 1) n = (n % 128 + 128).toUInt8 :: vdig k (n / 128) := by simp [vdig, Nat.not_lt.2 h]
theorem vdig_len (k : Nat) : ∀ n, (vdig k n).length ≤ k := by
  induction k with
  | zero => intro n; simp [vdig]
  | succ k ih => intro n; simp only [vdig]; split <;> simp; exact ih _
theorem toNat_u8 {n : Nat} (h : n < 256) : n.toUInt8.toNat = n := by simp [Nat.toUInt8]; omega

/-- Bytes, as a slice's cells. -/
def u8s (l : List UInt8) : List Value := l.map fun b : UInt8 => .int .u8 b.toNat
/-- Numbers, as a slice's cells. -/
def u64s (l : List Nat) : List Value := l.map fun n : Nat => .int .u64 (n : Int)
theorem u64s_get {l : List Nat} {k n : Nat} (h : l[k]? = some n) : (u64s l)[k]? = some (.int .u64 (n : Int)) := by simp [u64s, h]

theorem flatMap_len (ns : List Nat) (k : Nat) : ((ns.take k).flatMap vbytes).length ≤ 10 * k := by
  induction ns generalizing k with
  | nil => simp
  | cons n ns ih =>
    cases k with
    | zero => simp
    | succ k =>
      have := ih k
      have h2 := vdig_len 10 n
      simp only [List.take_succ_cons, List.flatMap_cons, List.length_append, vbytes] at *
      omega

theorem flatMap_take (ns : List Nat) (k : Nat) (h : k < ns.length) : (ns.take (k + 1)).flatMap vbytes = (ns.take k).flatMap vbytes ++ vbytes ns[k] := by
  rw [List.take_succ_eq_append_getElem h, List.flatMap_append]; simp

/-! ### Bits, as numbers -/
theorem and_127 (n : Nat) : n &&& 127 = n % 128 := Nat.and_two_pow_sub_one_eq_mod n 7
theorem or_128 (n : Nat) (h : n < 128) : n ||| 128 = n + 128 := by
  have := Nat.two_pow_add_eq_or_of_lt (i := 7) (by simpa using h) 1
  simp at this
  rw [Nat.or_comm, ← this]; omega
theorem low_7 (n : Nat) (h : n < 18446744073709551616) : IntKind.u8.wrap (andI .u64 n 127) = ((n % 128 : Nat) : Int) := by
  have := andI_nat (k := .u64) (n := n) (m := 127) (by show (n : Int) ≤ 18446744073709551615; omega) (by decide)
  rw [show ((127 : Int)) = ((127 : Nat) : Int) from rfl, this, and_127, wrap_u8 (by omega) (by omega)]
theorem high_1 (n : Nat) (h : n < 128) : orI .u8 n 128 = ((n + 128 : Nat) : Int) := by
  have := orI_nat (k := .u8) (n := n) (m := 128) (by show (n : Int) ≤ 255; omega) (by decide) (by rw [or_128 n h]; show ((n + 128 : Nat) : Int) ≤ 255; omega)
  rw [show ((128 : Int)) = ((128 : Nat) : Int) from rfl, this, or_128 n h]
theorem shr_7 (n : Nat) : shrI .u64 n 7 = ((n / 128 : Nat) : Int) := shrI_nat (k := .u64) (s := 7) (by decide)


theorem or_shift {n b i : Nat} (h : n < 2 ^ i) : n ||| b * 2 ^ i = n + b * 2 ^ i := by
  have := Nat.two_pow_add_eq_or_of_lt h b
  rw [Nat.or_comm, Nat.mul_comm, ← this, Nat.add_comm]
theorem pow128 (i : Nat) : 128 ^ i = 2 ^ (7 * i) := by rw [Nat.pow_mul]
/-- 'n |= uint64(b & 127) << uint(7 * i)'. -/
theorem or_step {n b i : Nat} (hn : n < 128 ^ i) (hi : i < 10) (hb : b < 256) (h9 : i = 9 → b ≤ 1) :
    orI .u64 n (shlI .u64 (IntKind.u64.wrap (andI .u8 b 127)) ((7 : Int) * i)) = ((n + b % 128 * 128 ^ i : Nat) : Int) ∧ n + b % 128 * 128 ^ i < 18446744073709551616 ∧ n + b % 128 * 128 ^ i < 128 ^ (i + 1) := by
  have hp : 128 ^ i ≤ 9223372036854775808 := by
    have : 128 ^ i ≤ 128 ^ 9 := Nat.pow_le_pow_right (by decide) (by omega)
    simpa using this
  have hpos : 0 < 128 ^ i := Nat.pow_pos (by decide)
  have hm : b % 128 * 128 ^ i + 128 ^ i ≤ 18446744073709551616 := by
    by_cases e : i = 9
    · have h1 := h9 e
      have h2 : 128 ^ i = 9223372036854775808 := by rw [e]
      rw [h2]
      omega
    · have h8 : 128 ^ i ≤ 128 ^ 8 := Nat.pow_le_pow_right (by decide) (by omega)
      have : b % 128 ≤ 127 := by omega
      have : b % 128 * 128 ^ i ≤ 127 * 128 ^ i := Nat.mul_le_mul_right _ this
      have h9 : 128 ^ 8 = 72057594037927936 := by decide
      rw [h9] at h8
      omega
  have e1 : andI .u8 (b : Int) 127 = ((b % 128 : Nat) : Int) := by
    have := andI_nat (k := .u8) (n := b) (m := 127) (by show (b : Int) ≤ 255; omega) (by decide)
    rw [show ((127 : Int)) = ((127 : Nat) : Int) from rfl, this, and_127]
  have e2 : shlI .u64 ((b % 128 : Nat) : Int) ((7 * i : Nat) : Int) = ((b % 128 * 128 ^ i : Nat) : Int) := by
    rw [pow128]
    exact shlI_nat (k := .u64) (by show 7 * i ≤ 64; omega) (by rw [← pow128]; show ((b % 128 * 128 ^ i : Nat) : Int) ≤ 18446744073709551615; omega)
  rw [e1, wrap_u64 (by omega) (by omega), show (7 : Int) * (i : Int) = ((7 * i : Nat) : Int) by push_cast; rfl, e2]
  have hn' := hn
  have e3 : n ||| b % 128 * 128 ^ i = n + b % 128 * 128 ^ i := by rw [pow128] at hn ⊢; exact or_shift hn
  refine ⟨?_, by omega, ?_⟩
  · rw [orI_nat (k := .u64) (by show (n : Int) ≤ 18446744073709551615; omega) (by show ((b % 128 * 128 ^ i : Nat) : Int) ≤ 18446744073709551615; omega) (by rw [e3]; show ((n + b % 128 * 128 ^ i : Nat) : Int) ≤ 18446744073709551615; omega), e3]
  · have : b % 128 ≤ 127 := by omega
    have : b % 128 * 128 ^ i ≤ 127 * 128 ^ i := Nat.mul_le_mul_right _ this
    rw [Nat.pow_succ]; omega

/-! ### Reading -/
/-- What a reading gives: the number, where it ends, the error, the offset of the fault. -/
abbrev RRes := Nat × Nat × Nat × Nat
def vreadK (s : List UInt8) (at' : Nat) : Nat → Nat → Nat → RRes
  | 0, _, _ => (0, 0, 26, at' + 9)
  | k + 1, i, n => match s[at' + i]? with
    | none => (0, 0, 5, s.length)
    | some b => if (0 < i ∧ b.toNat = 0) ∨ (i = 9 ∧ 1 < b.toNat) then (0, 0, 26, at' + i)
      else if b.toNat < 128 then (n + b.toNat % 128 * 128 ^ i, at' + i + 1, 0, 0) else vreadK s at' k (i + 1) (n + b.toNat % 128 * 128 ^ i)
def vread (s : List UInt8) (at' : Int) : RRes := if at' < 0 ∨ (s.length : Int) < at' then (0, 0, 2, 0) else vreadK s at'.toNat 10 0 0
def rdV (r : RRes) : Value := .tuple #[.int .u64 r.1, .int .i64 r.2.1, .agg #[.int .i64 r.2.2.1, .int .i64 r.2.2.2]]
theorem vreadK_none {s : List UInt8} {a k i n : Nat} (h : s.length ≤ a + i) : vreadK s a (k + 1) i n = (0, 0, 5, s.length) := by simp [vreadK, List.getElem?_eq_none h]
theorem vreadK_some {s : List UInt8} {a k i n : Nat} {b : UInt8} (h : s[a + i]? = some b) : vreadK s a (k + 1) i n = if (0 < i ∧ b.toNat = 0) ∨ (i = 9 ∧ 1 < b.toNat) then (0, 0, 26, a + i)
      else if b.toNat < 128 then (n + b.toNat % 128 * 128 ^ i, a + i + 1, 0, 0) else vreadK s a k (i + 1) (n + b.toNat % 128 * 128 ^ i) := by simp only [vreadK, h]

end Go.Proofs.YtjhehanknkonnaaGreatDoor
set_option linter.unusedSimpArgs false
set_option linter.unusedVariables false
namespace Go.Proofs.YtjhehanknkonnaaGreatDoor
open Go.RowKit

theorem Env.of_cell {w : World} {p : Addr} {v : Value} (h : w.cell? p = some v) : (Env.of w).cell p = some v := h
theorem SlE.row {w : World} {a : Option Addr} {len cap : Nat} {zs : List Int} (h : (a = none ∧ len = 0 ∧ cap = 0 ∧ zs = []) ∨
    ∃ x, a = some x ∧ len ≤ cap ∧ cap ≤ maxLen ∧ zs.length = cap ∧ (∀ i, i < zs.length → w.cell? (x.add i) = some (.int .u64 (zs.getD i 0))) ∧ ∀ n ∈ zs, (Lit.int .u64 n).wf = true) :
    ∃ ns : List Nat, len = ns.length ∧ SlE (Env.of w) 1 a ns.length (u64s ns) ∧ (∀ n, n ∈ ns → n < 18446744073709551616) ∧ ns.length ≤ 9223372036854775807 := by
  rcases h with ⟨rfl, rfl, rfl, rfl⟩ | ⟨x, rfl, hl, hm, hz, hc, hw⟩
  · exact ⟨[], rfl, SlE.nil, by simp, by simp⟩
  · have hlen : ((zs.take len).map Int.toNat).length = len := by simp; omega
    have hwf : ∀ z, z ∈ zs → 0 ≤ z ∧ z < 18446744073709551616 := fun z hzm => by
      have := hw z hzm
      simp [Lit.wf, IntKind.min, IntKind.max, IntKind.signed, IntKind.bits] at this
      omega
    refine ⟨(zs.take len).map Int.toNat, hlen.symm, ⟨by simp [u64s], .inr ⟨x, rfl, ?_, ?_⟩⟩, ?_, ?_⟩
    · by_cases h0 : len = 0
      · right; rw [hlen]; exact h0
      · left
        simpa [Addr.add] using World.cell?_spot (hc 0 (by omega))
    · intro j v hj
      have hj1 : j < len := by
        have := (List.getElem?_eq_some_iff.1 hj).1
        simp [u64s] at this
        omega
      have hj2 : j < zs.length := by omega
      have h1 := hc j hj2
      refine Env.of_cell ?_
      rw [h1]
      have e : zs.getD j 0 = zs[j] := by simp [List.getD, List.getElem?_eq_getElem hj2]
      have hz1 := hwf zs[j] (List.getElem_mem hj2)
      have e2 : (u64s ((zs.take len).map Int.toNat))[j]? = some (.int .u64 (zs[j].toNat : Int)) := by
        simp [u64s, List.getElem?_map, List.getElem?_take, hj1, List.getElem?_eq_getElem hj2]
      rw [e2] at hj
      cases hj
      rw [e, Int.toNat_of_nonneg hz1.1]
    · intro n hn
      obtain ⟨z, hz1, rfl⟩ := List.mem_map.1 hn
      have := hwf z (List.mem_of_mem_take hz1)
      omega
    · rw [hlen]; simp only [maxLen] at hm; omega
end Go.Proofs.YtjhehanknkonnaaGreatDoor
namespace Go.Proofs.YtjhehanknkonnaaGreatDoor
open Go.RowKit Go.WideShapes Go.ChangeShapes

theorem SlE.snoc {E : Env} {sz n : Nat} {p : Addr} {vs us : List Value} (h : SlE E sz (some p) n vs) (hu : us.length = sz) (hp : p.spot = none) (hc : ∀ j v, us[j]? = some v → E.cell (p.add (n * sz + j)) = some v) : SlE E sz (some p) (n + 1) (vs ++ us) := by
  obtain ⟨hl, h2⟩ := h
  refine ⟨by rw [List.length_append, hl, hu, Nat.succ_mul], .inr ⟨p, rfl, .inl hp, fun j v hj => ?_⟩⟩
  by_cases hj1 : j < vs.length
  · rw [List.getElem?_append_left hj1] at hj
    rcases h2 with ⟨h3, _⟩ | ⟨q, h3, _, h5⟩
    · cases h3
    · cases h3; exact h5 j v hj
  · rw [List.getElem?_append_right (by omega)] at hj
    have := hc (j - vs.length) v hj
    rwa [hl, show n * sz + (j - n * sz) = j by omega] at this

variable {H : Type} {enc : TypeId × Value → H} {P : Program} {W : World} {sp : Nat → Bool} {held : Bool}

theorem open_sl {α : Type} (f : α → List Value) (good : α → Prop) {t e : TypeId} (ht : P.underlying t = some (.slice e)) (hpos : 0 < P.cellsOf e)
    (hf : ∀ m cs y, DataW.trod enc P W 0 sp held m e cs = some y → ∃ x, cs = f x ∧ good x) (hlen : ∀ x, (f x).length = P.cellsOf e)
    {fuel : Nat} {cs : List Value} {x : DataW H × List MemPlace} (hd : DataW.trod enc P W 0 sp held fuel t cs = some x) :
    ∃ a c, ∃ xs : List α, cs = [.slice a xs.length c] ∧ SlE (Env.of W) (P.cellsOf e) a xs.length (xs.flatMap f) ∧ (∀ x, x ∈ xs → good x) ∧ xs.length ≤ c ∧ c ≤ maxLen := by
  rcases DataW.trod_slice ht hd with ⟨h1, _⟩ | ⟨a, len, cap, elems, rest, n, _, rfl, _, _, hl, hm, hlen2, hel, _, _⟩
  · exact ⟨none, 0, [], h1, SlE.nil, by simp, Nat.zero_le _, Nat.zero_le _⟩
  · have each : ∀ k, k < len → ∃ x, good x ∧ ∀ j v, (f x)[j]? = some v → W.cell? (a.add (k * P.cellsOf e + j)) = some v := by
      intro k hk
      have h4 := hel k hk
      rw [List.getElem?_eq_getElem (by omega : k < elems.length), Option.bind_eq_some_iff] at h4
      obtain ⟨cs, h5, h6⟩ := h4
      obtain ⟨x, rfl, hx⟩ := hf _ _ _ h6
      obtain ⟨_, _, h7⟩ := World.cells?_some h5
      refine ⟨x, hx, fun j v hj => ?_⟩
      have hj1 : j < P.cellsOf e := by rw [← hlen x]; exact (List.getElem?_eq_some_iff.1 hj).1
      have := h7 j hj1
      rwa [hj, Addr.add_add] at this
    have hspot : 0 < len → a.spot = none := by
      intro h0
      obtain ⟨x, _, hc⟩ := each 0 h0
      have h8 : 0 < (f x).length := by rw [hlen]; exact hpos
      have := hc 0 _ (List.getElem?_eq_getElem h8)
      rw [Nat.zero_mul, Nat.add_zero] at this
      have := World.cell?_spot this
      simpa [Addr.add] using this
    have key : ∀ k, k ≤ len → ∃ xs : List α, xs.length = k ∧ SlE (Env.of W) (P.cellsOf e) (some a) k (xs.flatMap f) ∧ ∀ x, x ∈ xs → good x := by
      intro k
      induction k with
      | zero => intro _; exact ⟨[], rfl, ⟨by simp, .inr ⟨a, rfl, .inr rfl, fun j v hj => by simp at hj⟩⟩, by simp⟩
      | succ k ih =>
        intro hk
        obtain ⟨xs, h1, h2, h3⟩ := ih (by omega)
        obtain ⟨x, hx, hcell⟩ := each k (by omega)
        refine ⟨xs ++ [x], by simp [h1], ?_, ?_⟩
        · rw [List.flatMap_append]
          exact SlE.snoc h2 (by simp [hlen]) (hspot (by omega)) (fun j v hj => hcell j v (by simpa using hj))
        · intro y hy
          rcases List.mem_append.1 hy with h | h
          · exact h3 y h
          · rw [List.mem_singleton.1 h]; exact hx
    obtain ⟨xs, h1, h2, h3⟩ := key len (Nat.le_refl _)
    subst h1
    exact ⟨some a, cap, xs, rfl, h2, h3, hl, hm⟩

/-! A struct that came in, field by field. -/
theorem struct_field {t : TypeId} {fs : Array Field} {fuel : Nat} {cs : List Value} {x : DataW H × List MemPlace} (ht : P.underlying t = some (.struct fs)) (h : DataW.trod enc P W 0 sp held fuel t cs = some x) (i : Nat) (u : TypeId) (o c : Nat) (hf : (fs[i]?).map (fun f => (f.type, f.offset)) = some (u, o)) (hc : P.cellsOf u = c) :
    ∃ n y, DataW.trod enc P W 0 sp held n u ((cs.drop o).take c) = some y := by
  obtain ⟨xs, n, _, _, _, hl, h1⟩ := DataW.trod_struct ht h
  rw [Option.map_eq_some_iff] at hf
  obtain ⟨f, hf, e⟩ := hf
  cases e
  subst hc
  have hi : i < xs.length := by rw [hl]; exact (Array.getElem?_eq_some_iff.1 hf).1
  exact ⟨n, xs[i], by rw [h1 i f hf, List.getElem?_eq_getElem hi]⟩
theorem list_cons {α : Type} {l : List α} {n : Nat} (h : l.length = n + 1) : ∃ a r, l = a :: r ∧ r.length = n := by
  cases l with
  | nil => simp at h
  | cons a r => exact ⟨a, r, rfl, by simpa using h⟩
end Go.Proofs.YtjhehanknkonnaaGreatDoor
set_option linter.unusedSimpArgs false
set_option linter.unusedVariables false
namespace Go.Proofs.YtjhehanknkonnaaGreatDoor
open Go.RowKit

/-! ### Ways that meet again -/
def JQ (n : Nat) (ds : List Deferred) (fs : List (Nat × Value)) (E : Env) (L : List Res) : Exit → Act → World → Prop := fun e a w => e = .normal ∧ Fr n ds fs a ∧ St E L w

section joins
variable {P : Program} {ro : Option Nat} {n : Nat} {ds : List Deferred} {fs : List (Nat × Value)} {E : Env} {L : List Res} {ops : Array Oper} {Q : Exit → Act → World → Prop}

theorem uponIn_mono2 {F : Fence} {m : Nat} {o : Oper} {a : Act} {K K' : Act → World → Prop} {Q1 Q2 : Exit → Act → World → Prop} {r : Result Next} (h : ∀ a w, K a w → K' a w) (hx : ∀ e a w, e ≠ .normal → ¬ Q1 e a w)
    (hh : o.uponIn F m P a K Q1 r) : o.uponIn F m P a K' Q2 r := by
  cases r with
  | ok x w' =>
    cases x <;> simp only [Oper.uponIn] at hh ⊢ <;>
      first
        | exact h _ _ hh
        | exact ⟨hh.1, CallsIn.mono hh.2 (fun e w'' he => by cases e <;> first | exact h _ _ he | exact (hx _ _ _ (by simp) he).elim | (obtain ⟨a1, w1, q1⟩ := he; exact (hx _ _ _ (by simp) q1).elim))⟩
        | exact ⟨hh.1, RowsIn.mono hh.2 (fun _ _ he => h _ _ he)⟩
        | exact ⟨hh.1, RoundIn.mono hh.2 (fun e w'' he => by cases e <;> first | exact h _ _ he | exact (hx _ _ _ (by simp) he).elim | (obtain ⟨a1, w1, q1⟩ := he; exact (hx _ _ _ (by simp) q1).elim))⟩
  | halt x w' => cases x <;> simp only [Oper.uponIn] at hh ⊢ <;> first | exact (hx _ _ _ (by simp) hh).elim | exact hh

theorem wpListIn_app {F : Fence} {m : Nat} {Q1 : Exit → Act → World → Prop} (l2 : List Oper) (hx : ∀ e a w, e ≠ .normal → ¬ Q1 e a w) (hQ : ∀ a w, Q1 .normal a w → wpListIn F m P ops Q l2 a w) :
    ∀ (l1 : List Oper) (a : Act) (w : World), wpListIn F m P ops Q1 l1 a w → wpListIn F m P ops Q (l1 ++ l2) a w := by
  intro l1
  induction l1 with
  | nil => intro a w h; exact hQ a w h
  | cons o l1 ih =>
    intro a w h
    simp only [List.cons_append]
    unfold wpListIn at h ⊢
    split at h
    · rename_i hw
      rw [if_pos hw]
      exact ⟨h.1, uponIn_mono2 (fun a w hk => ih a w hk) hx h.2⟩
    · rename_i hw
      rw [if_neg hw]
      exact ⟨h.1, ih _ _ h.2⟩

theorem G_split {l : List Oper} (k : Nat) (fs' : List (Nat × Value)) (h1 : G n ds fs E L (wpListIn (Wd ro) 0 P ops (JQ n ds fs' E L) (l.take k))) (h2 : G n ds fs' E L (wpListIn (Wd ro) 0 P ops Q (l.drop k))) :
    G n ds fs E L (wpListIn (Wd ro) 0 P ops Q l) := fun a w ha hw => by
  have := wpListIn_app (Q := Q) (Q1 := JQ n ds fs' E L) (l.drop k) (fun e a w hne hq => hne hq.1) (fun a w hq => h2 a w hq.2.1 hq.2.2) (l.take k) a w (h1 a w ha hw)
  rwa [List.take_append_drop] at this

theorem Fr.unlit {i d : Nat} {b b' : Bool} {v : Value} {a : Act} (hi : look fs i = some (.bool b)) (e : b = b') (h : Fr n ds ((d, v) :: (i, .bool b') :: fs) a) : Fr n ds ((d, v) :: fs) a := by
  refine ⟨h.size, h.defers, fun j u hj => h.get j u ?_⟩
  simp only [look] at hj ⊢
  by_cases e1 : d = j
  · subst e1; simpa using hj
  · rw [beq_ne e1] at hj ⊢
    simp only [cond_false] at hj ⊢
    by_cases e2 : i = j
    · subst e2 e
      rw [hi] at hj
      simpa using hj
    · rw [beq_ne e2]
      exact hj

/-- Where a way comes to the place of meeting: the first k slots are new. -/
theorem look_end {fs1 : List (Nat × Value)} {d : Nat} {v : Value} (k : Nat) (hfs : fs1.drop k = fs) (hd : look fs1 d = some v) (hf : ((fs1.take k).all fun p => Nat.beq p.1 d || (look fs p.1).isNone) = true) :
    ∀ i u, look ((d, v) :: fs) i = some u → look fs1 i = some u := by
  intro i u hu
  simp only [look] at hu
  by_cases e1 : d = i
  · subst e1
    simp at hu
    rw [hd, hu]
  · rw [beq_ne e1] at hu
    simp only [cond_false] at hu
    subst hfs
    have key : ∀ l : List (Nat × Value), (l.all fun p => Nat.beq p.1 d || (look (fs1.drop k) p.1).isNone) = true → ∀ r, look (fs1.drop k) i = some u → r = fs1.drop k → look (l ++ r) i = some u := by
      intro l
      induction l with
      | nil => intro _ r h hr; subst hr; exact h
      | cons p l ih =>
        intro hl r h hr
        simp only [List.all_cons, Bool.and_eq_true, Bool.or_eq_true] at hl
        obtain ⟨j, w⟩ := p
        simp only [List.cons_append, look]
        have hne : j ≠ i := by
          intro e
          subst e
          rcases hl.1 with h1 | h1
          · exact e1 (Nat.eq_of_beq_eq_true h1).symm
          · rw [h] at h1; cases h1
        rw [beq_ne hne]
        exact ih hl.2 r h hr
    have := key (fs1.take k) hf _ hu rfl
    rwa [List.take_append_drop] at this
theorem JQ_end {fs1 : List (Nat × Value)} {d : Nat} {v : Value} (k : Nat) (hfs : fs1.drop k = fs) (hd : look fs1 d = some v) (hf : ((fs1.take k).all fun p => Nat.beq p.1 d || (look fs p.1).isNone) = true) :
    G n ds fs1 E L (fun a w => JQ n ds ((d, v) :: fs) E L .normal a w) := fun a w ha hw => ⟨rfl, ⟨ha.size, ha.defers, fun i u hu => ha.get i u (look_end k hfs hd hf i u hu)⟩, hw⟩
/-- A test, and what hangs on it up to where its two ways meet: the slot d bears one value or the other. -/
theorem G_join {l : List Oper} (k i d : Nat) {b : Bool} {vt vf : Value} (hi : look fs i = some (.bool b))
    (ht : b = true → G n ds ((i, .bool true) :: fs) E L (wpListIn (Wd ro) 0 P ops (JQ n ds ((d, vt) :: (i, .bool true) :: fs) E L) (l.take k)))
    (hf : b = false → G n ds ((i, .bool false) :: fs) E L (wpListIn (Wd ro) 0 P ops (JQ n ds ((d, vf) :: (i, .bool false) :: fs) E L) (l.take k)))
    (h : G n ds ((d, bif b then vt else vf) :: fs) E L (wpListIn (Wd ro) 0 P ops Q (l.drop k))) : G n ds fs E L (wpListIn (Wd ro) 0 P ops Q l) := by
  refine G.bool i hi (fun e => ?_) (fun e => ?_)
  · refine G_split k _ (ht e) ?_
    intro a w ha hw
    refine h a w ?_ hw
    have := ha.unlit hi e
    rw [e]; exact this
  · refine G_split k _ (hf e) ?_
    intro a w ha hw
    refine h a w ?_ hw
    have := ha.unlit hi e
    rw [e]; exact this
theorem G_joinAnd {l : List Oper} (k i d : Nat) {b y : Bool} (hi : look fs i = some (.bool b))
    (ht : b = true → G n ds ((i, .bool true) :: fs) E L (wpListIn (Wd ro) 0 P ops (JQ n ds ((d, .bool y) :: (i, .bool true) :: fs) E L) (l.take k)))
    (hf : b = false → G n ds ((i, .bool false) :: fs) E L (wpListIn (Wd ro) 0 P ops (JQ n ds ((d, .bool false) :: (i, .bool false) :: fs) E L) (l.take k)))
    (h : G n ds ((d, .bool (b && y)) :: fs) E L (wpListIn (Wd ro) 0 P ops Q (l.drop k))) : G n ds fs E L (wpListIn (Wd ro) 0 P ops Q l) :=
  G_join k i d hi ht hf (by cases b <;> exact h)
theorem G_joinOr {l : List Oper} (k i d : Nat) {b y : Bool} (hi : look fs i = some (.bool b))
    (ht : b = true → G n ds ((i, .bool true) :: fs) E L (wpListIn (Wd ro) 0 P ops (JQ n ds ((d, .bool true) :: (i, .bool true) :: fs) E L) (l.take k)))
    (hf : b = false → G n ds ((i, .bool false) :: fs) E L (wpListIn (Wd ro) 0 P ops (JQ n ds ((d, .bool y) :: (i, .bool false) :: fs) E L) (l.take k)))
    (h : G n ds ((d, .bool (b || y)) :: fs) E L (wpListIn (Wd ro) 0 P ops Q (l.drop k))) : G n ds fs E L (wpListIn (Wd ro) 0 P ops Q l) :=
  G_join k i d hi ht hf (by cases b <;> exact h)

end joins

section more
variable {P : Program} {ro : Option Nat} {n : Nat} {ds : List Deferred} {fs : List (Nat × Value)} {E : Env} {L L' : List Res} {X : Act → World → Prop} {ops : Array Oper} {Q : Exit → Act → World → Prop} {rest : List Oper} {o : Oper}
theorem G.front {r : Res} (d : Del L r L') (h : G n ds fs E (r :: L') X) : G n ds fs E L X := G.perm _ d.perm h

/-! ### Deferred calls -/
theorem G_defer {k : FuncId} {f : Operand} {ts : Array TypeId} {cap : Array Value} (ho : o.op = .defer { callee := .value f, args := #[], argTypes := ts })
    (hf : ev fs f = some (.func (.func k) #[] cap)) (hd : o.dst = none) (hg : Goes ops fs o) (hr : ro = none)
    (h : G n (⟨.fn (.func k) cap, #[]⟩ :: ds) fs E L (wpListIn (Wd ro) 0 P ops Q rest)) : G n ds fs E L (wpListIn (Wd ro) 0 P ops Q (o :: rest)) := by
  subst hr
  intro a w ha hw
  unfold wpListIn
  rw [if_pos (hg.wanted ha)]
  refine ⟨Wd.about, ?_⟩
  rw [show (Wd none).round = none from rfl, Oper.semAt_none]
  have e2 := ha.eval hf
  have e : (execOp a.eval o).run P w = .ok (.defer ⟨.fn (.func k) cap, #[]⟩) w := by
    simp [execOp, ho, resolve, e2, Deferred.ofValue]
  rw [e]
  simp only [Oper.uponIn, hd]
  exact h _ _ ⟨ha.size, by simp [Act.put, ha.defers], fun i v hi => ha.get i v hi⟩ hw

/-- A function that is called as a deferred one, while the frame below returns. -/
def CallD (P : Program) (k : FuncId) (args : Array Value) (E : Env) (L : List Res) (Post : Value → Env → List Res → Prop) : Prop :=
  ∀ w, St E L w → CallsDIn (Wd none) 0 P k args .returning w (fun e u w' => u = .returning ∧ ∃ r E' L', e = .returned r ∧ E.Le E' ∧ St E' L' w' ∧ Post r E' L')

theorem CallD.intro {fn : Func} {k : FuncId} {c : Code} {l : List Value} {Post : Value → Env → List Res → Prop} (m : Nat) (hf : P.funcs[k]? = some fn) (hb : fn.body = some c) (hm : fn.ntmps = m) (hl : Nat.ble l.length m = true)
    (h : G m [] (slots 0 l) E L (c.wpIn (Wd none) 0 P (bodyPost P fn (RetP E Post)))) : CallD P k l.toArray E L Post := by
  intro w hw
  refine callsDIn_of_wp (F := Wd none) hf hb trivial ?_
  have hl' : l.length ≤ m := by simpa using hl
  refine h _ _ ⟨?_, rfl, ?_⟩ hw
  · simp [hm]; omega
  · intro i v hi
    have := look_slots l 0 i v hi
    have hlt : i < l.length := (List.getElem?_eq_some_iff.1 this.2).1
    simp only [Array.getElem?_append, List.size_toArray, if_pos hlt]
    simpa using this.2

/-- A function's end, one deferred call outstanding. -/
theorem G_leave_d {fn : Func} {k : FuncId} [Ent P k] {cap : Array Value} {R : Ending → World → Prop} {Post : Value → Env → List Res → Prop} (hc : CallD P k cap E L Post)
    (h : ∀ r E' L', E.Le E' → Post r E' L' → G n [] fs E' L' (fun a w => bodyPostM (Wd none) 0 P fn R .ret a w)) :
    G n [⟨.fn (.func k) cap, #[]⟩] fs E L (fun a w => bodyPostM (Wd none) 0 P fn R .ret a w) := by
  intro a w ha hw
  show LeavesInM (Wd none) 0 P fn a.tmps R a.defers .returning w
  rw [ha.defers]
  refine ⟨by simp, .inr ⟨fun h => by simp [Wd] at h, .func k, cap, k, cap, rfl, ?_, fun _ _ => trivial, ?_⟩⟩
  · simp [invoke, Ent.ent]
  · refine (hc w hw).mono ?_
    rintro e u w' ⟨rfl, r, E', L', rfl, hE, hs, hp⟩
    have := h r E' L' hE hp ⟨a.tmps, []⟩ w' ⟨ha.size, rfl, ha.get⟩ hs
    exact this
theorem G_leave_dn {fn : Func} {k : FuncId} [Ent P k] {cap : Array Value} {R : Ending → World → Prop} {Post : Value → Env → List Res → Prop} (hc : CallD P k cap E L Post)
    (h : ∀ r E' L', E.Le E' → Post r E' L' → G n [] fs E' L' (fun a w => bodyPostM (Wd none) 0 P fn R .ret a w)) :
    G n [⟨.fn (.func k) cap, #[]⟩] fs E L (fun a w => bodyPostM (Wd none) 0 P fn R .normal a w) := G_leave_d hc h

/-! ### Structs in memory, at an offset -/
theorem Cells.sub {b off k : Nat} {cs : Array Value} {T : TypeId} {fz : Nat × Nat} {vs : List Value} (hm : Res.blk b (.cells cs T fz) ∈ L) (hv : (cs.toList.drop off).take k = vs) : Cells E L ⟨b, off, none⟩ vs :=
  Cells.at hm fun j v hj => by
    subst hv
    rw [List.getElem?_take] at hj
    split at hj
    · simpa using hj
    · cases hj
theorem V_loadF {t : TypeId} {x : Operand} {d : TypeDesc} {sz : Nat} [ht : Ty P t d sz true] {b off : Nat} {cs : Array Value} {T : TypeId} {fz : Nat × Nat} {vs : List Value} (ho : o.op = .load t x) (hx : ev fs x = some (.pointer (some ⟨b, off, none⟩)))
    (hm : Res.blk b (.cells cs T fz) ∈ L) (hv : (cs.toList.drop off).take sz = vs) (hs : vs.length = sz) : Val P o fs E L (.agg vs.toArray) :=
  V_loadA ho hx (Cells.sub hm hv) hs
/-- A store of a struct at an offset. -/
theorem G_storeF {t : TypeId} {x y : Operand} {b off : Nat} {vs : List Value} {d : TypeDesc} {ag : Bool} {T : TypeId} {cs cs' : Array Value} {sz : Nat} [ht : Ty P t d sz ag]
    (ho : o.op = .store t x y) (hx : ev fs x = some (.pointer (some ⟨b, off, none⟩))) (hy : ev fs y = some (.agg vs.toArray)) (hs : vs.length = sz) (hone : ∀ v, v ∈ vs → v.oneCell' = true)
    (hd : o.dst = none) (hg : Goes ops fs o) (u : Upd L (.blk b (.cells cs T (0, 0))) (.blk b (.cells cs' T (0, 0))) L') (hl : off + vs.length ≤ cs.size) (hcs : putAll cs off vs = cs')
    (h : G n ds fs E L' (wpListIn (Wd ro) 0 P ops Q rest)) : G n ds fs E L (wpListIn (Wd ro) 0 P ops Q (o :: rest)) :=
  G_storeAll ho hx hy rfl hs hone hd hg u hl hcs h

/-! ### Strings cut; least and greatest -/
theorem S_cut (l : List UInt8) (i j : Nat) : (S l).extract i j = S ((l.take j).drop i) := by
  apply ByteArray.ext
  simp [S, List.extract_eq_take_drop, List.drop_take]
theorem V_cut {t : TypeId} {sz : Nat} {ag : Bool} {x y z : Operand} {s : List UInt8} {i j : Int} [ht : Ty P t .string sz ag] (ho : o.op = .slice t x (some y) (some z) none) (hx : ev fs x = some (.string (S s))) (hy : ev fs y = some (.int .i64 i)) (hz : ev fs z = some (.int .i64 j))
    (h0 : 0 ≤ i) (h1 : i ≤ j) (h2 : j ≤ s.length) : Val P o fs E L (.string (S ((s.take j.toNat).drop i.toNat))) :=
  ⟨(by rw [ho]; intro c h; cases h), fun n ds a w ha _ => by
    have hl : ¬ i < 0 := by omega
    have hj : ¬ j < 0 := by omega
    have hh : ¬ ((s.length : Int) < j) := by omega
    have hij : ¬ (j < i) := by omega
    have h3 : 0 ≤ j := by omega
    have h4 : max j 0 = j := by omega
    simp [execOp, ho, ha.eval hx, ha.eval hy, ha.eval hz, Instr.sliceAt, Instr.slice, Instr.sliceBounds, Instr.sliceBound, ht.run, Result.andThen, asIntOf, S_size, h0, h1, h2, h3, h4, S_cut]⟩
theorem V_back {t : TypeId} {sz : Nat} {ag : Bool} {x y : Operand} {s : List UInt8} {i : Int} [ht : Ty P t .string sz ag] (ho : o.op = .slice t x (some y) none none) (hx : ev fs x = some (.string (S s))) (hy : ev fs y = some (.int .i64 i))
    (h0 : 0 ≤ i) (h1 : i ≤ s.length) : Val P o fs E L (.string (S (s.drop i.toNat))) :=
  ⟨(by rw [ho]; intro c h; cases h), fun n ds a w ha _ => by
    have hl : ¬ i < 0 := by omega
    have hh : ¬ ((s.length : Int) < i) := by omega
    simp [execOp, ho, ha.eval hx, ha.eval hy, Instr.sliceAt, Instr.slice, Instr.sliceBounds, Instr.sliceBound, ht.run, Result.andThen, asIntOf, S_size, h0, h1, S_cut]⟩
/-! ### What is kept at a function's end -/
inductive Sel : List Res → List Res → Prop
  | nil (L : List Res) : Sel L L
  | keep (x : Res) {L L' : List Res} (h : Sel L L') : Sel (x :: L) (x :: L')
  | drop (x : Res) {L L' : List Res} (h : Sel L L') : Sel (x :: L) L'
  | suf (N : List Res) {L L' : List Res} (h : Sel L L') : Sel (L ++ N) L'
theorem Sel.st {L L' : List Res} (h : Sel L L') : ∀ w, St E L w → St E L' w := by
  suffices hh : ∃ M, L.Perm (M ++ L') by
    obtain ⟨M, p⟩ := hh
    exact fun w hw => (hw.perm p).dropAll
  induction h with
  | nil L => exact ⟨[], .refl _⟩
  | keep x h ih =>
    obtain ⟨M, p⟩ := ih
    exact ⟨M, (p.cons x).trans List.perm_middle.symm⟩
  | drop x h ih =>
    obtain ⟨M, p⟩ := ih
    exact ⟨x :: M, p.cons x⟩
  | suf N h ih =>
    obtain ⟨M, p⟩ := ih
    exact ⟨N ++ M, List.perm_append_comm.trans (by rw [List.append_assoc]; exact p.append_left N)⟩
theorem G_leaveS {fn : Func} {vs : List Value} {E0 : Env} {Post : Value → Env → List Res → Prop} {r : Value} (s : Sel L L') (h : Rvs P fs E L fn.results.toList vs) (he : resVal vs = r) (hE : E0.Le E) (hp : Post r E L') :
    G n [] fs E L (fun a w => bodyPostM (Wd ro) 0 P fn (RetP E0 Post) .ret a w) := by
  intro a w ha hw
  show LeavesInM (Wd ro) 0 P fn a.tmps (RetP E0 Post) a.defers .returning w
  rw [ha.defers]
  exact ⟨_, h.run (by simp) ha hw, r, E, _, by rw [he], hE, s.st w hw, hp⟩
theorem G_leaveS_n {fn : Func} {vs : List Value} {E0 : Env} {Post : Value → Env → List Res → Prop} {r : Value} (s : Sel L L') (h : Rvs P fs E L fn.results.toList vs) (he : resVal vs = r) (hE : E0.Le E) (hp : Post r E L') :
    G n [] fs E L (fun a w => bodyPostM (Wd ro) 0 P fn (RetP E0 Post) .normal a w) := G_leaveS s h he hE hp
theorem G_leaveS_b {fn : Func} {vs : List Value} {E0 : Env} {Post : Value → Env → List Res → Prop} {r : Value} (s : Sel L L') (h : Rvs P fs E L fn.results.toList vs) (he : resVal vs = r) (hE : E0.Le E) (hp : Post r E L') :
    G n [] fs E L (fun a w => bodyPost P fn (RetP E0 Post) .ret a w) := by
  intro a w ha hw
  exact ⟨ha.defers, _, h.run (by simp) ha hw, r, E, _, by rw [he], hE, s.st w hw, hp⟩
theorem G_leaveS_bn {fn : Func} {vs : List Value} {E0 : Env} {Post : Value → Env → List Res → Prop} {r : Value} (s : Sel L L') (h : Rvs P fs E L fn.results.toList vs) (he : resVal vs = r) (hE : E0.Le E) (hp : Post r E L') :
    G n [] fs E L (fun a w => bodyPost P fn (RetP E0 Post) .normal a w) := G_leaveS_b s h he hE hp
end more
end Go.Proofs.YtjhehanknkonnaaGreatDoor
set_option linter.unusedSimpArgs false
set_option linter.unusedVariables false
namespace Go.Proofs.YtjhehanknkonnaaGreatDoor
open Go.RowKit

/-- What is known of memory, whatever more is owned. -/
structure Fam where
  ok : List Res → World → Prop
  perm : ∀ M M' w, M.Perm M' → ok M w → ok M' w
  alc : ∀ M w o, ok M w → ok (Res.blk w.heap.size o :: M) (w.alloc o)
def Fam.J (Φ : Fam) (w : World) : Prop := ∃ M, Φ.ok M w
def Fam.st (E : Env) (L : List Res) : Fam := ⟨fun M w => St E (M ++ L) w, fun _ _ _ p h => h.perm (p.append_right L), fun _ _ o h => h.alloc o⟩
def Fam.add (Φ : Fam) (r : Res) : Fam := ⟨fun M w => Φ.ok (r :: M) w, fun _ _ w p h => Φ.perm _ _ w (p.cons r) h, fun M w o h => Φ.perm _ _ _ (.swap ..) (Φ.alc _ w o h)⟩
theorem Fam.ext {Φ Ψ : Fam} (h : ∀ M w, Φ.ok M w ↔ Ψ.ok M w) : Φ = Ψ := by
  obtain ⟨a, _, _⟩ := Φ
  obtain ⟨b, _, _⟩ := Ψ
  have : a = b := funext fun M => funext fun w => propext (h M w)
  subst this
  rfl
theorem Fam.st_add {E : Env} {L : List Res} {r : Res} : (Fam.st E L).add r = Fam.st E (r :: L) := Fam.ext fun M w => ⟨fun h => St.perm h List.perm_middle.symm, fun h => St.perm h List.perm_middle⟩

section
variable {P : Program} {ops : Array Oper} {ro : Option Nat}

/-- The operation makes one block. -/
def AllocsTo (P : Program) (o : Oper) (ρ : Operand → Value) (val : Nat → Value) (obj : Obj) : Prop := ∀ w, (execOp ρ o).run P w = .ok (.value (val w.heap.size)) (w.alloc obj)

/-- The operation gives a value and leaves a world of which K holds; or the function that it enters does. -/
def Steps (P : Program) (o : Oper) (ρ : Operand → Value) (K : Value → World → Prop) (w : World) : Prop :=
  match (execOp ρ o).run P w with
  | .ok (.value v) w' => K v w'
  | .ok (.enter f args) w' => Calls P f args w' (fun e w'' => ∃ r, e = .returned r ∧ K r w'')
  | _ => False
theorem Steps.mono {o : Oper} {ρ : Operand → Value} {K K' : Value → World → Prop} {w : World} (h : Steps P o ρ K w) (hk : ∀ v w, K v w → K' v w) : Steps P o ρ K' w := by
  unfold Steps at *
  split at h
  · exact hk _ _ h
  · exact h.mono fun e w'' ⟨r, e1, e2⟩ => ⟨r, e1, hk _ _ e2⟩
  · exact h
theorem Steps.some {o : Oper} {ρ : Operand → Value} {K : Value → World → Prop} {w : World} (h : Steps P o ρ K w) : ∃ v w', K v w' := by
  unfold Steps at h
  split at h
  · exact ⟨_, _, h⟩
  · obtain ⟨e, w', fr, ⟨r, _, h1⟩, _⟩ := h []
    exact ⟨r, w', h1⟩
  · exact h.elim

/-- The same, of an operation that may give no value. -/
def StepsS (P : Program) (o : Oper) (ρ : Operand → Value) (K : Value → World → Prop) (w : World) : Prop :=
  match (execOp ρ o).run P w with
  | .ok (.value v) w' => K v w'
  | .ok .skip w' => K undef w'
  | .ok (.enter f args) w' => Calls P f args w' (fun e w'' => ∃ r, e = .returned r ∧ K r w'')
  | _ => False
theorem StepsS.mono {o : Oper} {ρ : Operand → Value} {K K' : Value → World → Prop} {w : World} (h : StepsS P o ρ K w) (hk : ∀ v w, K v w → K' v w) : StepsS P o ρ K' w := by
  unfold StepsS at *
  split at h
  · exact hk _ _ h
  · exact hk _ _ h
  · exact h.mono fun e w'' ⟨r, e1, e2⟩ => ⟨r, e1, hk _ _ e2⟩
  · exact h
theorem StepsS.some {o : Oper} {ρ : Operand → Value} {K : Value → World → Prop} {w : World} (h : StepsS P o ρ K w) : ∃ v w', K v w' := by
  unfold StepsS at h
  split at h
  · exact ⟨_, _, h⟩
  · exact ⟨_, _, h⟩
  · obtain ⟨e, w', fr, ⟨r, _, h1⟩, _⟩ := h []
    exact ⟨r, w', h1⟩
  · exact h.elim

/-- Operations that wait for i, through others too. -/
def descs (ops : Array Oper) (i : Nat) : List Nat := (List.range ops.size).foldl (fun D j => if D.any fun d => Region.waitsFor .any ops j d then j :: D else D) [i]
/-- The walk in an order of our choice. Kinds: 0 looks at no memory, 1 loads, 2 makes a block, 3 calls (or makes a row of its own), 4 stores, or calls what turns what is owned. J: what the loads so far rest on; it may be given up where an operation turns memory that waits for them. -/
def wpF (P : Program) (ops : Array Oper) (T : Act → Fam → Prop) : (Nat → World → Prop) → List (Nat × Nat) → Act → Fam → Prop
  | _, [], a, Φ => T a Φ
  | J, (i, k) :: π, a, Φ => ∃ o, ops[i]? = some o ∧
    (if Region.wanted o (yielded ops a.tmps) then
      match k with
      | 0 => ∃ v, (∀ w, (execOp a.eval o).run P w = .ok (.value v) w) ∧ wpF P ops T J π (a.put o.dst v) Φ
      | 1 => ∃ v, ∃ J1 : World → Prop, (∀ w, J1 w → (execOp a.eval o).run P w = .ok (.value v) w) ∧ (∀ w, Φ.J w → J1 w) ∧ wpF P ops T (fun p w => J p w ∧ (p = i → J1 w)) π (a.put o.dst v) Φ
      | 2 => ∃ val obj, AllocsTo P o a.eval val obj ∧ ∀ b, (∃ M w, Φ.ok (.blk b obj :: M) w) → wpF P ops T J π (a.put o.dst (val b)) (Φ.add (.blk b obj))
      | 3 => ∀ M w, Φ.ok M w → Steps P o a.eval (fun r w' => ∃ Φ', (∀ w, Fam.J Φ' w → Φ.J w) ∧ Φ'.ok M w' ∧ wpF P ops T J π (a.put o.dst r) Φ') w
      | _ => ∃ _ : True, ∀ M w, Φ.ok M w → StepsS P o a.eval (fun r w' => ∃ Φ', (∀ w, Fam.J Φ' w → ∀ p, i ∉ descs ops p → J p w) ∧ Φ'.ok M w' ∧ wpF P ops T (fun p w => i ∈ descs ops p ∨ J p w) π (a.put o.dst r) Φ') w
    else wpF P ops T J π (a.put o.dst undef) Φ)

/-- Less may be kept. -/
theorem wpF_weak {T : Act → Fam → Prop} : ∀ (π : List (Nat × Nat)) (J J' : Nat → World → Prop) (a : Act) (Φ : Fam), (∀ p w, J p w → J' p w) → wpF P ops T J π a Φ → wpF P ops T J' π a Φ := by
  intro π
  induction π with
  | nil => exact fun J J' a Φ _ hh => hh
  | cons p π ih =>
    obtain ⟨i, k⟩ := p
    intro J J' a Φ hj hh
    obtain ⟨o, ho, hh⟩ := hh
    refine ⟨o, ho, ?_⟩
    split at hh
    · rename_i hw
      rw [if_pos hw]
      match k with
      | 0 => obtain ⟨v, h1, h2⟩ := hh; exact ⟨v, h1, ih _ _ _ _ hj h2⟩
      | 1 => obtain ⟨v, J1, h1, h3, h2⟩ := hh; exact ⟨v, J1, h1, h3, ih _ _ _ _ (fun p w h => ⟨hj p w h.1, h.2⟩) h2⟩
      | 2 => obtain ⟨v, obj, h1, h2⟩ := hh; exact ⟨v, obj, h1, fun b hb => ih _ _ _ _ hj (h2 b hb)⟩
      | 3 =>
        exact fun M w hw => (hh M w hw).mono fun r w' ⟨Φ', e2, e3, e4⟩ => ⟨Φ', e2, e3, ih _ _ _ _ hj e4⟩
      | _ + 4 => obtain ⟨_, h1⟩ := hh; exact ⟨trivial, fun M w hw => (h1 M w hw).mono fun r w' ⟨Φ', e2, e3, e4⟩ => ⟨Φ', fun w h p hp => hj p w (e2 w h p hp), e3, ih _ _ _ _ (fun p w h => h.imp id (hj p w)) e4⟩⟩
    · rename_i hw
      rw [if_neg hw]
      exact ih _ _ _ _ hj hh
/-! ### Every order -/
def stepN (P : Program) (ops : Array Oper) (o : Oper) (K : Act → World → Prop) (a : Act) (w : World) : Prop :=
  if Region.wanted o (yielded ops a.tmps) then
    match (execOp a.eval o).run P w with
    | .ok (.value v) w' => K (a.put o.dst v) w'
    | .ok .skip w' => K (a.put o.dst undef) w'
    | .ok (.enter f args) w' => Calls P f args w' (fun e w'' => ∃ r, e = .returned r ∧ K (a.put o.dst r) w'')
    | _ => False
  else K (a.put o.dst undef) w

theorem stepN_mono {o : Oper} {K K' : Act → World → Prop} {a : Act} {w : World} (h : ∀ a w, K a w → K' a w) (hh : stepN P ops o K a w) : stepN P ops o K' a w := by
  unfold stepN at *
  split
  · rename_i hw
    rw [if_pos hw] at hh
    split at hh
    · exact h _ _ hh
    · exact h _ _ hh
    · exact hh.mono fun e w'' ⟨r, e1, e2⟩ => ⟨r, e1, h _ _ e2⟩
    · exact hh
  · rename_i hw
    rw [if_neg hw] at hh
    exact h _ _ hh

/-- All orders of the first m operations, J holding throughout; then TT. -/
def WJ (P : Program) (ops : Array Oper) (m : Nat) (TT : Array Bool → Act → World → Prop) (J : Array Bool → World → Prop) : Nat → Array Bool → Act → World → Prop
  | 0, listed, a, w => J listed w ∧ TT listed a w
  | f + 1, listed, a, w => J listed w ∧ Region.ready .any ops listed ≠ [] ∧ ∀ j, j ∈ Region.ready .any ops listed → j < m ∧ ∃ o, ops[j]? = some o ∧ stepN P ops o (WJ P ops m TT J f (listed.setIfInBounds j true)) a w
theorem WJ.mono {m : Nat} {TT : Array Bool → Act → World → Prop} {J J' : Array Bool → World → Prop} (I : Array Bool → Prop) (hI : ∀ listed j, I listed → I (listed.setIfInBounds j true)) (hJ : ∀ listed w, I listed → J listed w → J' listed w) :
    ∀ (f : Nat) (listed : Array Bool) (a : Act) (w : World), I listed → WJ P ops m TT J f listed a w → WJ P ops m TT J' f listed a w := by
  intro f
  induction f with
  | zero => exact fun listed a w hi h => ⟨hJ _ w hi h.1, h.2⟩
  | succ f ih =>
    intro listed a w hi h
    refine ⟨hJ _ w hi h.1, h.2.1, fun j hj => ?_⟩
    obtain ⟨h1, o, h2, h3⟩ := h.2.2 j hj
    exact ⟨h1, o, h2, stepN_mono (fun a w => ih _ a w (hI _ j hi)) h3⟩

theorem WJ.wp {m g : Nat} {TT : Array Bool → Act → World → Prop} {J : Array Bool → World → Prop} {Q' : Exit → Act → World → Prop} (hnd : ∀ (i : Nat) (o : Oper) c, ops[i]? = some o → o.op ≠ .defer c)
    (hT : ∀ listed a w, TT listed a w → wpAnyIn (Wd ro) 0 P .any ops Q' g listed a w) :
    ∀ (f : Nat) (listed : Array Bool) (a : Act) (w : World), WJ P ops m TT J f listed a w → wpAnyIn (Wd ro) 0 P .any ops Q' (f + g) listed a w := by
  intro f
  induction f with
  | zero => intro listed a w h; rw [Nat.zero_add]; exact hT _ _ _ h.2
  | succ f ih =>
    intro listed a w h
    rw [show f + 1 + g = (f + g) + 1 by omega]
    refine ⟨fun h0 => absurd h0 h.2.1, fun i hi => ?_⟩
    obtain ⟨_, o, ho, hh⟩ := h.2.2 i hi
    unfold wpOpIn
    simp only [ho]
    unfold stepN at hh
    split
    · rename_i hw
      rw [if_pos hw] at hh
      refine ⟨Wd.about, ?_⟩
      rw [Oper.semAt_eq _ _ _ (hnd i o · ho)]
      split at hh
      · rename_i e; rw [e]; simp only [Oper.uponIn_value]; exact ih _ _ _ hh
      · rename_i e; rw [e]; simp only [Oper.uponIn_skip]; exact ih _ _ _ hh
      · rename_i e; rw [e]
        simp only [Oper.uponIn_enter]
        refine ⟨fun h => by simp [Wd] at h, (Wd.calls hh).mono ?_⟩
        rintro e w'' ⟨r, rfl, h2⟩
        exact ih _ _ _ h2
      · exact hh.elim
    · rename_i hw
      rw [if_neg hw] at hh
      exact ⟨Wd.about, ih _ _ _ hh⟩

/-- What is known to leave v in its slot, in every world of J. -/
def YJ (P : Program) (ops : Array Oper) (J : World → Prop) (o : Oper) (v : Value) (a : Act) : Prop :=
  (Region.wanted o (yielded ops a.tmps) = true ∧ ∀ w, J w → (execOp a.eval o).run P w = .ok (.value v) w) ∨ (Region.wanted o (yielded ops a.tmps) = false ∧ v = undef)
theorem YJ.step {J : World → Prop} {o : Oper} {v : Value} {a : Act} {w : World} {K : Act → World → Prop} (h : YJ P ops J o v a) (hw : J w) (hk : K (a.put o.dst v) w) : stepN P ops o K a w := by
  unfold stepN
  rcases h with ⟨h1, h2⟩ | ⟨h1, rfl⟩
  · rw [if_pos h1, h2 w hw]; exact hk
  · rw [if_neg (by rw [h1]; simp)]; exact hk
theorem YJ.put {J : World → Prop} {o : Oper} {v : Value} {a : Act} (hs : ∀ cs b, o.op ≠ .select cs b) (dst : Option Tmp) (u : Value) (hd : ∀ d, dst = some d → d ∉ o.looksAt ops) (h : YJ P ops J o v a) : YJ P ops J o v (a.put dst u) := by
  unfold YJ at *
  rw [execOp_put o hs a dst u hd, wanted_put o a dst u hd]
  exact h

theorem descs_unlisted {m i : Nat} {listed : Array Bool} (inv : HeadInv .any ops m listed) (hi : listed.getD i false = false) : ∀ j, j ∈ descs ops i → listed.getD j false = false := by
  unfold descs
  have key : ∀ (l : List Nat) (D : List Nat), (∀ j, j ∈ D → listed.getD j false = false) → ∀ j, j ∈ l.foldl (fun D j => if D.any fun d => Region.waitsFor .any ops j d then j :: D else D) D → listed.getD j false = false := by
    intro l
    induction l with
    | nil => exact fun D h => h
    | cons x l ih =>
      intro D h
      refine ih _ ?_
      dsimp only
      split
      · rename_i hx
        intro j hj
        rcases List.mem_cons.1 hj with rfl | hj
        · obtain ⟨d, hd, hwd⟩ := List.any_eq_true.1 hx
          obtain ⟨oj, hoj, e, he, hb, hon⟩ := Region.waitsFor_spec hwd
          cases hl : listed.getD j false with
          | false => rfl
          | true =>
            have := inv.closed j oj hoj hl e he hb
            rw [hon, h d hd] at this
            cases this
        · exact h j hj
      · exact h
  exact key _ [i] (by simpa using hi)
theorem descs_not_ready {m i : Nat} {listed : Array Bool} (inv : HeadInv .any ops m listed) (hi : listed.getD i false = false) : ∀ j, j ∈ descs ops i → j ≠ i → j ∉ Region.ready .any ops listed := by
  unfold descs
  have key : ∀ (l : List Nat) (D : List Nat), (∀ j, j ∈ D → listed.getD j false = false ∧ (j ≠ i → j ∉ Region.ready .any ops listed)) → ∀ j, j ∈ l.foldl (fun D j => if D.any fun d => Region.waitsFor .any ops j d then j :: D else D) D → listed.getD j false = false ∧ (j ≠ i → j ∉ Region.ready .any ops listed) := by
    intro l
    induction l with
    | nil => exact fun D h => h
    | cons x l ih =>
      intro D h
      refine ih _ ?_
      dsimp only
      split
      · rename_i hx
        intro j hj
        rcases List.mem_cons.1 hj with rfl | hj
        · obtain ⟨d, hd, hwd⟩ := List.any_eq_true.1 hx
          obtain ⟨oj, hoj, e, he, hb, hon⟩ := Region.waitsFor_spec hwd
          refine ⟨?_, fun _ hr => ?_⟩
          · cases hl : listed.getD j false with
            | false => rfl
            | true =>
              have := inv.closed j oj hoj hl e he hb
              rw [hon, (h d hd).1] at this
              cases this
          · obtain ⟨_, o', ho', hall⟩ := mem_ready.1 hr
            have : o' = oj := Option.some.inj (ho'.symm.trans hoj)
            subst this
            have := hall e he hb
            rw [hon, (h d hd).1] at this
            cases this
        · exact h j hj
      · exact h
  intro j hj
  exact (key _ [i] (by intro j hj; simp at hj; subst hj; exact ⟨hi, fun h => absurd rfl h⟩) j hj).2

def Jm (ops : Array Oper) (m : Nat) (listed : Array Bool) : Prop := ∀ i, i < m → listed.getD i true = false → ∀ t, m ≤ t → t ∉ Region.ready .any ops listed

/-- An operation that looks at no memory, or loads, may be taken first. -/
theorem WJ.first {m i : Nat} {oi : Oper} {v : Value} {TT : Array Bool → Act → World → Prop} {J : Array Bool → World → Prop} {J1 : World → Prop} (hi : ops[i]? = some oi) (hsel : ∀ (j : Nat) (o : Oper) cs b, ops[j]? = some o → o.op ≠ .select cs b)
    (hjm : ∀ listed, HeadInv .any ops m listed → Jm ops m listed) (him : i < m) (hdone : ∀ listed a w, TT listed a w → ∀ j, j ∈ Region.ready .any ops listed → m ≤ j)
    (hval : ∀ listed, HeadInv .any ops m listed → listed.getD i false = false → ∀ w, J (listed.setIfInBounds i true) w → J1 w) (hback : ∀ listed w, J (listed.setIfInBounds i true) w → J listed w) :
    ∀ (f : Nat) (listed : Array Bool) (a : Act) (w : World), HeadInv .any ops m listed →
      (∀ j oj, ops[j]? = some oj → j ≠ i → j < m → listed.getD j true = false → j ∈ descs ops i ∨ oi.apart ops oj = true) →
      i ∈ Region.ready .any ops listed → YJ P ops J1 oi v a →
      WJ P ops m TT J f (listed.setIfInBounds i true) (a.put oi.dst v) w → WJ P ops m TT J (f + 1) listed a w := by
  intro f
  induction f with
  | zero =>
    intro listed a w inv _ hr hy H
    have hun := (mem_ready.1 hr).1
    refine ⟨hback _ _ H.1, fun h => (by rw [h] at hr; cases hr), fun j hj => ?_⟩
    have hjn : j < m := Nat.lt_of_not_le fun h => hjm listed inv i him hun j h hj
    refine ⟨hjn, ?_⟩
    by_cases hji : j = i
    · subst hji; exact ⟨oi, hi, hy.step (hval _ inv (getD_both hun) _ H.1) H⟩
    · exact absurd (hdone _ _ _ H.2 j (ready_mono hj hji)) (by omega)
  | succ f ih =>
    intro listed a w inv hfree hr hy H
    have hun := (mem_ready.1 hr).1
    refine ⟨hback _ _ H.1, fun h => (by rw [h] at hr; cases hr), fun j hj => ?_⟩
    have hjn : j < m := Nat.lt_of_not_le fun h => hjm listed inv i him hun j h hj
    refine ⟨hjn, ?_⟩
    by_cases hji : j = i
    · subst hji; exact ⟨oi, hi, hy.step (hval _ inv (getD_both hun) _ H.1) H⟩
    · obtain ⟨hjun, oj, hoj, hall⟩ := mem_ready.1 hj
      refine ⟨oj, hoj, ?_⟩
      have hap : oi.apart ops oj = true := (hfree j oj hoj hji hjn hjun).resolve_left fun hd => descs_not_ready inv (getD_both hun) j hd hji hj
      obtain ⟨h1, h2, h3⟩ := Oper.apart_spec hap
      obtain ⟨_, oj', hoj', hst⟩ := H.2.2 j (ready_mono hj hji)
      have : oj' = oj := Option.some.inj (hoj'.symm.trans hoj)
      subst this
      have next : ∀ (u : Value) (w' : World), WJ P ops m TT J f ((listed.setIfInBounds i true).setIfInBounds j true) ((a.put oi.dst v).put oj'.dst u) w' → WJ P ops m TT J (f + 1) (listed.setIfInBounds j true) (a.put oj'.dst u) w' := by
        intro u w' hh
        refine ih (listed.setIfInBounds j true) (a.put oj'.dst u) w' (inv.set hj hjn) ?_ (ready_mono hr (Ne.symm hji)) (hy.put (fun cs b => hsel i oi cs b hi) _ _ h3) ?_
        · intro k ok hk hki hkm hunk
          refine hfree k ok hk hki hkm ?_
          by_cases hjk : j = k
          · subst hjk; exact hjun
          · rwa [getD_set_ne true hjk] at hunk
        · rw [Array.setIfInBounds_comm _ _ hji, ← Act.put_comm a v u h2]
          exact hh
      unfold stepN at hst ⊢
      rw [wanted_put oj' a oi.dst v h1, execOp_put oj' (fun cs b => hsel j oj' cs b hoj) a oi.dst v h1] at hst
      split
      · rename_i hw
        rw [if_pos hw] at hst
        split at hst
        · exact next _ _ hst
        · exact next _ _ hst
        · exact hst.mono fun e w'' ⟨r, e1, e2⟩ => ⟨r, e1, next _ _ e2⟩
        · exact hst
      · rename_i hw
        rw [if_neg hw] at hst
        exact next _ _ hst
end
end Go.Proofs.YtjhehanknkonnaaGreatDoor
set_option linter.unusedSimpArgs false
set_option linter.unusedVariables false
namespace Go.Proofs.YtjhehanknkonnaaGreatDoor
open Go.RowKit

section
variable {P : Program} {ops : Array Oper} {ro : Option Nat}

/-- What was carried out ahead of its place: number, value, what it owns. -/
structure Early where
  j : Nat
  v : Value
  r : List Res
def blocks (X : List Early) : List Res := X.flatMap Early.r

/-- The frame, with what was carried out ahead of its place. -/
structure Rel (ops : Array Oper) (X : List Early) (a a0 : Act) : Prop where
  size : a0.tmps.size = a.tmps.size
  defers : a0.defers = a.defers
  old : ∀ t, (∀ e, e ∈ X → ∀ o, ops[e.j]? = some o → o.dst ≠ some t) → a0.tmps[t]? = a.tmps[t]?
  new : ∀ e, e ∈ X → ∀ o, ops[e.j]? = some o → ∀ t, o.dst = some t → t < a.tmps.size → a0.tmps[t]? = some e.v

theorem Rel.nil {a a0 : Act} (h : Rel ops [] a a0) : a0 = a := by
  obtain ⟨t0, d0⟩ := a0
  obtain ⟨t, d⟩ := a
  obtain ⟨h1, h2, h3, _⟩ := h
  simp only at h1 h2 h3
  subst h2
  congr 1
  apply Array.ext_getElem?
  intro i
  exact h3 i (by simp)

theorem put_tmps (a : Act) (d : Option Tmp) (v : Value) (t : Nat) : (a.put d v).tmps[t]? = if d = some t then (if t < a.tmps.size then some v else none) else a.tmps[t]? := by
  cases d with
  | none => simp [Act.put]
  | some d =>
    simp only [Act.put, Option.some.injEq]
    by_cases h : d = t
    · subst h
      rw [if_pos rfl]
      split
      · simp [*]
      · simp [*]
    · rw [if_neg h, Array.getElem?_setIfInBounds_ne h]
theorem put_size (a : Act) (d : Option Tmp) (v : Value) : (a.put d v).tmps.size = a.tmps.size := by cases d <;> simp [Act.put]
theorem put_defers' (a : Act) (d : Option Tmp) (v : Value) : (a.put d v).defers = a.defers := by cases d <;> rfl

/-- One more, ahead of its place. -/
theorem Rel.early {X : List Early} {a a0 : Act} {e : Early} {o : Oper} (h : Rel ops X a a0) (ho : ops[e.j]? = some o) (hd : ∀ e', e' ∈ X → ∀ o', ops[e'.j]? = some o' → ∀ d, o.dst = some d → o'.dst ≠ some d) : Rel ops (e :: X) a (a0.put o.dst e.v) := by
  refine ⟨by rw [put_size]; exact h.size, by rw [put_defers']; exact h.defers, fun t ht => ?_, fun e' he' o' ho' t ht htl => ?_⟩
  · rw [put_tmps, if_neg (ht e (.head _) o ho)]
    exact h.old t fun e' he' => ht e' (.tail _ he')
  · rw [put_tmps]
    rcases List.mem_cons.1 he' with rfl | he'
    · have : o' = o := Option.some.inj (ho'.symm.trans ho)
      subst this
      rw [if_pos ht, if_pos (by rw [h.size]; exact htl)]
    · rw [if_neg (fun e1 => hd e' he' o' ho' t e1 ht)]
      exact h.new e' he' o' ho' t ht htl
/-- Its place comes. -/
theorem Rel.pop {X Y : List Early} {a a0 : Act} {e : Early} {o : Oper} (h : Rel ops X a a0) (hp : X.Perm (e :: Y)) (ho : ops[e.j]? = some o) (hd : ∀ e', e' ∈ Y → ∀ o', ops[e'.j]? = some o' → ∀ d, o.dst = some d → o'.dst ≠ some d) : Rel ops Y (a.put o.dst e.v) a0 := by
  refine ⟨by rw [put_size]; exact h.size, by rw [put_defers']; exact h.defers, fun t ht => ?_, fun e' he' o' ho' t ht htl => ?_⟩
  · rw [put_tmps]
    split
    · rename_i e1
      split
      · rename_i hl
        exact h.new e (hp.mem_iff.2 (.head _)) o ho t e1 hl
      · rename_i hl
        have : ¬ t < a0.tmps.size := by rw [h.size]; exact hl
        simp [this]
    · rename_i e1
      refine h.old t fun e' he' o' ho' => ?_
      rcases List.mem_cons.1 (hp.mem_iff.1 he') with rfl | he'
      · have : o' = o := Option.some.inj (ho'.symm.trans ho)
        subst this; exact e1
      · exact ht e' he' o' ho'
  · rw [put_size] at htl
    exact h.new e' (hp.mem_iff.2 (.tail _ he')) o' ho' t ht htl
/-- A step in its place. -/
theorem Rel.step {X : List Early} {a a0 : Act} {o : Oper} (h : Rel ops X a a0) (u : Value) (hd : ∀ e', e' ∈ X → ∀ o', ops[e'.j]? = some o' → ∀ d, o.dst = some d → o'.dst ≠ some d) : Rel ops X (a.put o.dst u) (a0.put o.dst u) := by
  refine ⟨by rw [put_size, put_size]; exact h.size, by rw [put_defers', put_defers']; exact h.defers, fun t ht => ?_, fun e' he' o' ho' t ht htl => ?_⟩
  · rw [put_tmps, put_tmps, h.size, h.old t ht]
  · rw [put_size] at htl
    rw [put_tmps, if_neg (fun e1 => hd e' he' o' ho' t e1 ht)]
    exact h.new e' he' o' ho' t ht htl

theorem Rel.look {X : List Early} {a a0 : Act} {o : Oper} (h : Rel ops X a a0) (hd : ∀ e', e' ∈ X → ∀ o', ops[e'.j]? = some o' → ∀ d, o'.dst = some d → d ∉ o.looksAt ops) :
    ∀ t, t ∈ o.looksAt ops → a0.tmps[t]? = a.tmps[t]? := fun t ht => h.old t fun e he o' ho' hd' => hd e he o' ho' t hd' ht
theorem exec_look {a a0 : Act} {o : Oper} (hs : ∀ cs b, o.op ≠ .select cs b) (h : ∀ t, t ∈ o.looksAt ops → a0.tmps[t]? = a.tmps[t]?) : execOp a0.eval o = execOp a.eval o :=
  execOp_congr o hs fun x hx => by
    cases x with
    | tmp t =>
      have : t ∈ o.looksAt ops := List.mem_append_left _ (List.mem_filterMap.2 ⟨.tmp t, by simpa using hx, rfl⟩)
      simp [Act.eval, Array.getD_eq_getD_getElem?, h t this]
    | const v => rfl
    | global g => rfl
    | func f => rfl
theorem wanted_look {a a0 : Act} {o : Oper} (h : ∀ t, t ∈ o.looksAt ops → a0.tmps[t]? = a.tmps[t]?) : Region.wanted o (yielded ops a0.tmps) = Region.wanted o (yielded ops a.tmps) := by
  unfold Region.wanted
  cases hg : o.guard with
  | none => rfl
  | some gw =>
    obtain ⟨g, want⟩ := gw
    have hy : yielded ops a0.tmps g = yielded ops a.tmps g := by
      unfold yielded
      cases ht : (ops[g]?).bind (·.dst) with
      | none => rfl
      | some t =>
        have : a0.tmps[t]? = a.tmps[t]? := h t (by simp [Oper.looksAt, hg, ht])
        simp [this]
    simp only [hy]

/-- What is known of an operation that was carried out ahead of its place, or may be. -/
def Did (P : Program) (ops : Array Oper) (k : Nat) (o : Oper) (a : Act) (v : Value) (r : List Res) : Prop :=
  (Region.wanted o (yielded ops a.tmps) = true ∧ ((k = 0 ∧ r = [] ∧ ∀ w, (execOp a.eval o).run P w = .ok (.value v) w) ∨ (k = 2 ∧ ∃ val obj b, AllocsTo P o a.eval val obj ∧ v = val b ∧ r = [.blk b obj])))
  ∨ (Region.wanted o (yielded ops a.tmps) = false ∧ v = undef ∧ r = [])
theorem Did.look {k : Nat} {o : Oper} {a a0 : Act} {v : Value} {r : List Res} (hs : ∀ cs b, o.op ≠ .select cs b) (h : ∀ t, t ∈ o.looksAt ops → a0.tmps[t]? = a.tmps[t]?) (hd : Did P ops k o a v r) : Did P ops k o a0 v r := by
  unfold Did AllocsTo at *
  rw [exec_look hs h, wanted_look h]
  exact hd

/-- The pairs of an order of ours: whatever may come before i though it stands behind it. -/
def allowed (k k' : Nat) : Bool := match k with
  | 0 | 1 => true
  | _ => k' == 0 || k' == 2
def ssa (ops : Array Oper) (x y : Oper) : Bool := match y.dst with
  | some d => !(x.looksAt ops).contains d && x.dst != some d
  | none => true
theorem ssa_spec {x y : Oper} (h : ssa ops x y = true) : ∀ d, y.dst = some d → d ∉ x.looksAt ops ∧ x.dst ≠ some d := by
  intro d hd
  simp [ssa, hd] at h
  exact h
def pairB (ops : Array Oper) (D : List Nat) (x : Oper) (k : Nat) (p : Nat × Nat) : Bool := match ops[p.1]? with
  | some y => ssa ops x y && (D.contains p.1 || (x.apart ops y && allowed k p.2))
  | none => false
def selfB (ops : Array Oper) (x : Oper) : Bool := match x.dst with
  | some d => !(x.looksAt ops).contains d
  | none => true
theorem selfB_spec {x : Oper} (h : selfB ops x = true) : ∀ d, x.dst = some d → d ∉ x.looksAt ops := by
  intro d hd
  simp [selfB, hd] at h
  exact h
def walkB (ops : Array Oper) (g m : Nat) : List (Nat × Nat) → Array Bool → Bool
  | [], listed => Region.seqB .any ops g m listed
  | (i, k) :: π, listed => (match ops[i]? with
    | some x => selfB ops x && (let D := descs ops i; π.all (pairB ops D x k))
    | none => false) && (Region.ready .any ops listed).contains i && decide (i < m) && walkB ops g m π (listed.setIfInBounds i true)

/-- What the check of an order says. -/
structure Ord (ops : Array Oper) (m : Nat) (i k : Nat) (x : Oper) (π : List (Nat × Nat)) : Prop where
  at_ : ops[i]? = some x
  lt : i < m
  self : ∀ d, x.dst = some d → d ∉ x.looksAt ops
  pair : ∀ p, p ∈ π → ∃ y, ops[p.1]? = some y ∧ (∀ d, y.dst = some d → d ∉ x.looksAt ops ∧ x.dst ≠ some d) ∧ (p.1 ∈ descs ops i ∨ (x.apart ops y = true ∧ allowed k p.2 = true))
theorem Ord.of {g m i k : Nat} {π : List (Nat × Nat)} {listed : Array Bool} (h : walkB ops g m ((i, k) :: π) listed = true) :
    (∃ x, Ord ops m i k x π) ∧ i ∈ Region.ready .any ops listed ∧ walkB ops g m π (listed.setIfInBounds i true) = true := by
  simp only [walkB, Bool.and_eq_true, decide_eq_true_eq, List.contains_iff_mem] at h
  obtain ⟨⟨⟨h1, h2⟩, h3⟩, h4⟩ := h
  refine ⟨?_, h2, h4⟩
  split at h1
  · rename_i x hx
    simp only [Bool.and_eq_true, List.all_eq_true] at h1
    refine ⟨x, hx, h3, selfB_spec h1.1, fun p hp => ?_⟩
    have := h1.2 p hp
    unfold pairB at this
    split at this
    · rename_i y hy
      simp only [Bool.and_eq_true, Bool.or_eq_true, List.contains_iff_mem] at this
      exact ⟨y, hy, ssa_spec this.1, this.2⟩
    · cases this
  · cases h1

/-- The order that is left, and where the regions stands. -/
structure At (ops : Array Oper) (g m : Nat) (π : List (Nat × Nat)) (X : List Early) (can listed : Array Bool) : Prop where
  chk : walkB ops g m π can = true
  inv : HeadInv .any ops m listed
  can_le : ∀ i, can.getD i false = true → listed.getD i false = true
  size : can.size = ops.size
  left : ∀ i, i < m → (listed.getD i true = false ↔ (∃ k, (i, k) ∈ π) ∧ ∀ e, e ∈ X → e.j ≠ i)
  nodup : (π.map Prod.fst).Nodup
  xin : ∀ e, e ∈ X → ∃ k, (e.j, k) ∈ π ∧ (k = 0 ∨ k = 2)
  xnd : (X.map Early.j).Nodup
  cl : ∀ i, i < m → (can.getD i true = false ↔ ∃ k, (i, k) ∈ π)
  ct : ∀ t, m ≤ t → t < ops.size → can.getD t true = false

theorem getD_set_self {l : Array Bool} {i : Nat} (d : Bool) (h : i < l.size) : (l.setIfInBounds i true).getD i d = true := by
  simp [h]
theorem getD_true_of {l : Array Bool} {i : Nat} (h : i < l.size) (h1 : ¬ l.getD i true = false) : l.getD i false = true := by
  simp [h] at h1 ⊢; exact h1

variable {g m i k : Nat} {π : List (Nat × Nat)} {X : List Early} {can listed : Array Bool} {x : Oper}
theorem At.unl (h : At ops g m ((i, k) :: π) X can listed) (hx : ∀ e, e ∈ X → e.j ≠ i) (him : i < m) : listed.getD i true = false := (h.left i him).2 ⟨⟨k, .head _⟩, hx⟩
theorem At.ready (h : At ops g m ((i, k) :: π) X can listed) (hx : ∀ e, e ∈ X → e.j ≠ i) (him : i < m) : i ∈ Region.ready .any ops listed := by
  obtain ⟨_, h2, _⟩ := Ord.of h.chk
  obtain ⟨_, o, ho, hall⟩ := mem_ready.1 h2
  exact mem_ready.2 ⟨h.unl hx him, o, ho, fun e he hb => h.can_le _ (hall e he hb)⟩
theorem At.notin (h : At ops g m ((i, k) :: π) X can listed) : ∀ k', (i, k') ∉ π := fun k' hm => by
  have := h.nodup
  simp only [List.map_cons, List.nodup_cons] at this
  exact this.1 (List.mem_map.2 ⟨_, hm, rfl⟩)
theorem At.cl_set (h : At ops g m ((i, k) :: π) X can listed) (him : i < m) : (∀ j, j < m → ((can.setIfInBounds i true).getD j true = false ↔ ∃ k, (j, k) ∈ π)) ∧ ∀ t, m ≤ t → t < ops.size → (can.setIfInBounds i true).getD t true = false := by
  obtain ⟨⟨x, hx⟩, _, _⟩ := Ord.of h.chk
  have hlt : i < can.size := by rw [h.size]; exact (Array.getElem?_eq_some_iff.1 hx.at_).1
  refine ⟨fun j hj => ?_, fun t ht ht' => by rw [getD_set_ne true (by omega)]; exact h.ct t ht ht'⟩
  by_cases e : i = j
  · subst e
    rw [getD_set_self _ hlt]
    constructor
    · intro hh; cases hh
    · rintro ⟨k', hk'⟩; exact absurd hk' (h.notin k')
  · rw [getD_set_ne true e, h.cl j hj]
    constructor
    · rintro ⟨k', hk'⟩
      rcases List.mem_cons.1 hk' with h4 | h4
      · cases h4; exact absurd rfl e
      · exact ⟨k', h4⟩
    · rintro ⟨k', hk'⟩; exact ⟨k', .tail _ hk'⟩
theorem At.step (h : At ops g m ((i, k) :: π) X can listed) (hx : ∀ e, e ∈ X → e.j ≠ i) (him : i < m) : At ops g m π X (can.setIfInBounds i true) (listed.setIfInBounds i true) := by
  have hr := h.ready hx him
  obtain ⟨_, _, h3⟩ := Ord.of h.chk
  have hni := h.notin
  refine ⟨h3, h.inv.set hr him, fun j hj => ?_, by simp [h.size], fun j hjm => ?_, ?_, fun e he => ?_, h.xnd, (h.cl_set him).1, (h.cl_set him).2⟩
  · by_cases e : i = j
    · subst e
      refine getD_set_self _ ?_
      rw [h.inv.size]
      obtain ⟨_, o, ho, _⟩ := mem_ready.1 hr
      exact (Array.getElem?_eq_some_iff.1 ho).1
    · rw [getD_set_ne false e] at hj ⊢
      exact h.can_le j hj
  · by_cases e : i = j
    · subst e
      constructor
      · intro hh
        have hlt : i < listed.size := by
          rw [h.inv.size]
          obtain ⟨_, o, ho, _⟩ := mem_ready.1 hr
          exact (Array.getElem?_eq_some_iff.1 ho).1
        rw [getD_set_self _ hlt] at hh; cases hh
      · rintro ⟨⟨k', hk'⟩, _⟩
        exact absurd hk' (hni k')
    · rw [getD_set_ne true e, h.left j hjm]
      constructor
      · rintro ⟨⟨k', hk'⟩, h2⟩
        rcases List.mem_cons.1 hk' with h4 | h4
        · cases h4; exact absurd rfl e
        · exact ⟨⟨k', h4⟩, h2⟩
      · rintro ⟨⟨k', hk'⟩, h2⟩
        exact ⟨⟨k', .tail _ hk'⟩, h2⟩
  · have := h.nodup
    simp only [List.map_cons, List.nodup_cons] at this
    exact this.2
  · obtain ⟨k', hk', hk2⟩ := h.xin e he
    rcases List.mem_cons.1 hk' with h4 | h4
    · cases h4; exact absurd rfl (hx e he)
    · exact ⟨k', h4, hk2⟩
theorem At.pop {Y : List Early} {e : Early} (h : At ops g m ((e.j, k) :: π) X can listed) (hp : X.Perm (e :: Y)) (him : e.j < m) : At ops g m π Y (can.setIfInBounds e.j true) listed := by
  obtain ⟨⟨x, hx⟩, _, h3⟩ := Ord.of h.chk
  have hni := h.notin
  have hnd := (hp.map Early.j).nodup_iff.1 h.xnd
  simp only [List.map_cons, List.nodup_cons] at hnd
  have hne : ∀ e', e' ∈ Y → e'.j ≠ e.j := fun e' he' hh => hnd.1 (List.mem_map.2 ⟨e', he', hh⟩)
  have hlt : e.j < ops.size := (Array.getElem?_eq_some_iff.1 hx.at_).1
  refine ⟨h3, h.inv, fun j hj => ?_, by simp [h.size], fun j hjm => ?_, ?_, fun e' he' => ?_, hnd.2, (h.cl_set him).1, (h.cl_set him).2⟩
  · by_cases e1 : e.j = j
    · subst e1
      refine getD_true_of (by rw [h.inv.size]; exact hlt) fun hh => ?_
      exact ((h.left _ him).1 hh).2 e (hp.mem_iff.2 (.head _)) rfl
    · rw [getD_set_ne false e1] at hj
      exact h.can_le j hj
  · rw [h.left j hjm]
    constructor
    · rintro ⟨⟨k', hk'⟩, h2⟩
      have hej := h2 e (hp.mem_iff.2 (.head _))
      rcases List.mem_cons.1 hk' with h4 | h4
      · cases h4; exact absurd rfl hej
      · exact ⟨⟨k', h4⟩, fun e' he' => h2 e' (hp.mem_iff.2 (.tail _ he'))⟩
    · rintro ⟨⟨k', hk'⟩, h2⟩
      refine ⟨⟨k', .tail _ hk'⟩, fun e' he' => ?_⟩
      rcases List.mem_cons.1 (hp.mem_iff.1 he') with rfl | he'
      · intro hh; subst hh; exact hni k' hk'
      · exact h2 e' he'
  · have := h.nodup
    simp only [List.map_cons, List.nodup_cons] at this
    exact this.2
  · obtain ⟨k', hk', hk2⟩ := h.xin e' (hp.mem_iff.2 (.tail _ he'))
    rcases List.mem_cons.1 hk' with h4 | h4
    · exact absurd (congrArg Prod.fst h4) (hne e' he')
    · exact ⟨k', h4, hk2⟩
theorem At.early {e : Early} {k' : Nat} (h : At ops g m π X can listed) (hr : e.j ∈ Region.ready .any ops listed) (hjm : e.j < m) (hin : (e.j, k') ∈ π) (hk : k' = 0 ∨ k' = 2) : At ops g m π (e :: X) can (listed.setIfInBounds e.j true) := by
  have hun := (mem_ready.1 hr).1
  have hlt : e.j < listed.size := by
    rw [h.inv.size]
    obtain ⟨_, o, ho, _⟩ := mem_ready.1 hr
    exact (Array.getElem?_eq_some_iff.1 ho).1
  refine ⟨h.chk, h.inv.set hr hjm, fun j hj => getD_set_true (h.can_le j hj), h.size, fun j hj => ?_, h.nodup, fun e' he' => ?_, ?_, h.cl, h.ct⟩
  · by_cases e1 : e.j = j
    · subst e1
      rw [getD_set_self _ hlt]
      constructor
      · intro hh; cases hh
      · rintro ⟨_, h2⟩; exact absurd rfl (h2 e (.head _))
    · rw [getD_set_ne true e1, h.left j hj]
      constructor
      · rintro ⟨h1, h2⟩
        refine ⟨h1, fun e' he' => ?_⟩
        rcases List.mem_cons.1 he' with rfl | he'
        · exact e1
        · exact h2 e' he'
      · rintro ⟨h1, h2⟩
        exact ⟨h1, fun e' he' => h2 e' (.tail _ he')⟩
  · rcases List.mem_cons.1 he' with rfl | he'
    · exact ⟨k', hin, hk⟩
    · exact h.xin e' he'
  · simp only [List.map_cons, List.nodup_cons]
    refine ⟨fun hh => ?_, h.xnd⟩
    obtain ⟨e', he', hh⟩ := List.mem_map.1 hh
    exact ((h.left _ hjm).1 hun).2 e' he' hh

/-- Slots of what was carried out ahead of its place, seen from an operation that stands before. -/
theorem At.xap (h : At ops g m ((i, k) :: π) X can listed) (hx : ∀ e, e ∈ X → e.j ≠ i) (o : Ord ops m i k x π) : ∀ e, e ∈ X → ∀ o', ops[e.j]? = some o' → (∀ d, o'.dst = some d → d ∉ x.looksAt ops ∧ x.dst ≠ some d) ∧ x.apart ops o' = true := by
  intro e he o' ho'
  obtain ⟨k', hk', _⟩ := h.xin e he
  have hin : (e.j, k') ∈ π := by
    rcases List.mem_cons.1 hk' with h4 | h4
    · cases h4; exact absurd rfl (hx e he)
    · exact h4
  obtain ⟨y, hy, h1, h2⟩ := o.pair _ hin
  have : y = o' := Option.some.inj (hy.symm.trans ho')
  subst this
  refine ⟨h1, h2.elim (fun hd => ?_) And.left⟩
  have hun := h.unl hx o.lt
  have h5 := descs_unlisted h.inv (getD_both hun) e.j hd
  have h6 := getD_in (i := e.j) (listed := listed) (by rw [h.inv.size]; exact (Array.getElem?_eq_some_iff.1 ho').1) h5
  exfalso
  by_cases hem : e.j < m
  · exact ((h.left _ hem).1 h6).2 e he rfl
  · -- every index of the order lies below m
    have hall : ∀ (π : List (Nat × Nat)) (can : Array Bool), walkB ops g m π can = true → ∀ p, p ∈ π → p.1 < m := by
      intro π
      induction π with
      | nil => intro can _ p hp; cases hp
      | cons q π ih =>
        obtain ⟨i', k''⟩ := q
        intro can hc p hp
        obtain ⟨⟨x', hx'⟩, _, hc'⟩ := Ord.of hc
        rcases List.mem_cons.1 hp with rfl | hp
        · exact hx'.lt
        · exact ih _ hc' p hp
    exact hem (hall _ _ h.chk _ hk')
end
end Go.Proofs.YtjhehanknkonnaaGreatDoor
set_option linter.unusedSimpArgs false
set_option linter.unusedVariables false
namespace Go.Proofs.YtjhehanknkonnaaGreatDoor
open Go.RowKit

section
variable {P : Program} {ops : Array Oper} {ro : Option Nat}

theorem blocks_perm {X Y : List Early} (p : X.Perm Y) : (blocks X).Perm (blocks Y) := p.flatMap_right _
theorem size_any (w : World) (n : Nat) : ∃ w' : World, w'.heap.size = n := ⟨{ w with heap := Array.replicate n default }, by simp⟩

/-- An operation's value is the same, wherever it is carried out. -/
theorem Did.val0 {o : Oper} {a : Act} {v v' : Value} {r : List Res} {k : Nat} (w : World) (hd : Did P ops k o a v r) (hw : Region.wanted o (yielded ops a.tmps) = true) (hk : k = 0) (h : (execOp a.eval o).run P w = .ok (.value v') w) : v = v' ∧ r = [] := by
  rcases hd with ⟨_, ⟨_, hr, h1⟩ | ⟨h2, _⟩⟩ | ⟨h1, _⟩
  · have := (h1 w).symm.trans h
    simp only [Result.ok.injEq, Next.value.injEq, and_true] at this
    exact ⟨this, hr⟩
  · omega
  · rw [hw] at h1; cases h1

theorem alloc_inj {w : World} {o o' : Obj} (h : w.alloc o = w.alloc o') : o = o' := by
  have h1 := World.alloc_heap_new w o
  have h2 := World.alloc_heap_new w o'
  rw [h] at h1
  exact (Option.some.inj (h1.symm.trans h2))

theorem Did.val2 {o : Oper} {a : Act} {v : Value} {r : List Res} {k : Nat} {val : Nat → Value} {obj : Obj} (w0 : World) (hd : Did P ops k o a v r) (hw : Region.wanted o (yielded ops a.tmps) = true) (hk : k = 2) (h : AllocsTo P o a.eval val obj) :
    ∃ b, v = val b ∧ r = [.blk b obj] := by
  rcases hd with ⟨_, ⟨h0, _⟩ | ⟨_, val', obj', b, h1, h2, h3⟩⟩ | ⟨h1, _⟩
  · omega
  · obtain ⟨w, hsz⟩ := size_any w0 b
    have e := (h1 w).symm.trans (h w)
    simp only [Result.ok.injEq, Next.value.injEq] at e
    rw [hsz] at e
    exact ⟨b, by rw [h2, e.1], by rw [h3, alloc_inj e.2]⟩
  · rw [hw] at h1; cases h1

/-- Whether an operation ahead of its place may be carried out now: the walk runs ahead and sees. -/
theorem ahead {T : Act → Fam → Prop} {g m : Nat} (hsel : ∀ (j : Nat) (o : Oper) cs b, ops[j]? = some o → o.op ≠ .select cs b) (j kj : Nat) (oj : Oper) (hj : ops[j]? = some oj) (hkj : kj = 0 ∨ kj = 2) :
    ∀ (π : List (Nat × Nat)) (J : Nat → World → Prop) (a : Act) (Φ : Fam) (X : List Early) (M : List Res) (w : World) (can listed : Array Bool) (a0 : Act),
      wpF P ops T J π a Φ → At ops g m π X can listed → Rel ops X a a0 → (∀ e, e ∈ X → ∀ k o, (e.j, k) ∈ π → ops[e.j]? = some o → Did P ops k o a0 e.v e.r) → Φ.ok (blocks X ++ M) w →
      (j, kj) ∈ π → (∀ e, e ∈ X → e.j ≠ j) → (∀ i k oi, (i, k) ∈ π → ops[i]? = some oi → (∀ e, e ∈ X → e.j ≠ i) → i ≠ j → j ∉ descs ops i) →
      (Region.wanted oj (yielded ops a0.tmps) = false) ∨ (Region.wanted oj (yielded ops a0.tmps) = true ∧ ((kj = 0 ∧ ∃ v, ∀ w, (execOp a0.eval oj).run P w = .ok (.value v) w) ∨ (kj = 2 ∧ ∃ val obj, AllocsTo P oj a0.eval val obj))) := by
  intro π
  induction π with
  | nil => intro J a Φ X M w can listed a0 _ _ _ _ _ h; cases h
  | cons p π ih =>
    obtain ⟨i, k⟩ := p
    intro J a Φ X M w can listed a0 hwp hat hrel hdid hok hin hjx hun
    obtain ⟨⟨x, hx⟩, _, _⟩ := Ord.of hat.chk
    obtain ⟨o, ho, hwp⟩ := hwp
    have : o = x := Option.some.inj (ho.symm.trans hx.at_)
    subst this
    by_cases hij : i = j
    · subst hij
      have : o = oj := Option.some.inj (ho.symm.trans hj)
      subst this
      have hkk : k = kj := by
        rcases List.mem_cons.1 hin with h4 | h4
        · cases h4; rfl
        · exact absurd h4 (hat.notin kj)
      subst hkk
      have hl := hrel.look (o := o) fun e he o' ho' d hd => ((hat.xap hjx hx e he o' ho').1 d hd).1
      have e1 := exec_look (hsel i o · · ho) hl
      have e2 := wanted_look hl
      unfold AllocsTo
      rw [e1, e2]
      split at hwp
      · rename_i hw
        refine .inr ⟨hw, ?_⟩
        rcases hkj with rfl | rfl
        · obtain ⟨v, h1, _⟩ := hwp; exact .inl ⟨rfl, v, h1⟩
        · obtain ⟨val, obj, h1, _⟩ := hwp; exact .inr ⟨rfl, val, obj, h1⟩
      · rename_i hw
        exact .inl (by simpa using hw)
    · have hin' : (j, kj) ∈ π := by
        rcases List.mem_cons.1 hin with h4 | h4
        · cases h4; exact absurd rfl hij
        · exact h4
      by_cases hxi : ∃ e, e ∈ X ∧ e.j = i
      · obtain ⟨e, he, rfl⟩ := hxi
        obtain ⟨Y, hp⟩ : ∃ Y, X.Perm (e :: Y) := by
          obtain ⟨s, t, rfl⟩ := List.append_of_mem he
          exact ⟨s ++ t, List.perm_middle⟩
        have hat' := hat.pop hp hx.lt
        have hnd := (hp.map Early.j).nodup_iff.1 hat.xnd
        simp only [List.map_cons, List.nodup_cons] at hnd
        have hne : ∀ e', e' ∈ Y → e'.j ≠ e.j := fun e' he' hh => hnd.1 (List.mem_map.2 ⟨e', he', hh⟩)
        have hY : ∀ e', e' ∈ Y → e' ∈ X := fun e' he' => hp.mem_iff.2 (.tail _ he')
        have hssa : ∀ e', e' ∈ Y → ∀ o', ops[e'.j]? = some o' → (∀ d, o'.dst = some d → d ∉ o.looksAt ops ∧ o.dst ≠ some d) := fun e' he' o' ho' => by
          obtain ⟨k', hk', _⟩ := hat'.xin e' he'
          obtain ⟨y, hy, h1, _⟩ := hx.pair _ hk'
          have : y = o' := Option.some.inj (hy.symm.trans ho')
          subst this; exact h1
        have hrel' := hrel.pop hp ho fun e' he' o' ho' d hd hd' => ((hssa e' he' o' ho') d hd').2 hd
        have hdid' : ∀ e', e' ∈ Y → ∀ k o, (e'.j, k) ∈ π → ops[e'.j]? = some o → Did P ops k o a0 e'.v e'.r := fun e' he' k o hk ho => hdid e' (hY e' he') k o (.tail _ hk) ho
        have hun' : ∀ i k oi, (i, k) ∈ π → ops[i]? = some oi → (∀ e, e ∈ Y → e.j ≠ i) → i ≠ j → j ∉ descs ops i := fun i k' oi hk' hoi hxi hij => hun i k' oi (.tail _ hk') hoi (fun e' he' => by
          rcases List.mem_cons.1 (hp.mem_iff.1 he') with rfl | he'
          · intro hh; subst hh; exact hat.notin k' hk'
          · exact hxi e' he') hij
        have hjy : ∀ e', e' ∈ Y → e'.j ≠ j := fun e' he' => hjx e' (hY e' he')
        -- the value that it has
        have hself : ∀ t, t ∈ o.looksAt ops → a0.tmps[t]? = a.tmps[t]? := hrel.look fun e' he' o' ho' d hd => by
          rcases List.mem_cons.1 (hp.mem_iff.1 he') with rfl | he'
          · have : o' = o := Option.some.inj (ho'.symm.trans ho)
            subst this; exact hx.self d hd
          · exact ((hssa e' he' o' ho') d hd).1
        have hde := (hdid e he k o (.head _) ho).look (a0 := a) (hsel e.j o · · ho) (fun t ht => (hself t ht).symm)
        have hpb : (blocks X ++ M).Perm (e.r ++ (blocks Y ++ M)) := by
          have := (blocks_perm hp).append_right M
          simpa [blocks, List.append_assoc] using this
        obtain ⟨_, _, hk2⟩ := hat.xin e he
        split at hwp
        · rename_i hw
          match k, hdid, hde, hwp with
          | 0, _, hde, ⟨v, h1, h2⟩ =>
            obtain ⟨rfl, hr⟩ := hde.val0 w hw rfl (h1 w)
            rw [hr] at hpb
            exact ih _ _ _ Y M w _ _ a0 h2 hat' hrel' hdid' (Φ.perm _ _ _ hpb hok) hin' hjy hun'
          | 1, _, hde, hwp =>
            exfalso
            rcases hde with ⟨_, ⟨h0, _⟩ | ⟨h0, _⟩⟩ | ⟨h1, _⟩
            · cases h0
            · cases h0
            · rw [hw] at h1; cases h1
          | 2, _, hde, ⟨val, obj, h1, h2⟩ =>
            obtain ⟨b, hv, hr⟩ := hde.val2 w hw rfl h1
            rw [hr] at hpb
            rw [hv] at hrel'
            exact ih _ _ _ Y M w _ _ a0 (h2 b ⟨_, w, Φ.perm _ _ _ hpb hok⟩) hat' hrel' hdid' (Φ.perm _ _ _ hpb hok) hin' hjy hun'
          | n + 3, _, hde, hwp =>
            exfalso
            rcases hde with ⟨_, ⟨h0, _⟩ | ⟨h0, _⟩⟩ | ⟨h1, _⟩
            · omega
            · omega
            · rw [hw] at h1; cases h1
        · rename_i hw
          have hv : e.v = undef ∧ e.r = [] := by
            rcases hde with ⟨h1, _⟩ | ⟨_, h1⟩
            · exact absurd h1 hw
            · exact h1
          rw [hv.2] at hpb
          rw [hv.1] at hrel'
          exact ih _ _ _ Y M w _ _ a0 hwp hat' hrel' hdid' (Φ.perm _ _ _ hpb hok) hin' hjy hun'
      · have hxi' : ∀ e, e ∈ X → e.j ≠ i := fun e he hh => hxi ⟨e, he, hh⟩
        have hat' := hat.step hxi' hx.lt
        have hap : o.apart ops oj = true := by
          obtain ⟨y, hy, _, h2⟩ := hx.pair _ hin'
          have : y = oj := Option.some.inj (hy.symm.trans hj)
          subst this
          exact (h2.resolve_left (hun i k o (.head _) ho hxi' hij)).1
        obtain ⟨ha1, ha2, ha3⟩ := Oper.apart_spec hap
        have hxa := hat.xap hxi' hx
        have hun' : ∀ i k oi, (i, k) ∈ π → ops[i]? = some oi → (∀ e, e ∈ X → e.j ≠ i) → i ≠ j → j ∉ descs ops i := fun i k' oi hk' => hun i k' oi (.tail _ hk')
        have go : ∀ (u : Value) (Ψ : Fam) (M' : List Res) (w' : World), ∀ (J' : Nat → World → Prop), wpF P ops T J' π (a.put o.dst u) Ψ → Ψ.ok (blocks X ++ M') w' → (Region.wanted oj (yielded ops a0.tmps) = false) ∨ (Region.wanted oj (yielded ops a0.tmps) = true ∧ ((kj = 0 ∧ ∃ v, ∀ w, (execOp a0.eval oj).run P w = .ok (.value v) w) ∨ (kj = 2 ∧ ∃ val obj, AllocsTo P oj a0.eval val obj))) := by
          intro u Ψ M' w' J' h1 h2
          have hrel' := hrel.step (o := o) u fun e he o' ho' d hd hd' => ((hxa e he o' ho').1 d hd').2 hd
          have := ih _ _ Ψ X M' w' _ _ (a0.put o.dst u) h1 hat' hrel' (fun e he k' o' hk' ho' => by
            have hdd := hdid e he k' o' (.tail _ hk') ho'
            obtain ⟨hb1, hb2, hb3⟩ := Oper.apart_spec (hxa e he o' ho').2
            unfold Did AllocsTo at *
            rw [execOp_put o' (hsel e.j o' · · ho') a0 o.dst u hb1, wanted_put o' a0 o.dst u hb1]
            exact hdd) h2 hin' hjx hun'
          unfold AllocsTo at this
          rw [execOp_put oj (hsel j oj · · hj) a0 o.dst u ha1, wanted_put oj a0 o.dst u ha1] at this
          exact this
        split at hwp
        · match k, hwp with
          | 0, ⟨v, h1, h2⟩ => exact go v Φ M w _ h2 hok
          | 1, ⟨v, J1, h1, _, h2⟩ => exact go v Φ M w _ h2 hok
          | 2, ⟨val, obj, h1, h2⟩ => exact go _ _ M (w.alloc obj) _ (h2 w.heap.size ⟨_, _, Φ.alc _ _ obj hok⟩) (Φ.alc _ _ obj hok)
          | 3, h2 =>
            obtain ⟨r, w', Φ', _, h3, h4⟩ := (h2 _ w hok).some
            exact go r Φ' M w' _ h4 h3
          | n + 4, ⟨_, h2⟩ =>
            obtain ⟨r, w', Φ', _, h3, h4⟩ := (h2 _ w hok).some
            exact go r Φ' M w' _ h4 h3
        · exact go undef Φ M w _ hwp hok

theorem At.done {g m : Nat} {can listed : Array Bool} (h : At ops g m [] [] can listed) : listed = can := by
  apply Array.ext (by rw [h.inv.size, h.size])
  intro i h1 h2
  have e1 : listed.getD i true = listed[i] := by simp [h1]
  have e2 : can.getD i true = can[i] := by simp [h2]
  rw [← e1, ← e2]
  by_cases him : i < m
  · have a1 : ¬ listed.getD i true = false := fun hh => by obtain ⟨⟨k, hk⟩, _⟩ := (h.left i him).1 hh; cases hk
    have a2 : ¬ can.getD i true = false := fun hh => by obtain ⟨k, hk⟩ := (h.cl i him).1 hh; cases hk
    simp only [Bool.not_eq_false] at a1 a2
    rw [a1, a2]
  · rw [h.inv.tail i (by omega) (by rw [← h.inv.size]; exact h1), h.ct i (by omega) (by rw [← h.size]; exact h2)]

theorem order_lt {g m : Nat} : ∀ (π : List (Nat × Nat)) (can : Array Bool), walkB ops g m π can = true → ∀ p, p ∈ π → p.1 < m := by
  intro π
  induction π with
  | nil => intro can _ p hp; cases hp
  | cons q π ih =>
    obtain ⟨i', k''⟩ := q
    intro can hc p hp
    obtain ⟨⟨x', hx'⟩, _, hc'⟩ := Ord.of hc
    rcases List.mem_cons.1 hp with rfl | hp
    · exact hx'.lt
    · exact ih _ hc' p hp


theorem nodup_len : ∀ (l : List Nat), l.Nodup → ∀ l' : List Nat, (∀ x, x ∈ l → x ∈ l') → l.length ≤ l'.length := by
  intro l
  induction l with
  | nil => intro _ l' _; exact Nat.zero_le _
  | cons x t ih =>
    intro hn l' hs
    obtain ⟨s, r, rfl⟩ := List.append_of_mem (hs x (.head _))
    have hn' := List.nodup_cons.1 hn
    have := ih hn'.2 (s ++ r) fun y hy => by
      have := hs y (.tail _ hy)
      simp only [List.mem_append, List.mem_cons] at this ⊢
      rcases this with h | rfl | h
      · exact .inl h
      · exact absurd hy hn'.1
      · exact .inr h
    simp only [List.length_append, List.length_cons] at this ⊢
    omega

/-- What has to hold while a region is under way: what each load rests on, but where an operation that waits for it has been carried out (of those that ch names). -/
def JW (ops : Array Oper) (ch : Nat → Bool) (J : Nat → World → Prop) (listed : Array Bool) (w : World) : Prop := ∀ p, (∃ d, d ∈ descs ops p ∧ ch d = true ∧ listed.getD d false = true) ∨ J p w
theorem JW.val {m i : Nat} {ch : Nat → Bool} {J : Nat → World → Prop} (hc : ch i = false) {listed : Array Bool} (inv : HeadInv .any ops m listed) (hun : listed.getD i false = false) {w : World} (h : JW ops ch J (listed.setIfInBounds i true) w) : J i w := by
  rcases h i with ⟨d, hd, h1, h2⟩ | h
  · exfalso
    have hne : i ≠ d := fun e => by subst e; rw [hc] at h1; cases h1
    rw [getD_set_ne false hne, descs_unlisted inv hun d hd] at h2
    cases h2
  · exact h
theorem JW.back {i : Nat} {ch : Nat → Bool} {J : Nat → World → Prop} (hc : ch i = false) {listed : Array Bool} {w : World} (h : JW ops ch J (listed.setIfInBounds i true) w) : JW ops ch J listed w := fun p => (h p).imp (fun ⟨d, hd, h1, h2⟩ => by
  have hne : i ≠ d := fun e => by subst e; rw [hc] at h1; cases h1
  rw [getD_set_ne false hne] at h2
  exact ⟨d, hd, h1, h2⟩) id

theorem pop_case {T : Act → Fam → Prop} {TT : Array Bool → Act → World → Prop} {g m k : Nat} {π : List (Nat × Nat)} (hsel : ∀ (j : Nat) (o : Oper) cs b, ops[j]? = some o → o.op ≠ .select cs b)
    (hjm : ∀ listed, HeadInv .any ops m listed → Jm ops m listed) (hdone : ∀ listed a w, TT listed a w → ∀ j, j ∈ Region.ready .any ops listed → m ≤ j)
    (hT : ∀ listed a Φ M w, Region.seqB .any ops g m listed = true → T a Φ → Φ.ok M w → TT listed a w)
    (ih : ∀ (ch : Nat → Bool) (J : Nat → World → Prop) (f : Nat) (a : Act) (Φ : Fam) (X : List Early) (M : List Res) (w : World) (can listed : Array Bool) (a0 : Act), f + X.length = π.length → (∀ p, p ∈ π → ch p.1 = true) →
      (∀ w, Φ.J w → ∀ p, J p w) → wpF P ops T J π a Φ → At ops g m π X can listed → Rel ops X a a0 → (∀ e, e ∈ X → ∀ k o, (e.j, k) ∈ π → ops[e.j]? = some o → Did P ops k o a0 e.v e.r) → Φ.ok (blocks X ++ M) w →
      WJ P ops m TT (JW ops ch J) f listed a0 w) {f : Nat} (ch : Nat → Bool) (J : Nat → World → Prop) (a : Act) (Φ : Fam) (X : List Early) (M : List Res) (w : World) (can listed : Array Bool) (a0 : Act) {i : Nat} (hf : f + X.length = π.length + 1) {o : Oper}
    (hch : ∀ p, p ∈ ((i, k) :: π) → ch p.1 = true) (hJ : ∀ w, Φ.J w → ∀ p, J p w) (hwp : wpF P ops T J ((i, k) :: π) a Φ)
    (hat : At ops g m ((i, k) :: π) X can listed) (hrel : Rel ops X a a0) (hdid : ∀ e, e ∈ X → ∀ k' o, (e.j, k') ∈ ((i, k) :: π) → ops[e.j]? = some o → Did P ops k' o a0 e.v e.r) (hok : Φ.ok (blocks X ++ M) w)
    (e : Early) (he : e ∈ X) (hei : e.j = i) (ho : ops[i]? = some o) (hx : Ord ops m i k o π) : WJ P ops m TT (JW ops ch J) f listed a0 w := by
  subst hei
  obtain ⟨o', ho', hwp⟩ := hwp
  have : o = o' := Option.some.inj (ho.symm.trans ho')
  subst this
  clear ho'
  obtain ⟨Y, hp⟩ : ∃ Y, X.Perm (e :: Y) := by
    obtain ⟨s, t, rfl⟩ := List.append_of_mem he
    exact ⟨s ++ t, List.perm_middle⟩
  have hat' := hat.pop hp hx.lt
  have hnd := (hp.map Early.j).nodup_iff.1 hat.xnd
  simp only [List.map_cons, List.nodup_cons] at hnd
  have hY : ∀ e', e' ∈ Y → e' ∈ X := fun e' he' => hp.mem_iff.2 (.tail _ he')
  have hssa : ∀ e', e' ∈ Y → ∀ o', ops[e'.j]? = some o' → (∀ d, o'.dst = some d → d ∉ o.looksAt ops ∧ o.dst ≠ some d) := fun e' he' o' ho' => by
    obtain ⟨k', hk', _⟩ := hat'.xin e' he'
    obtain ⟨y, hy, h1, _⟩ := hx.pair _ hk'
    have : y = o' := Option.some.inj (hy.symm.trans ho')
    subst this; exact h1
  have hrel' := hrel.pop hp ho fun e' he' o' ho' d hd hd' => ((hssa e' he' o' ho') d hd').2 hd
  have hdid' : ∀ e', e' ∈ Y → ∀ k o, (e'.j, k) ∈ π → ops[e'.j]? = some o → Did P ops k o a0 e'.v e'.r := fun e' he' k o hk ho => hdid e' (hY e' he') k o (.tail _ hk) ho
  have hself : ∀ t, t ∈ o.looksAt ops → a0.tmps[t]? = a.tmps[t]? := hrel.look fun e' he' o' ho' d hd => by
    rcases List.mem_cons.1 (hp.mem_iff.1 he') with rfl | he'
    · have : o' = o := Option.some.inj (ho'.symm.trans ho)
      subst this; exact hx.self d hd
    · exact ((hssa e' he' o' ho') d hd).1
  have hde := (hdid e he k o (.head _) ho).look (a0 := a) (hsel e.j o · · ho) (fun t ht => (hself t ht).symm)
  have hpb : (blocks X ++ M).Perm (e.r ++ (blocks Y ++ M)) := by
    have := (blocks_perm hp).append_right M
    simpa [blocks, List.append_assoc] using this
  have hf' : f + Y.length = π.length := by
    have := hp.length_eq
    simp only [List.length_cons] at this
    omega
  split at hwp
  · rename_i hw
    match k, hde, hwp with
    | 0, hde, ⟨v, h1, h2⟩ =>
      obtain ⟨rfl, hr⟩ := hde.val0 w hw rfl (h1 w)
      rw [hr] at hpb
      exact ih ch J f _ _ Y M w _ _ a0 hf' (fun p hp => hch p (.tail _ hp)) hJ h2 hat' hrel' hdid' (Φ.perm _ _ _ hpb hok)
    | 1, hde, hwp =>
      exfalso
      rcases hde with ⟨_, ⟨h0, _⟩ | ⟨h0, _⟩⟩ | ⟨h1, _⟩
      · cases h0
      · cases h0
      · rw [hw] at h1; cases h1
    | 2, hde, ⟨val, obj, h1, h2⟩ =>
      obtain ⟨b, hv, hr⟩ := hde.val2 w hw rfl h1
      rw [hr] at hpb
      rw [hv] at hrel'
      exact ih ch J f _ (Φ.add (.blk b obj)) Y M w _ _ a0 hf' (fun p hp => hch p (.tail _ hp)) (fun w ⟨M, h⟩ => hJ w ⟨_, h⟩) (h2 b ⟨_, w, Φ.perm _ _ _ hpb hok⟩) hat' hrel' hdid' (Φ.perm _ _ _ hpb hok)
    | n + 3, hde, hwp =>
      exfalso
      rcases hde with ⟨_, ⟨h0, _⟩ | ⟨h0, _⟩⟩ | ⟨h1, _⟩
      · omega
      · omega
      · rw [hw] at h1; cases h1
  · rename_i hw
    have hv : e.v = undef ∧ e.r = [] := by
      rcases hde with ⟨h1, _⟩ | ⟨_, h1⟩
      · exact absurd h1 hw
      · exact h1
    rw [hv.2] at hpb
    rw [hv.1] at hrel'
    exact ih ch J f _ _ Y M w _ _ a0 hf' (fun p hp => hch p (.tail _ hp)) hJ hwp hat' hrel' hdid' (Φ.perm _ _ _ hpb hok)

set_option maxHeartbeats 1000000 in
theorem orders {T : Act → Fam → Prop} {TT : Array Bool → Act → World → Prop} {g m : Nat} (hsel : ∀ (j : Nat) (o : Oper) cs b, ops[j]? = some o → o.op ≠ .select cs b)
    (hjm : ∀ listed, HeadInv .any ops m listed → Jm ops m listed) (hdone : ∀ listed a w, TT listed a w → ∀ j, j ∈ Region.ready .any ops listed → m ≤ j)
    (hT : ∀ listed a Φ M w, Region.seqB .any ops g m listed = true → T a Φ → Φ.ok M w → TT listed a w) :
    ∀ (π : List (Nat × Nat)) (ch : Nat → Bool) (J : Nat → World → Prop) (f : Nat) (a : Act) (Φ : Fam) (X : List Early) (M : List Res) (w : World) (can listed : Array Bool) (a0 : Act), f + X.length = π.length → (∀ p, p ∈ π → ch p.1 = true) →
      (∀ w, Φ.J w → ∀ p, J p w) → wpF P ops T J π a Φ → At ops g m π X can listed → Rel ops X a a0 → (∀ e, e ∈ X → ∀ k o, (e.j, k) ∈ π → ops[e.j]? = some o → Did P ops k o a0 e.v e.r) → Φ.ok (blocks X ++ M) w →
      WJ P ops m TT (JW ops ch J) f listed a0 w := by
  intro π
  induction π with
  | nil =>
    intro ch J f a Φ X M w can listed a0 hf hch hJ hwp hat hrel hdid hok
    obtain rfl : X = [] := List.eq_nil_of_length_eq_zero (by simp only [List.length_nil] at hf; omega)
    obtain rfl : f = 0 := by simp only [List.length_nil] at hf; omega
    obtain rfl := hrel.nil
    obtain rfl := hat.done
    exact ⟨fun p => .inr (hJ _ ⟨_, hok⟩ p), hT _ _ Φ _ w hat.chk hwp hok⟩
  | cons p π ih =>
    obtain ⟨i, k⟩ := p
    intro ch J f
    induction f with
    | zero =>
      intro a Φ X M w can listed a0 hf hch hJ hwp hat hrel hdid hok
      -- all of the order was carried out ahead
      obtain ⟨⟨x, hx⟩, _, _⟩ := Ord.of hat.chk
      have ho := hx.at_
      obtain ⟨e, he, rfl⟩ : ∃ e, e ∈ X ∧ e.j = i := by
        refine Classical.byContradiction fun hno => ?_
        have hsub : ∀ e, e ∈ X → e.j ∈ π.map Prod.fst := fun e he => by
          obtain ⟨k', hk', _⟩ := hat.xin e he
          rcases List.mem_cons.1 hk' with h4 | h4
          · exact absurd ⟨e, he, congrArg Prod.fst h4⟩ hno
          · exact List.mem_map.2 ⟨_, h4, rfl⟩
        have hle := nodup_len _ hat.xnd _ (fun j hj => by obtain ⟨e, he, rfl⟩ := List.mem_map.1 hj; exact hsub e he)
        simp only [List.length_map, List.length_cons] at hle hf
        omega
      exact pop_case hsel hjm hdone hT ih ch J a Φ X M w can listed a0 (by simpa using hf) hch hJ hwp hat hrel hdid hok e he rfl ho hx
    | succ f ihf =>
      intro a Φ X M w can listed a0 hf hch hJ hwp hat hrel hdid hok
      obtain ⟨⟨x, hx⟩, _, _⟩ := Ord.of hat.chk
      have ho := hx.at_
      by_cases hxi : ∃ e, e ∈ X ∧ e.j = i
      · obtain ⟨e, he, rfl⟩ := hxi
        exact pop_case hsel hjm hdone hT ih ch J a Φ X M w can listed a0 (by simpa using hf) hch hJ hwp hat hrel hdid hok e he rfl ho hx
      · have hxi' : ∀ e, e ∈ X → e.j ≠ i := fun e he hh => hxi ⟨e, he, hh⟩
        have hwp0 := hwp
        obtain ⟨o, ho', hwp⟩ := hwp
        have : o = x := Option.some.inj (ho'.symm.trans ho)
        subst this
        have hat' := hat.step hxi' hx.lt
        have hr := hat.ready hxi' hx.lt
        have hxa := hat.xap hxi' hx
        have hf' : f + X.length = π.length := by simp only [List.length_cons] at hf; omega
        have hself : ∀ t, t ∈ o.looksAt ops → a0.tmps[t]? = a.tmps[t]? := hrel.look fun e he o' ho' d hd => ((hxa e he o' ho').1 d hd).1
        have hex := exec_look (hsel i o · · ho) hself
        have hwa := wanted_look hself
        have hunl := hat.unl hxi' hx.lt
        -- a step in its place
        have go : ∀ (ch' : Nat → Bool) (J' : Nat → World → Prop) (u : Value) (Ψ : Fam) (M' : List Res) (w' : World), (∀ p, p ∈ π → ch' p.1 = true) → (∀ w, Ψ.J w → ∀ p, J' p w) → wpF P ops T J' π (a.put o.dst u) Ψ → Ψ.ok (blocks X ++ M') w' → WJ P ops m TT (JW ops ch' J') f (listed.setIfInBounds i true) (a0.put o.dst u) w' := by
          intro ch' J' u Ψ M' w' hc' hJ' h1 h2
          refine ih ch' J' f _ Ψ X M' w' _ _ _ hf' hc' hJ' h1 hat' (hrel.step u fun e he o' ho' d hd hd' => ((hxa e he o' ho').1 d hd').2 hd) (fun e he k' o' hk' ho' => ?_) h2
          have hdd := hdid e he k' o' (.tail _ hk') ho'
          obtain ⟨hb1, hb2, hb3⟩ := Oper.apart_spec (hxa e he o' ho').2
          unfold Did AllocsTo at *
          rw [execOp_put o' (hsel e.j o' · · ho') a0 o.dst u hb1, wanted_put o' a0 o.dst u hb1]
          exact hdd
        -- a value may be taken first
        have quiet : ∀ (J' : Nat → World → Prop) (J1 : World → Prop) (u : Value), (∀ w, Φ.J w → ∀ p, J' p w) → (∀ w, J' i w → J1 w) → YJ P ops J1 o u a0 → wpF P ops T J' π (a.put o.dst u) Φ → WJ P ops m TT (JW ops ch J') (f + 1) listed a0 w := by
          intro J' J1 u hJ' hj1 hy h1
          have hci : (fun d => (d != i) && ch d) i = false := by simp
          have hct : ∀ p, p ∈ π → (fun d => (d != i) && ch d) p.1 = true := fun p hp => by
            have h1 := hch p (.tail _ hp)
            have h2 : p.1 ≠ i := fun e => hat.notin p.2 (by rw [← e]; exact hp)
            simp [h1, h2]
          refine WJ.mono (J := JW ops (fun d => (d != i) && ch d) J') (fun _ => True) (fun _ _ _ => trivial) (fun ls w _ h p => (h p).imp (fun ⟨d, q1, q2, q3⟩ => ⟨d, q1, by simp only [Bool.and_eq_true] at q2; exact q2.2, q3⟩) id) _ _ _ _ trivial ?_
          refine WJ.first (J1 := J1) ho hsel hjm hx.lt hdone (fun ls inv hun w h => hj1 w (JW.val hci inv hun h)) (fun ls w h => JW.back hci h) f listed a0 w hat.inv (fun j oj hj hji hjm' hju => ?_) hr hy (go _ J' u Φ M w hct hJ' h1 hok)
          obtain ⟨⟨kj, hkj⟩, _⟩ := (hat.left j hjm').1 hju
          rcases List.mem_cons.1 hkj with h4 | h4
          · cases h4; exact absurd rfl hji
          · obtain ⟨y, hy', _, h2⟩ := hx.pair _ h4
            have : y = oj := Option.some.inj (hy'.symm.trans hj)
            subst this
            exact h2.imp id And.left
        -- whatever else may come up ahead of its place
        have other : ∀ j, j ∈ Region.ready .any ops listed → j ≠ i → ¬ (k = 0 ∨ k = 1) → j < m → ∃ oj, ops[j]? = some oj ∧ stepN P ops oj (WJ P ops m TT (JW ops ch J) f (listed.setIfInBounds j true)) a0 w := by
          intro j hj hji hk01 hjm'
          obtain ⟨hju, oj, hoj, _⟩ := mem_ready.1 hj
          obtain ⟨⟨kj, hkj⟩, hjx⟩ := (hat.left j hjm').1 hju
          have hkj' : (j, kj) ∈ π := by
            rcases List.mem_cons.1 hkj with h4 | h4
            · cases h4; exact absurd rfl hji
            · exact h4
          obtain ⟨y, hy', hss, h2⟩ := hx.pair _ hkj'
          have : y = oj := Option.some.inj (hy'.symm.trans hoj)
          subst this
          have hjd : j ∉ descs ops i := fun hd => descs_not_ready hat.inv (getD_both hunl) j hd hji hj
          obtain ⟨hap, hall⟩ := h2.resolve_left hjd
          have hkk : kj = 0 ∨ kj = 2 := by
            have : allowed k kj = (kj == 0 || kj == 2) := by
              match k, hk01 with
              | 0, h => exact absurd (.inl rfl) h
              | 1, h => exact absurd (.inr rfl) h
              | n + 2, _ => rfl
            simp only at hall
            rw [this] at hall
            simpa using hall
          refine ⟨y, hoj, ?_⟩
          have hah := ahead hsel j kj y hoj hkk ((i, k) :: π) J a Φ X M w can listed a0 hwp0 hat hrel hdid hok hkj hjx (fun i' k' oi' hi' hoi' hx' hij' hd => by
            have him' := order_lt _ _ hat.chk _ hi'
            have hu' : listed.getD i' true = false := (hat.left i' him').2 ⟨⟨k', hi'⟩, hx'⟩
            exact descs_not_ready hat.inv (getD_both hu') j hd (Ne.symm hij') hj)
          -- slots are written once
          have hdst : ∀ e, e ∈ X → ∀ o', ops[e.j]? = some o' → ∀ d, y.dst = some d → d ∉ o'.looksAt ops ∧ o'.dst ≠ some d := by
            intro e he o' ho' d hd
            obtain ⟨ke, hke, _⟩ := hat.xin e he
            have hne : e.j ≠ j := hjx e he
            -- one of the two stands before the other in the order
            have key : ∀ (π : List (Nat × Nat)) (can : Array Bool), walkB ops g m π can = true → (e.j, ke) ∈ π → (j, kj) ∈ π → (y.apart ops o' = true ∨ o'.apart ops y = true) ∨ j ∈ descs ops e.j ∨ (ssa ops o' y = true ∧ e.j ∈ descs ops j) ∨ (∀ d, y.dst = some d → d ∉ o'.looksAt ops ∧ o'.dst ≠ some d) := by
              intro π
              induction π with
              | nil => intro can _ h; cases h
              | cons q π ihq =>
                obtain ⟨i', k''⟩ := q
                intro can hc h1 h2
                obtain ⟨⟨x', hx'⟩, _, hc'⟩ := Ord.of hc
                rcases List.mem_cons.1 h1 with h5 | h5
                · have e1 : e.j = i' := congrArg Prod.fst h5
                  rcases List.mem_cons.1 h2 with h6 | h6
                  · exact absurd (e1.trans (congrArg Prod.fst h6).symm) hne
                  · obtain ⟨z, hz, hz2, _⟩ := hx'.pair _ h6
                    have : z = y := Option.some.inj (hz.symm.trans hoj)
                    subst this
                    have : x' = o' := Option.some.inj ((hx'.at_.symm.trans (by rw [← e1]; exact ho')))
                    subst this
                    exact .inr (.inr (.inr hz2))
                · rcases List.mem_cons.1 h2 with h6 | h6
                  · have e1 : j = i' := congrArg Prod.fst h6
                    obtain ⟨z, hz, _, hz3⟩ := hx'.pair _ h5
                    have : z = o' := Option.some.inj (hz.symm.trans ho')
                    subst this
                    have : x' = y := Option.some.inj ((hx'.at_.symm.trans (by rw [← e1]; exact hoj)))
                    subst this
                    rcases hz3 with h7 | h7
                    · exfalso
                      rw [← e1] at h7
                      have h8 := descs_unlisted hat.inv (getD_both hju) e.j h7
                      have h9 := getD_in (i := e.j) (listed := listed) (by rw [hat.inv.size]; exact (Array.getElem?_eq_some_iff.1 ho').1) h8
                      exact ((hat.left _ (order_lt _ _ hat.chk _ hke)).1 h9).2 e he rfl
                    · exact .inl (.inl h7.1)
                  · exact ihq _ hc' h5 h6
            rcases key _ _ hat.chk hke hkj with (h5 | h5) | h5 | ⟨h5, _⟩ | h5
            · obtain ⟨q1, q2, q3⟩ := Oper.apart_spec h5
              exact ⟨q1 d hd, q2 d hd⟩
            · obtain ⟨q1, q2, q3⟩ := Oper.apart_spec h5
              exact ⟨q3 d hd, fun h6 => q2 d h6 hd⟩
            · -- j waits for e, in the order behind it
              have : ∀ (π : List (Nat × Nat)) (can : Array Bool), walkB ops g m π can = true → (e.j, ke) ∈ π → (j, kj) ∈ π → (∀ d, y.dst = some d → d ∉ o'.looksAt ops ∧ o'.dst ≠ some d) ∨ y.apart ops o' = true := by
                intro π
                induction π with
                | nil => intro can _ h; cases h
                | cons q π ihq =>
                  obtain ⟨i', k''⟩ := q
                  intro can hc h1 h2
                  obtain ⟨⟨x', hx'⟩, _, hc'⟩ := Ord.of hc
                  rcases List.mem_cons.1 h1 with h5 | h5
                  · have e1 : e.j = i' := congrArg Prod.fst h5
                    rcases List.mem_cons.1 h2 with h6 | h6
                    · exact absurd (e1.trans (congrArg Prod.fst h6).symm) hne
                    · obtain ⟨z, hz, hz2, _⟩ := hx'.pair _ h6
                      have : z = y := Option.some.inj (hz.symm.trans hoj)
                      subst this
                      have : x' = o' := Option.some.inj ((hx'.at_.symm.trans (by rw [← e1]; exact ho')))
                      subst this
                      exact .inl hz2
                  · rcases List.mem_cons.1 h2 with h6 | h6
                    · have e1 : j = i' := congrArg Prod.fst h6
                      obtain ⟨z, hz, _, hz3⟩ := hx'.pair _ h5
                      have : z = o' := Option.some.inj (hz.symm.trans ho')
                      subst this
                      have : x' = y := Option.some.inj ((hx'.at_.symm.trans (by rw [← e1]; exact hoj)))
                      subst this
                      rcases hz3 with h7 | h7
                      · exfalso
                        rw [← e1] at h7
                        have h8 := descs_unlisted hat.inv (getD_both hju) e.j h7
                        have h9 := getD_in (i := e.j) (listed := listed) (by rw [hat.inv.size]; exact (Array.getElem?_eq_some_iff.1 ho').1) h8
                        exact ((hat.left _ (order_lt _ _ hat.chk _ hke)).1 h9).2 e he rfl
                      · exact .inr h7.1
                    · exact ihq _ hc' h5 h6
              rcases this _ _ hat.chk hke hkj with h6 | h6
              · exact h6 d hd
              · obtain ⟨q1, q2, q3⟩ := Oper.apart_spec h6
                exact ⟨q1 d hd, q2 d hd⟩
            · exact ssa_spec h5 d hd
            · exact h5 d hd
          have early : ∀ (v : Value) (r : List Res) (w' : World), Did P ops kj y a0 v r → Φ.ok (r ++ (blocks X ++ M)) w' → WJ P ops m TT (JW ops ch J) f (listed.setIfInBounds j true) (a0.put y.dst v) w' := by
            intro v r w' hd hok'
            refine ihf a Φ (⟨j, v, r⟩ :: X) M w' can _ _ (by simp only [List.length_cons] at hf ⊢; omega) hch hJ hwp0 (hat.early (e := ⟨j, v, r⟩) hj hjm' hkj hkk) (hrel.early (e := ⟨j, v, r⟩) hoj fun e he o' ho' d hd' => (hdst e he o' ho' d hd').2) ?_ (by simpa [blocks] using hok')
            intro e he k' o' hk' ho'
            rcases List.mem_cons.1 he with rfl | he
            · have : o' = y := Option.some.inj (ho'.symm.trans hoj)
              subst this
              have hkeq : k' = kj := by
                have hnd := hat.nodup
                have hf1 : ∀ (π : List (Nat × Nat)), (π.map Prod.fst).Nodup → ∀ k1 k2, (j, k1) ∈ π → (j, k2) ∈ π → k1 = k2 := by
                  intro π
                  induction π with
                  | nil => intro _ _ _ h; cases h
                  | cons q π ihq =>
                    intro hn k1 k2 h1 h2
                    simp only [List.map_cons, List.nodup_cons] at hn
                    rcases List.mem_cons.1 h1 with h1 | h1
                    · rcases List.mem_cons.1 h2 with h2 | h2
                      · exact congrArg Prod.snd (h1.trans h2.symm)
                      · exact absurd (List.mem_map.2 ⟨_, h2, by rw [← h1]⟩) hn.1
                    · rcases List.mem_cons.1 h2 with h2 | h2
                      · exact absurd (List.mem_map.2 ⟨_, h1, by rw [← h2]⟩) hn.1
                      · exact ihq hn.2 k1 k2 h1 h2
                exact hf1 _ hnd _ _ hk' hkj
              subst hkeq
              refine hd.look (hsel j o' · · hoj) fun t ht => ?_
              rw [put_tmps, if_neg fun h6 => ?_]
              -- it does not look at its own slot
              have hs : ∀ (π : List (Nat × Nat)) (can : Array Bool), walkB ops g m π can = true → (j, k') ∈ π → ∀ d, o'.dst = some d → d ∉ o'.looksAt ops := by
                intro π
                induction π with
                | nil => intro can _ h; cases h
                | cons q π ihq =>
                  obtain ⟨i', k''⟩ := q
                  intro can hc h1
                  obtain ⟨⟨x', hx'⟩, _, hc'⟩ := Ord.of hc
                  rcases List.mem_cons.1 h1 with h5 | h5
                  · have e1 : j = i' := congrArg Prod.fst h5
                    have : x' = o' := Option.some.inj ((hx'.at_.symm.trans (by rw [← e1]; exact hoj)))
                    subst this
                    exact hx'.self
                  · exact ihq _ hc' h5
              exact hs _ _ hat.chk hkj t h6 ht
            · refine (hdid e he k' o' hk' ho').look (hsel e.j o' · · ho') fun t ht => ?_
              rw [put_tmps, if_neg fun h6 => (hdst e he o' ho' t h6).1 ht]
          unfold stepN
          rcases hah with h1 | ⟨h1, h3⟩
          · rw [if_neg (by rw [h1]; simp)]
            exact early undef [] w (.inr ⟨h1, rfl, rfl⟩) hok
          · rw [if_pos h1]
            rcases h3 with ⟨h4, v, h5⟩ | ⟨h4, val, obj, h5⟩
            · rw [h5 w]
              exact early v [] w (.inl ⟨h1, .inl ⟨h4, rfl, h5⟩⟩) hok
            · rw [h5 w]
              exact early _ [.blk w.heap.size obj] (w.alloc obj) (.inl ⟨h1, .inr ⟨h4, val, obj, w.heap.size, h5, rfl, rfl⟩⟩) (Φ.alc _ _ obj hok)
        have hrne : Region.ready .any ops listed ≠ [] := fun h => by rw [h] at hr; cases hr
        have hlt : ∀ j, j ∈ Region.ready .any ops listed → j < m := fun j hj => Nat.lt_of_not_le fun h => hjm listed hat.inv i hx.lt hunl j h hj
        have hchp : ∀ p, p ∈ π → ch p.1 = true := fun p hp => hch p (.tail _ hp)
        have drp : ∀ (u : Value) (Ψ : Fam) (M' : List Res) (w' : World), (∀ w, Ψ.J w → ∀ p, i ∉ descs ops p → J p w) → wpF P ops T (fun p w => i ∈ descs ops p ∨ J p w) π (a.put o.dst u) Ψ → Ψ.ok (blocks X ++ M') w' → WJ P ops m TT (JW ops ch J) f (listed.setIfInBounds i true) (a0.put o.dst u) w' := by
          intro u Ψ M' w' e2 e4 e3
          have hci : ch i = true := hch (i, k) (.head _)
          have hsz : i < listed.size := by rw [hat.inv.size]; exact (Array.getElem?_eq_some_iff.1 ho).1
          refine WJ.mono (fun ls => ls.getD i false = true) (fun ls j h => getD_set_true h) (fun ls w hl h p => ?_) _ _ _ _ (getD_set_self false hsz) (go ch (fun p w => i ∈ descs ops p ∨ J p w) u Ψ M' w' hchp (fun w h p => ?_) e4 e3)
          · rcases h p with h | h | h
            · exact .inl h
            · exact .inl ⟨i, h, hci, hl⟩
            · exact .inr h
          · by_cases hp : i ∈ descs ops p
            · exact .inl hp
            · exact .inr (e2 w h p hp)
        split at hwp
        · rename_i hw
          have hw0 : Region.wanted o (yielded ops a0.tmps) = true := by rw [hwa]; exact hw
          match k, other, hwp with
          | 0, _, ⟨v, h1, h2⟩ => exact quiet J (fun _ => True) v hJ (fun _ _ => trivial) (.inl ⟨hw0, fun w _ => by rw [hex]; exact h1 w⟩) h2
          | 1, _, ⟨v, J1, h1, h3, h2⟩ => exact WJ.mono (fun _ => True) (fun _ _ _ => trivial) (fun ls w _ h p => (h p).imp id fun q => q.1) _ _ _ _ trivial (quiet (fun p w => J p w ∧ (p = i → J1 w)) J1 v (fun w h p => ⟨hJ w h p, fun _ => h3 w h⟩) (fun w h => h.2 rfl) (.inl ⟨hw0, fun w hw => by rw [hex]; exact h1 w hw⟩) h2)
          | 2, other, ⟨val, obj, h1, h2⟩ =>
            refine ⟨fun p => .inr (hJ _ ⟨_, hok⟩ p), hrne, fun j hj => ⟨hlt j hj, ?_⟩⟩
            by_cases hji : j = i
            · subst hji
              refine ⟨o, ho, ?_⟩
              unfold stepN
              rw [if_pos hw0, hex, h1 w]
              refine go ch J _ (Φ.add (.blk w.heap.size obj)) M _ hchp (fun w ⟨M, h⟩ => hJ w ⟨_, h⟩) (h2 w.heap.size ⟨_, _, Φ.alc _ _ obj hok⟩) ?_
              exact Φ.alc _ _ obj hok
            · exact other j hj hji (by simp) (hlt j hj)
          | 3, other, h2 =>
            refine ⟨fun p => .inr (hJ _ ⟨_, hok⟩ p), hrne, fun j hj => ⟨hlt j hj, ?_⟩⟩
            by_cases hji : j = i
            · subst hji
              refine ⟨o, ho, ?_⟩
              unfold stepN
              rw [if_pos hw0, hex]
              have h3 := h2 _ w hok
              unfold Steps at h3
              revert h3
              generalize (execOp a.eval o).run P w = R
              intro h3
              match R, h3 with
              | .ok (.value v) w', ⟨Φ', e2, e3, e4⟩ => exact go ch J v Φ' M w' hchp (fun w h => hJ w (e2 w h)) e4 e3
              | .ok (.enter fn args) w', h4 => exact h4.mono fun e w' ⟨r, e1, Φ', e2, e3, e4⟩ => ⟨r, e1, go ch J r Φ' M w' hchp (fun w h => hJ w (e2 w h)) e4 e3⟩
            · exact other j hj hji (by omega) (hlt j hj)
          | n + 4, other, ⟨_, h2⟩ =>
            refine ⟨fun p => .inr (hJ _ ⟨_, hok⟩ p), hrne, fun j hj => ⟨hlt j hj, ?_⟩⟩
            by_cases hji : j = i
            · subst hji
              refine ⟨o, ho, ?_⟩
              unfold stepN
              rw [if_pos hw0, hex]
              have h3 := h2 _ w hok
              unfold StepsS at h3
              revert h3
              generalize (execOp a.eval o).run P w = R
              intro h3
              match R, h3 with
              | .ok (.value v) w', ⟨Φ', e2, e3, e4⟩ => exact drp v Φ' M w' e2 e4 e3
              | .ok .skip w', ⟨Φ', e2, e3, e4⟩ => exact drp undef Φ' M w' e2 e4 e3
              | .ok (.enter fn args) w', h4 => exact h4.mono fun e w' ⟨r, e1, Φ', e2, e3, e4⟩ => ⟨r, e1, drp r Φ' M w' e2 e4 e3⟩
            · exact other j hj hji (by omega) (hlt j hj)
        · rename_i hw
          have hw0 : Region.wanted o (yielded ops a0.tmps) = false := by rw [hwa]; simpa using hw
          exact quiet J (fun _ => True) undef hJ (fun _ _ => trivial) (.inr ⟨hw0, rfl⟩) hwp
end
end Go.Proofs.YtjhehanknkonnaaGreatDoor
set_option linter.unusedSimpArgs false
set_option linter.unusedVariables false
namespace Go.Proofs.YtjhehanknkonnaaGreatDoor
open Go.RowKit

/-- X holds in every frame of which this is known, of the memory of which this is known. -/
def GF (n : Nat) (ds : List Deferred) (fs : List (Nat × Value)) (E : Env) (L : List Res) (X : Act → Fam → Prop) : Prop := ∀ a, Fr n ds fs a → X a (Fam.st E L)

/-- What the loads of a region rest on: each load by its number. -/
abbrev JI := Nat × Env × List Res
def JL (js : List JI) : Nat → World → Prop := fun i w => ∀ p, p ∈ js → p.1 = i → ∃ M, St p.2.1 (M ++ p.2.2) w
theorem JL_cons {i : Nat} {E : Env} {l : List Res} {js : List JI} : (fun p w => JL js p w ∧ (p = i → ∃ M, St E (M ++ l) w)) = JL ((i, E, l) :: js) := by
  funext q w
  refine propext ⟨fun h p hp e => ?_, fun h => ⟨fun p hp => h p (.tail _ hp), fun e => h _ (.head _) e.symm⟩⟩
  rcases List.mem_cons.1 hp with rfl | hp
  · exact h.2 e.symm
  · exact h.1 p hp e
/-- js' is what is kept of js behind the operation i, and it is still so. -/
def Jok (ops : Array Oper) (i : Nat) (js js' : List JI) (E : Env) (L : List Res) : Prop :=
  (∀ w, Fam.J (Fam.st E L) w → ∀ q, q ∈ js' → ∃ M, St q.2.1 (M ++ q.2.2) w) ∧ ∀ q, q ∈ js → q ∈ js' ∨ i ∈ descs ops q.1
theorem Jok.nil {ops : Array Oper} {i : Nat} {E : Env} {L : List Res} : Jok ops i [] [] E L := ⟨fun _ _ p hp => (by cases hp), fun _ h => (by cases h)⟩
theorem Jok.J {ops : Array Oper} {i : Nat} {js js' : List JI} {E : Env} {L : List Res} (h : Jok ops i js js' E L) : ∀ w, Fam.J (Fam.st E L) w → ∀ p, i ∉ descs ops p → JL js p w := fun w hw p hp q hq e => by
  rcases h.2 q hq with h1 | h1
  · exact h.1 w hw q h1
  · rw [e] at h1; exact absurd h1 hp
theorem Jok.weak {ops : Array Oper} {i : Nat} {js js' : List JI} {E : Env} {L : List Res} (h : Jok ops i js js' E L) : ∀ p w, JL js' p w → (i ∈ descs ops p ∨ JL js p w) := fun p w hj => by
  by_cases hp : i ∈ descs ops p
  · exact .inl hp
  · refine .inr fun q hq e => ?_
    rcases h.2 q hq with h1 | h1
    · exact hj q h1 e
    · rw [e] at h1; exact absurd h1 hp
theorem Jok.drop {ops : Array Oper} {i p : Nat} {js js' : List JI} {E E1 : Env} {L l : List Res} (hd : (descs ops p).contains i = true) (h : Jok ops i js js' E L) : Jok ops i ((p, E1, l) :: js) js' E L := ⟨h.1, fun q hq => by
  rcases List.mem_cons.1 hq with rfl | hq
  · exact .inr (List.contains_iff_mem.1 hd)
  · exact h.2 q hq⟩
theorem mem_st {E : Env} {L M : List Res} {r : Res} {w : World} (hr : r ∈ L) (h : St E (M ++ L) w) : ∃ M, St E (M ++ [r]) w := by
  obtain ⟨s, t, rfl⟩ := List.append_of_mem hr
  refine ⟨M ++ (s ++ t), h.perm ?_⟩
  have : (M ++ (s ++ r :: t)).Perm (M ++ (r :: (s ++ t))) := List.Perm.append_left _ List.perm_middle
  refine this.trans ?_
  have h2 : (M ++ r :: (s ++ t)).Perm (r :: (M ++ (s ++ t))) := List.perm_middle
  exact h2.trans (List.perm_append_comm (l₁ := [r]) (l₂ := M ++ (s ++ t)))
theorem Jok.cons {ops : Array Oper} {i p : Nat} {E E1 : Env} {L : List Res} {r : Res} {js js' : List JI} (hE : E1.Le E) (hr : r ∈ L) (h : Jok ops i js js' E L) : Jok ops i ((p, E1, [r]) :: js) ((p, E1, [r]) :: js') E L := ⟨fun w hw q hq => by
  rcases List.mem_cons.1 hq with rfl | hq
  · obtain ⟨M, hM⟩ := hw
    obtain ⟨M', h'⟩ := mem_st hr hM
    exact ⟨M', h'.weaken hE⟩
  · exact h.1 w hw q hq, fun q hq => by
  rcases List.mem_cons.1 hq with rfl | hq
  · exact .inl (.head _)
  · exact (h.2 q hq).imp (.tail _) id⟩
def nodupB : List Nat → Bool
  | [] => true
  | x :: l => !l.contains x && nodupB l
theorem nodupB_spec : ∀ l, nodupB l = true → l.Nodup := by
  intro l
  induction l with
  | nil => intro _; exact List.nodup_nil
  | cons x l ih =>
    intro h
    simp only [nodupB, Bool.and_eq_true, Bool.not_eq_true', List.contains_eq_mem, decide_eq_false_iff_not] at h
    exact List.nodup_cons.2 ⟨h.1, ih h.2⟩
def drawB (l : List Oper) (m : Nat) (π : List (Nat × Nat)) : Bool :=
  Region.noSelect l.toArray && noDefer l && ((decide (m < l.length) && Region.sinkB .any l.toArray m && Region.chainB .any l.toArray m) || decide (m = l.length)) &&
  decide (π.length = m) && nodupB (π.map Prod.fst) && ((List.range m).all fun i => (π.map Prod.fst).contains i) && walkB l.toArray (l.length - m) m π (Array.replicate l.length false)

section draw
variable {P : Program} {ro : Option Nat} {n : Nat} {ds : List Deferred} {fs : List (Nat × Value)} {E : Env} {L L' : List Res} {Q : Exit → Act → World → Prop}

theorem G_drawX {id : Nat} {l : List Oper} (m : Nat) (π : List (Nat × Nat)) (hm : P.follows .mixedOrders = true) (hB : drawB l m π = true)
    (h : GF n ds fs E L (wpF P l.toArray (fun a Φ => ∀ M w, Φ.ok M w → wpListIn (Wd ro) 0 P l.toArray Q (l.drop m) a w) (JL []) π)) : G n ds fs E L ((Code.region id l.toArray true).wpIn (Wd ro) 0 P Q) := by
  intro a w ha hw
  simp only [drawB, Bool.and_eq_true, Bool.or_eq_true, decide_eq_true_eq, List.all_eq_true] at hB
  obtain ⟨⟨⟨⟨⟨⟨hsel, hnd⟩, hmm⟩, hlen⟩, hnodup⟩, hall⟩, hwalk⟩ := hB
  have hnd' : ∀ (i : Nat) (o : Oper) c, l.toArray[i]? = some o → o.op ≠ .defer c := by
    intro i o c ho hc'
    have hmem : o ∈ l := List.mem_of_getElem? (by simpa using ho)
    have := (List.all_eq_true.1 hnd) o hmem
    rw [hc'] at this; cases this
  have hml : m ≤ l.length := by rcases hmm with ⟨⟨h1, _⟩, _⟩ | h1 <;> omega
  have inv0 : HeadInv .any l.toArray m (Array.replicate l.length false) :=
    ⟨by simp, fun j oj _ hl => (by rw [getD_replicate_false] at hl; cases hl), fun t _ ht => getD_in (by simpa using ht) (getD_replicate_false _ _)⟩
  have hjm : ∀ listed, HeadInv .any l.toArray m listed → Jm l.toArray m listed := by
    intro listed inv i him hun t ht hr
    rcases hmm with ⟨⟨h1, hs⟩, hc⟩ | h1
    · exact tail_waits hs hc (by simpa using h1) inv (m - i) i rfl him hun t ht hr
    · obtain ⟨_, o, ho, _⟩ := mem_ready.1 hr
      have := (Array.getElem?_eq_some_iff.1 ho).1
      simp at this
      omega
  refine wpIn_region_any hm ?_
  have key := orders (P := P) (T := fun a Φ => ∀ M w, Φ.ok M w → wpListIn (Wd ro) 0 P l.toArray Q (l.drop m) a w)
    (TT := fun listed a w => Region.seqB .any l.toArray (l.length - m) m listed = true ∧ wpListIn (Wd ro) 0 P l.toArray Q (l.drop m) a w) (Region.noSelect_spec hsel) hjm
    (fun listed a w hT => seqB_ready hT.1) (fun listed a Φ M w h1 h2 h3 => ⟨h1, h2 M w h3⟩) π (fun _ => true) (JL []) m a (Fam.st E L) [] [] { w with drawn := w.drawn + 1 } (Array.replicate l.length false) (Array.replicate l.length false) a
    (by simpa using hlen.symm) (fun _ _ => rfl) (fun w hw i p hp => by cases hp) (h a ha)
    ⟨hwalk, inv0, fun i h => h, by simp, fun i him => ⟨fun _ => ⟨by
        obtain ⟨p, hp, he⟩ := List.mem_map.1 (List.contains_iff_mem.1 (hall i (List.mem_range.2 him)))
        exact ⟨p.2, by rw [← he]; exact hp⟩, by simp⟩, fun _ => getD_in (by simp; omega) (getD_replicate_false _ _)⟩, nodupB_spec _ hnodup, by simp, by simp,
      fun i him => ⟨fun _ => by
        obtain ⟨p, hp, he⟩ := List.mem_map.1 (List.contains_iff_mem.1 (hall i (List.mem_range.2 him)))
        exact ⟨p.2, by rw [← he]; exact hp⟩, fun _ => getD_in (by simp; omega) (getD_replicate_false _ _)⟩, fun t _ ht => getD_in (by simpa using ht) (getD_replicate_false _ _)⟩
    ⟨rfl, rfl, fun _ _ => rfl, fun e he => by cases he⟩ (fun e he => by cases he) (show St E ([] ++ L) _ from hw.drew (w.drawn + 1))
  have := WJ.wp (ro := ro) (Q' := Q) (g := l.length - m) hnd' (fun listed a' w' hT => by
    have := seqIn (ro := ro) (P := P) (Q' := Q) (l.drop m) m listed a' w' (fun j => by simp) (by simpa using hT.1) hT.2
    simpa using this) _ _ _ _ key
  rw [show m + (l.length - m) = l.toArray.size by simp; omega] at this
  simpa using this
end draw

section rules
variable {P : Program} {ro : Option Nat} {n : Nat} {ds : List Deferred} {fs : List (Nat × Value)} {E : Env} {L L' : List Res} {ops : Array Oper} {T : Act → Fam → Prop} {π : List (Nat × Nat)} {i : Nat} {o : Oper} {J : Nat → World → Prop} {js js' : List JI}

theorem F_end {X : Act → World → Prop} (s : Sel L L') (h : G n ds fs E L' X) : GF n ds fs E L (wpF P ops (fun a Φ => ∀ M w, Φ.ok M w → X a w) J []) := fun a ha M w hw => h a w ha (s.st w (St.dropAll hw))

theorem F_pure {d : Nat} {v : Value} (h0 : ops[i]? = some o) (hv : ∀ E L, Val P o fs E L v) (hd : o.dst = some d) (hn : Nat.blt d n = true) (hg : Goes ops fs o)
    (h : GF n ds ((d, v) :: fs) E L (wpF P ops T J π)) : GF n ds fs E L (wpF P ops T J ((i, 0) :: π)) := fun a ha =>
  ⟨o, h0, by rw [if_pos (hg.wanted ha)]; exact ⟨v, fun w => (hv (Env.of w) []).2 n ds a w ha (St.start w), by rw [hd]; exact h _ (ha.put hn v)⟩⟩
theorem F_load {d : Nat} {v : Value} {r : Res} (h0 : ops[i]? = some o) (hr : r ∈ L) (hv : Val P o fs E [r] v) (hd : o.dst = some d) (hn : Nat.blt d n = true) (hg : Goes ops fs o)
    (h : GF n ds ((d, v) :: fs) E L (wpF P ops T (JL ((i, E, [r]) :: js)) π)) : GF n ds fs E L (wpF P ops T (JL js) ((i, 1) :: π)) := fun a ha =>
  ⟨o, h0, by
    rw [if_pos (hg.wanted ha)]
    refine ⟨v, fun w => ∃ M, St E (M ++ [r]) w, fun w ⟨M, hw⟩ => hv.2 n ds a w ha (St.dropAll hw), fun w ⟨M, hw⟩ => mem_st hr hw, ?_⟩
    rw [hd, JL_cons]; exact h _ (ha.put hn v)⟩
theorem F_loadE {d : Nat} {v : Value} (h0 : ops[i]? = some o) (hv : Val P o fs E [] v) (hd : o.dst = some d) (hn : Nat.blt d n = true) (hg : Goes ops fs o)
    (h : GF n ds ((d, v) :: fs) E L (wpF P ops T (JL ((i, E, []) :: js)) π)) : GF n ds fs E L (wpF P ops T (JL js) ((i, 1) :: π)) := fun a ha =>
  ⟨o, h0, by
    rw [if_pos (hg.wanted ha)]
    refine ⟨v, fun w => ∃ M, St E (M ++ []) w, fun w ⟨M, hw⟩ => hv.2 n ds a w ha (St.dropAll hw), fun w ⟨M, hw⟩ => ⟨M, by
      have h0 := St.perm hw List.perm_append_comm
      simpa using St.dropAll (M := L) h0⟩, ?_⟩
    rw [hd, JL_cons]; exact h _ (ha.put hn v)⟩
theorem F_storeAll {t : TypeId} {x y : Operand} {b off : Nat} {v : Value} {vs : List Value} {d : TypeDesc} {ag : Bool} {TT : TypeId} {cs cs' : Array Value} {sz : Nat} [ht : Ty P t d sz ag]
    (h0 : ops[i]? = some o) (ho : o.op = .store t x y) (hx : ev fs x = some (.pointer (some ⟨b, off, none⟩))) (hy : ev fs y = some v) (hc : v.cells = vs.toArray) (hs : vs.length = sz) (hone : ∀ v, v ∈ vs → v.oneCell' = true)
    (hd : o.dst = none) (hg : Goes ops fs o) (u : Upd L (.blk b (.cells cs TT (0, 0))) (.blk b (.cells cs' TT (0, 0))) L') (hl : off + vs.length ≤ cs.size) (hcs : putAll cs off vs = cs') (hj : Jok ops i js js' E L')
    (h : GF n ds fs E L' (wpF P ops T (JL js') π)) : GF n ds fs E L (wpF P ops T (JL js) ((i, 4) :: π)) := fun a ha =>
  ⟨o, h0, by
    rw [if_pos (hg.wanted ha)]
    refine ⟨trivial, fun M w hw => ?_⟩
    have hrun : (execOp a.eval o).run P w = .ok .skip (w.putObj b (.cells cs' TT (0, 0))) := by
      have hb : w.heap[b]? = some (.cells cs TT (0, 0)) := St.own hw _ (u.app M).mem
      have := run_storeCells (P := P) (b := b) (off := off) (T := TT) vs cs 0 w hb (by simpa using hl) hone
      simp only [Nat.add_zero, hcs] at this
      simp [execOp, ho, ha.eval hx, ha.eval hy, Instr.storeAt, Instr.sureAddr, storeVar, ht.size, Result.andThen, hc, hs, this]
    unfold StepsS
    rw [hrun]
    exact ⟨Fam.st E L', hj.J, St.put hw (u.app M), by rw [hd]; exact wpF_weak π _ _ _ _ hj.weak (h _ ha)⟩⟩
theorem F_storeAt {t : TypeId} {x y : Operand} {b off : Nat} {v : Value} {d : TypeDesc} {TT : TypeId} {cs cs' : Array Value} {ag : Bool} [ht : Ty P t d 1 ag]
    (h0 : ops[i]? = some o) (ho : o.op = .store t x y) (hx : ev fs x = some (.pointer (some ⟨b, off, none⟩))) (hy : ev fs y = some v) (hc : v.cells = #[v]) (hone : v.oneCell' = true)
    (hd : o.dst = none) (hg : Goes ops fs o) (hu : Upd L (.blk b (.cells cs TT (0, 0))) (.blk b (.cells cs' TT (0, 0))) L') (hl : off < cs.size) (hcs : cs.setIfInBounds off v = cs') (hj : Jok ops i js js' E L')
    (h : GF n ds fs E L' (wpF P ops T (JL js') π)) : GF n ds fs E L (wpF P ops T (JL js) ((i, 4) :: π)) :=
  F_storeAll (vs := [v]) h0 ho hx hy hc rfl (by simpa using hone) hd hg hu (by simpa using Nat.succ_le_of_lt hl) (by simp [putAll, hcs]) hj h
theorem F_storeF {t : TypeId} {x y : Operand} {b off : Nat} {vs : List Value} {d : TypeDesc} {ag : Bool} {TT : TypeId} {cs cs' : Array Value} {sz : Nat} [ht : Ty P t d sz ag]
    (h0 : ops[i]? = some o) (ho : o.op = .store t x y) (hx : ev fs x = some (.pointer (some ⟨b, off, none⟩))) (hy : ev fs y = some (.agg vs.toArray)) (hs : vs.length = sz) (hone : ∀ v, v ∈ vs → v.oneCell' = true)
    (hd : o.dst = none) (hg : Goes ops fs o) (u : Upd L (.blk b (.cells cs TT (0, 0))) (.blk b (.cells cs' TT (0, 0))) L') (hl : off + vs.length ≤ cs.size) (hcs : putAll cs off vs = cs') (hj : Jok ops i js js' E L')
    (h : GF n ds fs E L' (wpF P ops T (JL js') π)) : GF n ds fs E L (wpF P ops T (JL js) ((i, 4) :: π)) :=
  F_storeAll h0 ho hx hy rfl hs hone hd hg u hl hcs hj h
theorem F_mk {d : Nat} {val : Nat → Value} {obj : Obj} (h0 : ops[i]? = some o) (he : ∀ a, Fr n ds fs a → ∀ w, (execOp a.eval o).run P w = .ok (.value (val w.heap.size)) (w.alloc obj)) (hd : o.dst = some d) (hn : Nat.blt d n = true) (hg : Goes ops fs o)
    (h : ∀ b, E.heap b = none → GF n ds ((d, val b) :: fs) E (.blk b obj :: L) (wpF P ops T J π)) : GF n ds fs E L (wpF P ops T J ((i, 2) :: π)) := fun a ha =>
  ⟨o, h0, by
    rw [if_pos (hg.wanted ha)]
    refine ⟨val, obj, he a ha, fun b ⟨M, w, hw⟩ => ?_⟩
    rw [hd, Fam.st_add]
    exact h b (St.apart hw b (by simp [Res.blk])).1 _ (ha.put hn _)⟩
theorem F_alloc {t : TypeId} {d : Nat} {z : Value} {cs : Array Value} [hz : Zero P t z cs] (h0 : ops[i]? = some o) (ho : o.op = .alloc t) (hd : o.dst = some d) (hn : Nat.blt d n = true) (hg : Goes ops fs o)
    (h : ∀ b, GF n ds ((d, .pointer (some ⟨b, 0, none⟩)) :: fs) E (.blk b (.cells cs t (0, 0)) :: L) (wpF P ops T J π)) : GF n ds fs E L (wpF P ops T J ((i, 2) :: π)) :=
  F_mk (val := fun b => .pointer (some ⟨b, 0, none⟩)) h0 (fun a ha w => by simp [execOp, ho, Instr.alloc, hz.zv, Result.andThen, newVar, newRow, hz.zc]) hd hn hg fun b _ => h b
theorem F_box {t : TypeId} {x : Operand} {d : Nat} {v : Value} {cs : Array Value} (h0 : ops[i]? = some o) (ho : o.op = .box t x) (hx : ev fs x = some v) (hc : v.cells = cs) (hd : o.dst = some d) (hn : Nat.blt d n = true) (hg : Goes ops fs o)
    (h : ∀ b, GF n ds ((d, .pointer (some ⟨b, 0, none⟩)) :: fs) E (.blk b (.cells cs t (0, 0)) :: L) (wpF P ops T J π)) : GF n ds fs E L (wpF P ops T J ((i, 2) :: π)) :=
  F_mk (val := fun b => .pointer (some ⟨b, 0, none⟩)) h0 (fun a ha w => by simp [execOp, ho, ha.eval hx, Instr.box, newVar, newRow, hc]) hd hn hg fun b _ => h b
theorem F_boxA {t : TypeId} {x : Operand} {d : Nat} {cs : Array Value} (h0 : ops[i]? = some o) (ho : o.op = .box t x) (hx : ev fs x = some (.agg cs)) (hd : o.dst = some d) (hn : Nat.blt d n = true) (hg : Goes ops fs o)
    (h : ∀ b, GF n ds ((d, .pointer (some ⟨b, 0, none⟩)) :: fs) E (.blk b (.cells cs t (0, 0)) :: L) (wpF P ops T J π)) : GF n ds fs E L (wpF P ops T J ((i, 2) :: π)) := F_box h0 ho hx rfl hd hn hg h

/-! Slices written out -/
def fillS (sz : Nat) : List Value → List (Nat × Value) → Option (List Value)
  | l, [] => some l
  | l, (i, v) :: r => if v.cells.size = sz ∧ i * sz + sz ≤ l.length then fillS sz (setLs l (i * sz) v.cells.toList) r else none
def zeros (k : Nat) (zc : List Value) : List Value := (List.range k).map fun j => zc.toArray[j % zc.length]!
theorem fillS_of {sz : Nat} : ∀ (ps : List (Nat × Value)) (l cells : List Value), fillS sz l ps = some cells → Instr.fill (fun i => some (i * sz, sz)) l.toArray ps = some cells.toArray := by
  intro ps
  induction ps with
  | nil => intro l cells h; simp only [fillS, Option.some.injEq] at h; subst h; rfl
  | cons p ps ih =>
    obtain ⟨i, v⟩ := p
    intro l cells h
    simp only [fillS] at h
    split at h
    · rename_i hc
      simp only [Instr.fill]
      have : ¬ ((decide (v.cells.size ≠ sz) || decide (i * sz + v.cells.size > l.toArray.size)) = true) := by
        simp; omega
      rw [if_neg (by simpa using this)]
      have e := foldl_set v.cells.toList l (i * sz) 0
      have h2 : (v.cells.zipIdx.foldl (fun cs (p : Value × Nat) => cs.setIfInBounds (i * sz + p.2) p.1) l.toArray) = (setLs l (i * sz) v.cells.toList).toArray := by
        rw [← Array.foldl_toList, Array.toList_zipIdx]; exact e
      rw [show (Array.foldl (fun cs x => match x with | (c, j) => cs.setIfInBounds (i * sz + j) c) l.toArray v.cells.zipIdx) = (setLs l (i * sz) v.cells.toList).toArray from h2]
      exact ih _ _ h
    · cases h
theorem run_lit {t e : TypeId} {td : TypeDesc} {sz sz' : Nat} {ag ag' : Bool} [ht : Ty P t (.slice e) sz' ag'] [he : Ty P e td sz ag] {z : Value} {zc : List Value} [hz : Zero P e z zc.toArray] {k : Nat} {ps : List (Nat × Operand)} {vs : List (Nat × Value)} {cells : List Value} {a : Act} {w : World}
    (ha : Fr n ds fs a) (ho : o.op = .buildSlice t k ps.toArray) (hx : evps fs ps = some vs) (hk : 0 < k * sz ∧ k * sz ≤ 1000) (hf : fillS sz (zeros (k * sz) zc) vs = some cells) :
    (execOp a.eval o).run P w = .ok (.value (.slice (some ⟨w.heap.size, 0, none⟩) k k)) (w.alloc (.cells cells.toArray e)) := by
  have e1 := evps_eval ha ps vs hx
  have e3 : ((ps.toArray.map fun (i, x) => (i, a.eval x)) : Array (Nat × Value)) = vs.toArray := by
    rw [← e1]; simp
  have e2 := fillS_of vs _ cells hf
  have e4 : ((Array.range (k * sz)).map (fun j => zc.toArray[j % zc.toArray.size]!)) = (zeros (k * sz) zc).toArray := by
    rw [← List.toArray_range, List.map_toArray]
    simp [zeros]
  have h1 : ¬ (k * sz > 2 ^ 24) := by omega
  have h2 : ¬ (k * sz = 0) := by omega
  simp only [execOp, ho, e3]
  simp only [Instr.buildSlice, Sem.run_bind, ht.run, Result.andThen, he.size, if_neg h1, if_neg h2, hz.zv, hz.zc, Sem.run_pure, e4, e2, newRow]
  simp
theorem G_lit {t e : TypeId} {td : TypeDesc} {sz sz' : Nat} {ag ag' : Bool} [ht : Ty P t (.slice e) sz' ag'] [he : Ty P e td sz ag] {z : Value} {zc : List Value} [hz : Zero P e z zc.toArray] {k d : Nat} {ps : List (Nat × Operand)} {vs : List (Nat × Value)} {cells : List Value} {Q : Exit → Act → World → Prop} {rest : List Oper}
    (ho : o.op = .buildSlice t k ps.toArray) (hx : evps fs ps = some vs) (hk : 0 < k * sz ∧ k * sz ≤ 1000) (hf : fillS sz (zeros (k * sz) zc) vs = some cells) (hd : o.dst = some d) (hn : Nat.blt d n = true) (hg : Goes ops fs o)
    (h : ∀ b, G n ds ((d, .slice (some ⟨b, 0, none⟩) k k) :: fs) E (.blk b (.cells cells.toArray e (0, 0)) :: L) (wpListIn (Wd ro) 0 P ops Q rest)) : G n ds fs E L (wpListIn (Wd ro) 0 P ops Q (o :: rest)) :=
  G_any hg (by rw [ho]; intro c h; cases h) fun a w ha hw => by
    rw [run_lit ha ho hx hk hf]
    simp only [Oper.uponIn_value, hd]
    exact h w.heap.size _ _ (ha.put hn _) (hw.alloc _)

/-- A block that is known whole is shut for good. -/
noncomputable def Env.blk (E : Env) (b : Nat) (o : Obj) : Env := ⟨fun c => if c = b then some o else E.heap c, E.os, E.output, E.tape⟩
theorem Env.blk_le {E : Env} {b : Nat} {o : Obj} (h : E.heap b = none) : E.Le (E.blk b o) := ⟨fun c o' hc => by
  simp only [Env.blk]
  split
  · rename_i e; subst e; rw [h] at hc; cases hc
  · exact hc, rfl, rfl, rfl⟩
theorem St.shut {b : Nat} {o : Obj} {w : World} (hE : E.heap b = none) : St E (.blk b o :: L) w ↔ St (E.blk b o) L w := by
  constructor
  · intro h
    have hn := h.nodup
    simp only [List.flatMap_cons, Res.blk, List.singleton_append, List.nodup_cons] at hn
    refine ⟨fun c o' hc => ?_, fun r hr => h.own r (.tail _ hr), hn.2, fun c hc => ?_, h.os, h.out, h.tape⟩
    · simp only [Env.blk] at hc
      split at hc
      · rename_i e; subst e; cases hc; exact h.own _ (.head _)
      · exact h.env c o' hc
    · have := h.apart c (by simp only [List.flatMap_cons]; exact List.mem_append.2 (.inr hc))
      refine ⟨?_, this.2⟩
      simp only [Env.blk]
      rw [if_neg (fun e => by subst e; exact hn.1 hc)]
      exact this.1
  · intro h
    have hb : w.heap[b]? = some o := h.env b o (by simp [Env.blk])
    have hnb : b ∉ L.flatMap Res.ids := fun hm => by
      have := (h.apart b hm).1
      simp [Env.blk] at this
    refine ⟨fun c o' hc => h.env c o' ((Env.blk_le hE).1 c o' hc), fun r hr => ?_, ?_, fun c hc => ?_, h.os, h.out, h.tape⟩
    · rcases List.mem_cons.1 hr with rfl | hr
      · exact hb
      · exact h.own r hr
    · simp only [List.flatMap_cons, Res.blk, List.singleton_append, List.nodup_cons]
      exact ⟨hnb, h.nodup⟩
    · simp only [List.flatMap_cons, Res.blk, List.singleton_append, List.mem_cons] at hc
      rcases hc with rfl | hc
      · exact ⟨hE, (Array.getElem?_eq_some_iff.1 hb).1⟩
      · have := h.apart c hc
        refine ⟨?_, this.2⟩
        cases e : E.heap c with
        | none => rfl
        | some o' => rw [(Env.blk_le hE).1 c o' e] at this; cases this.1
theorem Fam.shut {b : Nat} {o : Obj} (hE : E.heap b = none) : Fam.st E (.blk b o :: L) = Fam.st (E.blk b o) L :=
  Fam.ext fun M w => ⟨fun h => (St.shut hE).1 (St.perm h List.perm_middle), fun h => St.perm ((St.shut hE).2 h) List.perm_middle.symm⟩
/-- A slice written out, shut at once. -/
theorem F_litZ {t e : TypeId} {td : TypeDesc} {sz sz' : Nat} {ag ag' : Bool} [ht : Ty P t (.slice e) sz' ag'] [he : Ty P e td sz ag] {z : Value} {zc : List Value} [hz : Zero P e z zc.toArray] {k d : Nat} {ps : List (Nat × Operand)} {vs : List (Nat × Value)} {cells : List Value}
    (h0 : ops[i]? = some o) (ho : o.op = .buildSlice t k ps.toArray) (hx : evps fs ps = some vs) (hk : 0 < k * sz ∧ k * sz ≤ 1000) (hf : fillS sz (zeros (k * sz) zc) vs = some cells) (hl : cells.length = k * sz) (hd : o.dst = some d) (hn : Nat.blt d n = true) (hg : Goes ops fs o)
    (h : ∀ b E', E.Le E' → SlE E' sz (some ⟨b, 0, none⟩) k cells → GF n ds ((d, .slice (some ⟨b, 0, none⟩) k k) :: fs) E' L (wpF P ops T J π)) : GF n ds fs E L (wpF P ops T J ((i, 2) :: π)) :=
  F_mk (val := fun b => .slice (some ⟨b, 0, none⟩) k k) h0 (fun a ha w => run_lit ha ho hx hk hf) hd hn hg fun b hb => by
    have := h b (E.blk b (.cells cells.toArray e)) (Env.blk_le hb) (SlE.lit (T := e) (fz := (0, 0)) (by show (E.blk b (.cells cells.toArray e)).heap b = some _; simp [Env.blk]) hl)
    unfold GF at this ⊢
    rw [Fam.shut hb]
    exact this
/-- A slice written out, shut at once, in a region that does not draw. -/
theorem G_litZ {t e : TypeId} {td : TypeDesc} {sz sz' : Nat} {ag ag' : Bool} [ht : Ty P t (.slice e) sz' ag'] [he : Ty P e td sz ag] {z : Value} {zc : List Value} [hz : Zero P e z zc.toArray] {k d : Nat} {ps : List (Nat × Operand)} {vs : List (Nat × Value)} {cells : List Value} {Q : Exit → Act → World → Prop} {rest : List Oper}
    (ho : o.op = .buildSlice t k ps.toArray) (hx : evps fs ps = some vs) (hk : 0 < k * sz ∧ k * sz ≤ 1000) (hf : fillS sz (zeros (k * sz) zc) vs = some cells) (hl : cells.length = k * sz) (hd : o.dst = some d) (hn : Nat.blt d n = true) (hg : Goes ops fs o)
    (h : ∀ b E', E.Le E' → SlE E' sz (some ⟨b, 0, none⟩) k cells → G n ds ((d, .slice (some ⟨b, 0, none⟩) k k) :: fs) E' L (wpListIn (Wd ro) 0 P ops Q rest)) : G n ds fs E L (wpListIn (Wd ro) 0 P ops Q (o :: rest)) :=
  G_lit ho hx hk hf hd hn hg fun b => G.freeze (.head _ _) fun E' hE hok => h b E' hE (SlE.lit hok hl)

/-! Calls -/
theorem F_callv {k : FuncId} [Ent P k] {args : Array Value} {d : Nat} {r : Value} (h0 : ops[i]? = some o) (ht : Goesto fs o k args) (hd : o.dst = some d) (hn : Nat.blt d n = true) (hg : Goes ops fs o)
    (hc : ∀ L, CallV P k args E L r) (h : GF n ds ((d, r) :: fs) E L (wpF P ops T J π)) : GF n ds fs E L (wpF P ops T J ((i, 3) :: π)) := fun a ha =>
  ⟨o, h0, by
    rw [if_pos (hg.wanted ha)]
    exact fun M w hw => by
      unfold Steps
      rw [ht.run ha]
      exact (hc (M ++ L) w hw).mono fun e w' ⟨he, hs⟩ => ⟨r, he, Fam.st E L, fun _ h => h, hs, by rw [hd]; exact h _ (ha.put hn r)⟩⟩
/-- A call that leaves what is owned as it is. -/
theorem F_call {k : FuncId} [Ent P k] {args : Array Value} {d : Nat} {Post : List Res → Value → Env → List Res → Prop} (h0 : ops[i]? = some o) (ht : Goesto fs o k args) (hd : o.dst = some d) (hn : Nat.blt d n = true) (hg : Goes ops fs o)
    (hc : ∀ L, CallS P k args E L (Post L)) (hf : ∀ L0 r E' L', Post L0 r E' L' → L' = L0 ∧ Post L r E' L)
    (h : ∀ r E', E.Le E' → Post L r E' L → GF n ds ((d, r) :: fs) E' L (wpF P ops T J π)) : GF n ds fs E L (wpF P ops T J ((i, 3) :: π)) := fun a ha =>
  ⟨o, h0, by
    rw [if_pos (hg.wanted ha)]
    intro M w hw
    unfold Steps
    rw [ht.run ha]
    refine (hc (M ++ L) w hw).mono ?_
    rintro e w' ⟨r, E', L', rfl, hE, hs, hp⟩
    obtain ⟨rfl, hp'⟩ := hf _ _ _ _ hp
    exact ⟨r, rfl, Fam.st E' L, fun w ⟨M, h⟩ => ⟨M, St.weaken h hE⟩, hs, by rw [hd]; exact h r E' hE hp' _ (ha.put hn r)⟩⟩

/-! Tests -/
theorem GF.bool {X : Act → Fam → Prop} (i : Nat) {b : Bool} (hi : look fs i = some (.bool b)) (ht : b = true → GF n ds ((i, .bool true) :: fs) E L X) (hf : b = false → GF n ds ((i, .bool false) :: fs) E L X) : GF n ds fs E L X := by
  have key : ∀ a : Act, Fr n ds fs a → Fr n ds ((i, .bool b) :: fs) a := fun a h => ⟨h.size, h.defers, fun j v hj => by
    simp only [YtjhehanknkonnaaGreatDoor.look] at hj
    by_cases e : i = j
    · subst e; simp at hj; subst hj; exact h.get _ _ hi
    · rw [beq_ne e] at hj
      exact h.get j v hj⟩
  intro a ha
  cases b with
  | true => exact ht rfl a (key a ha)
  | false => exact hf rfl a (key a ha)
theorem GF.bool_t {X : Act → Fam → Prop} (i : Nat) {b : Bool} (hi : look fs i = some (.bool b)) (hb : b = true) (h : GF n ds ((i, .bool true) :: fs) E L X) : GF n ds fs E L X := GF.bool i hi (fun _ => h) (fun e => by rw [hb] at e; cases e)
theorem GF.bool_f {X : Act → Fam → Prop} (i : Nat) {b : Bool} (hi : look fs i = some (.bool b)) (hb : b = false) (h : GF n ds ((i, .bool false) :: fs) E L X) : GF n ds fs E L X := GF.bool i hi (fun e => by rw [hb] at e; cases e) (fun _ => h)

/-! The same where nothing is drawn: what hangs on the test may call. -/
end rules
end Go.Proofs.YtjhehanknkonnaaGreatDoor
set_option linter.unusedSimpArgs false
set_option linter.unusedVariables false
namespace Go.Proofs.YtjhehanknkonnaaGreatDoor
open Go.RowKit
section
variable {P : Program} {ro : Option Nat} {n : Nat} {ds : List Deferred} {fs : List (Nat × Value)} {E : Env} {L L' : List Res} {X : Act → World → Prop}
/-- A slice written out becomes one that may be appended to. -/
theorem G.blkSl {b k sz : Nat} {e : TypeId} {l : List Value} (hl : l.length = k * sz) (hk : k ≤ maxLen) (h : G n ds fs E (.sl e sz (some ⟨b, 0, none⟩) k k l :: L) X) : G n ds fs E (.blk b (.cells l.toArray e (0, 0)) :: L) X := fun a w ha hw => by
  refine h a w ha ⟨hw.env, fun r hr => ?_, hw.nodup, hw.apart, hw.os, hw.out, hw.tape⟩
  rcases List.mem_cons.1 hr with rfl | hr
  · have := hw.own _ (.head _)
    exact ⟨hl, .inr ⟨b, l.toArray, rfl, this, Nat.le_refl _, hk, by simpa using hl, by simp [← hl]⟩⟩
  · exact hw.own r (.tail _ hr)
end
end Go.Proofs.YtjhehanknkonnaaGreatDoor
