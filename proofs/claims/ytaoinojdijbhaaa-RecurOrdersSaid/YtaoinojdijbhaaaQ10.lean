/-
  Rules and contracts, packed: E8, E9, E11, E12, E13, D32, E14, D19, Sep25.
-/
import Derived.Test.YtaoinojdijbhaaaQ9
set_option maxHeartbeats 1000000
namespace Go.Proofs.Ytaoinojdijbhaaa
open Go.RowKit
/-! An order: each after those that it begins with. -/
theorem andNot_zero {s t : Nat} : andNotI .u8 (s : Int) (t : Int) = 0 ↔ ∀ x, x < 8 → s.testBit x = true → t.testBit x = true := by
  have key : andNotI .u8 (s : Int) (t : Int) = 0 ↔ ∀ x, x < 8 → s.testBit x = true → t.testBit x = true := by
    unfold andNotI
    rw [BitVec.ofInt_natCast, BitVec.ofInt_natCast]
    generalize hv : (BitVec.ofNat (IntKind.bits .u8) s &&& ~~~BitVec.ofNat (IntKind.bits .u8) t) = v
    have hvlt : v.toNat < 2 ^ 8 := v.isLt
    rw [wrap_nat (by show (v.toNat : Int) ≤ 255; omega)]
    have hb : ∀ x, x < 8 → v.toNat.testBit x = (s.testBit x && !t.testBit x) := by
      intro x hx
      rw [BitVec.testBit_toNat, ← hv, BitVec.getLsbD_and, BitVec.getLsbD_not, BitVec.getLsbD_ofNat, BitVec.getLsbD_ofNat]
      have h8 : x < IntKind.bits .u8 := hx
      simp [h8]
    constructor
    · intro h x hx hsx
      have h0 : v.toNat = 0 := by omega
      have := hb x hx
      rw [h0, hsx] at this
      simpa using this
    · intro h
      have h0 : v.toNat = 0 := by
        refine Nat.eq_of_testBit_eq fun x => ?_
        rw [Nat.zero_testBit]
        by_cases hx : x < 8
        · rw [hb x hx]
          cases hsx : s.testBit x with
          | false => rfl
          | true => rw [h x hx hsx]; rfl
        · exact Nat.testBit_lt_two_pow (Nat.lt_of_lt_of_le hvlt (Nat.pow_le_pow_right (by decide) (by omega)))
      rw [h0]; rfl
  exact key
/-- Is free: not there, and all that it begins with is. -/
def freeB (l : List Nat) (t i : Nat) : Bool := !t.testBit i && (List.range 8).all fun x => !suc l i x || t.testBit x
theorem freeB_eq {l : List Nat} {t i : Nat} : freeB l t i = (!t.testBit i && decide (andNotI .u8 ((l.getD i 0 : Nat) : Int) (t : Int) = 0)) := by
  rw [freeB]
  congr 1
  rw [Bool.eq_iff_iff, List.all_eq_true, decide_eq_true_eq, andNot_zero]
  constructor
  · intro h x hx hsx
    have := h x (List.mem_range.2 hx)
    rw [suc, hsx] at this
    simpa using this
  · intro h x hx
    have := h x (List.mem_range.1 hx)
    rw [suc]
    cases hsx : (l.getD i 0).testBit x with
    | false => rfl
    | true => rw [this hsx]; rfl
theorem exists_min {R : Nat → Nat → Prop} (hR : ∀ i, ¬ Tr R i i) : ∀ U : List Nat, U ≠ [] → ∃ i, i ∈ U ∧ ∀ j, j ∈ U → ¬ Tr R i j := by
  intro U
  induction U with
  | nil => intro h; exact absurd rfl h
  | cons a U ih =>
    intro _
    by_cases hU : U = []
    · subst hU
      exact ⟨a, .head _, fun j hj h => by
        rw [List.mem_singleton.1 hj] at h; exact hR a h⟩
    · obtain ⟨i, hi, hm⟩ := ih hU
      by_cases hia : Tr R i a
      · refine ⟨a, .head _, fun j hj h => ?_⟩
        rcases List.mem_cons.1 hj with rfl | hj
        · exact hR _ h
        · exact hm j hj (hia.trans h)
      · refine ⟨i, .tail _ hi, fun j hj h => ?_⟩
        rcases List.mem_cons.1 hj with rfl | hj
        · exact hia h
        · exact hm j hj h
/-- So far: out, with the bits t. -/
structure OrdP (l : List Nat) (n : Nat) (out : List Nat) (t : Nat) : Prop where
  lt : t < 256
  bits : ∀ x, t.testBit x = true ↔ x ∈ out
  nodup : out.Nodup
  all : ∀ x, x ∈ out → x < n
  after : ∀ a x b, out = a ++ x :: b → ∀ y, suc l x y = true → y ∈ a
theorem OrdP.nil (l : List Nat) (n : Nat) : OrdP l n [] 0 := ⟨by decide, fun x => by simp, .nil, fun _ h => by (cases h), fun a x b h => by simp at h⟩
theorem OrdP.len {l : List Nat} {n : Nat} {out : List Nat} {t : Nat} (h : OrdP l n out t) : out.length ≤ n := by
  have := List.Nodup.length_le_of_subset h.nodup (l₂ := List.range n) fun x hx => List.mem_range.2 (h.all x hx)
  rwa [List.length_range] at this
theorem OrdP.step {l : List Nat} {n : Nat} {out : List Nat} {t : Nat} (h : OrdP l n out t) (hn : n ≤ 8) (hin : ∀ i j, suc l i j = true → j < n) {i : Nat} (hi : i < n) (hf : freeB l t i = true) : OrdP l n (out ++ [i]) (t ||| 2 ^ i) := by
  rw [freeB, Bool.and_eq_true, List.all_eq_true] at hf
  obtain ⟨h1, h2⟩ := hf
  have hno : i ∉ out := fun hm => by rw [(h.bits i).2 hm] at h1; cases h1
  refine ⟨?_, fun x => ?_, ?_, fun x hx => ?_, fun a x b e y hy => ?_⟩
  · exact or256 h.lt (show 2 ^ i < 2 ^ 8 from Nat.pow_lt_pow_right (by decide) (by omega))
  · rw [or_bit, Bool.or_eq_true, h.bits, List.mem_append, List.mem_singleton, decide_eq_true_eq]
    exact ⟨fun h => h.imp id Eq.symm, fun h => h.imp id Eq.symm⟩
  · exact List.nodup_append.2 ⟨h.nodup, by simp, fun x hx y hy e => by rw [List.mem_singleton.1 hy] at e; exact hno (e ▸ hx)⟩
  · rcases List.mem_append.1 hx with hx | hx
    · exact h.all x hx
    · rw [List.mem_singleton.1 hx]; exact hi
  · rcases List.append_eq_append_iff.1 e with ⟨c, e1, e2⟩ | ⟨c, e1, e2⟩
    · cases c with
      | nil =>
        simp only [List.nil_append, List.append_nil] at e1 e2
        injection e2 with e2 _
        subst e2
        have := h2 y (List.mem_range.2 (by have := hin _ _ hy; omega))
        rw [hy, Bool.not_true, Bool.false_or] at this
        rw [e1]; exact (h.bits y).1 this
      | cons z c =>
        injection e2 with e2 e3
        simp at e3
    · cases c with
      | nil =>
        simp only [List.nil_append, List.append_nil] at e1 e2
        injection e2 with e2 _
        subst e2
        have := h2 y (List.mem_range.2 (by have := hin _ _ hy; omega))
        rw [hy, Bool.not_true, Bool.false_or] at this
        rw [← e1]; exact (h.bits y).1 this
      | cons z c =>
        rw [List.cons_append] at e2
        injection e2 with e2 e3
        subst e2
        exact h.after a x c e1 y hy
theorem OrdP.exists_free {l : List Nat} {n : Nat} {out : List Nat} {t : Nat} (h : OrdP l n out t) (hin : ∀ i j, suc l i j = true → j < n) (hno : ∀ i, ¬ Tr (fun a b => suc l a b = true) i i) (hlt : out.length < n) : ∃ i, i < n ∧ freeB l t i = true := by
  have hU : (List.range n).filter (fun i => !t.testBit i) ≠ [] := by
    intro he
    have hsub : ∀ x, x ∈ List.range n → x ∈ out := fun x hx => by
      have := List.filter_eq_nil_iff.1 he x hx
      simp at this
      exact (h.bits x).1 this
    have := List.Nodup.length_le_of_subset List.nodup_range hsub
    rw [List.length_range] at this
    omega
  obtain ⟨i, hi, hm⟩ := exists_min hno _ hU
  rw [List.mem_filter, List.mem_range] at hi
  refine ⟨i, hi.1, ?_⟩
  rw [freeB, Bool.and_eq_true, List.all_eq_true]
  refine ⟨hi.2, fun x hx => ?_⟩
  cases hs : suc l i x with
  | false => rfl
  | true =>
    cases hb : t.testBit x with
    | true => rfl
    | false => exact absurd (Tr.one (R := fun a b => suc l a b = true) hs) (hm x (List.mem_filter.2 ⟨List.mem_range.2 (hin _ _ hs), by rw [hb]; rfl⟩))
def ordS (l : List Nat) (n : Nat) : Nat → List Nat → Nat → List Nat
  | 0, out, _ => out
  | k + 1, out, t => match (List.range n).find? (freeB l t) with
    | none => out
    | some i => ordS l n k (out ++ [i]) (t ||| 2 ^ i)
def ordL (l : List Nat) (n : Nat) : List Nat := ordS l n n [] 0
theorem find_at {p : Nat → Bool} {n i : Nat} (hi : i < n) (hp : p i = true) (hno : ∀ j, j < i → p j = false) : (List.range n).find? p = some i := by
  rw [List.find?_range_eq_some]
  exact ⟨hp, List.mem_range.2 hi, fun j hj => by rw [hno j hj]; rfl⟩
theorem ordS_step {l : List Nat} {n : Nat} {out : List Nat} {t i : Nat} (hlt : out.length < n) (hi : i < n) (hp : freeB l t i = true) (hno : ∀ j, j < i → freeB l t j = false) : ordS l n (n - out.length) out t = ordS l n (n - (out ++ [i]).length) (out ++ [i]) (t ||| 2 ^ i) := by
  rw [List.length_append, List.length_singleton, show n - out.length = (n - (out.length + 1)) + 1 by omega, ordS, find_at hi hp hno]
theorem ordS_done (l : List Nat) (n : Nat) {out : List Nat} {t : Nat} (h : out.length = n) : ordS l n (n - out.length) out t = out := by
  rw [h, Nat.sub_self]; rfl
end Go.Proofs.Ytaoinojdijbhaaa
set_option linter.unusedSimpArgs false
set_option linter.unusedVariables false
set_option maxHeartbeats 2000000
set_option maxRecDepth 20000
namespace Go.Proofs.Ytaoinojdijbhaaa
open Go.RowKit
def ordR (g : Gr) : List Nat := if rcheck g = 0 then ordL (begM g) g.names.length else []
theorem rcheck_zero {g : Gr} : rcheck g = 0 ↔ gcheck g = 0 ∧ leftM g = [] := by
  rw [rcheck]
  by_cases h : gcheck g = 0
  · rw [if_pos h]
    cases leftM g with
    | nil => exact ⟨fun _ => ⟨h, rfl⟩, fun _ => rfl⟩
    | cons n r => exact ⟨fun h => absurd (show (17 : Int) = 0 from h) (by decide), fun h => by cases h.2⟩
  · rw [if_neg h]; exact ⟨fun k => absurd k h, fun k => k.1⟩
theorem acyclic {g : Gr} (hv : Valid g) (h : leftM g = []) (i : Nat) : ¬ Tr (fun a b => suc (begM g) a b = true) i i := fun hc => by
  have hi : i < g.names.length := hc.lt fun a b h => begM_in hv h
  have := (leftM_iff hv).2 ⟨hi, hc⟩
  rw [h] at this; cases this
section
variable (E : Env) (L : List Res)
theorem Order_call (gv : Value) (g : Gr) (hg : GrE E gv g) (hl : Light g) : CallS Try.prog 55 #[gv] E L (fun r E' L' => ∃ p c, r = .tuple #[.slice p (ordR g).length c, .int .i64 (rcheck g)] ∧ SlE E' 1 p (ordR g).length (i64s (natsI (ordR g))) ∧ L' = L) := by
  have hg0 := hg
  obtain ⟨tp, tc, np, nc, pp, pc, rfl, ht, hn, ⟨rows, hrows, hps, hre⟩, k1, k2, k3⟩ := hg
  have q1 := hl.t; have q2 := hl.n; have q3 := hl.p
  refine CallS.intro (l := [_]) _ Try.func55 rfl Try.ntmps55 rfl ?_
  by_cases h0 : rcheck g = 0
  · obtain ⟨hc, hle⟩ := rcheck_zero.1 h0
    have hv := valid_of hc
    have hno := acyclic hv hle
    have hin := fun i j (h : suc (begM g) i j = true) => begM_in hv h
    have h256 := begM_lt hv
    have hbl := begM_len g
    have hn8 := hv.names.2
    rw [ordR, if_pos h0, h0]
    refine G_seq (G_region ?_)
    (refine G_boxA rfl rfl rfl rfl (.none rfl) ?_; intro b1)
    refine G_val (V_assign rfl rfl) rfl rfl (.none rfl) ?_
    refine G_val (V_assign rfl rfl) rfl rfl (.none rfl) ?_
    refine G_end (X_then (G_seq (G_seq (G_region ?_))))
    refine G_val (V_loadA rfl rfl (Cells.own (.head _)) rfl) rfl rfl (.none rfl) ?_
    refine G_call (k := 28) (.mk rfl rfl rfl rfl) rfl rfl (.none rfl) (RCheck_call _ _ _ _ (by assumption) (by assumption)) ?_
    rintro r1 E2 L3 hE4 ⟨rfl, rfl⟩
    replace hg0 := hg0.mono hE4
    replace ht := ht.mono hE4
    replace hn := hn.mono hE4
    replace hps := hps.mono hE4
    refine G_val (V_move rfl rfl) rfl rfl (.none rfl) ?_
    refine G_val (V_extract rfl rfl rfl) rfl rfl (.none rfl) ?_
    refine G_val (V_extract rfl rfl rfl) rfl rfl (.none rfl) ?_
    refine G_val (V_assign rfl rfl) rfl rfl (.none rfl) ?_
    refine G_val (V_assign rfl rfl) rfl rfl (.none rfl) ?_
    refine G_end (X_then (G_seq (G_region ?_)))
    refine G_val (V_move rfl rfl) rfl rfl (.none rfl) ?_
    refine G_val (V_neq rfl rfl rfl) rfl rfl (.none rfl) ?_
    refine G_end (X_then ?_)
    refine G_cond_f rfl (decide_eq_false (by omega)) ?_
    refine G_skip (X_then (G_seq (G_region ?_)))
    refine G_val (V_loadA rfl rfl (Cells.own (.head _)) rfl) rfl rfl (.none rfl) ?_
    refine G_call (k := 69) (.mk rfl rfl rfl rfl) rfl rfl (.none rfl) (begins_call _ _ _ _ (by assumption) (by assumption) (by assumption)) ?_
    rintro r5 E6 L7 hE8 ⟨z9, ⟨rfl, ⟨Z10, rfl⟩⟩⟩
    replace hg0 := hg0.mono hE8
    replace ht := ht.mono hE8
    replace hn := hn.mono hE8
    replace hps := hps.mono hE8
    refine G_val (V_assign rfl rfl) rfl rfl (.none rfl) ?_
    refine G_end (X_then (G_seq (G_region ?_)))
    refine G_val (V_assign rfl rfl) rfl rfl (.none rfl) ?_
    refine G_end (X_then (G_seq (G_region ?_)))
    refine G_val (V_assign rfl rfl) rfl rfl (.none rfl) ?_
    refine G_end (X_then (G_seq (G_block ?_)))
    have hsl : SlE E6 1 (some ⟨z9, 0, none⟩) g.names.length (sets (begM g)) := by assumption
    refine G.nilSl 3 1 ?_
    refine G_loop (α := Option Addr × Nat × List Nat × Nat) (fun x => [(6, .slice (some ⟨z9, 0, none⟩) g.names.length g.names.length), (7, .slice x.1 x.2.2.1.length x.2.1), (8, .int .u8 x.2.2.2)]) (fun _ => E6)
      (fun x => .sl 3 1 x.1 x.2.2.1.length x.2.1 (i64s (natsI x.2.2.1)) :: GB b1 g tp tc np nc pp pc :: L)
      (fun x => OrdP (begM g) g.names.length x.2.2.1 x.2.2.2 ∧ ordS (begM g) g.names.length (g.names.length - x.2.2.1.length) x.2.2.1 x.2.2.2 = ordL (begM g) g.names.length) (fun x => g.names.length - x.2.2.1.length) (none, 0, [], 0) ⟨OrdP.nil _ _, rfl⟩ ⟨rfl, rfl, rfl, trivial⟩ rfl rfl ?_
    rintro ⟨a, c, out, t⟩ ⟨hp, ho⟩
    simp only at hp ho ⊢
    have hle := hp.len
    have ht256 := hp.lt
    have hol : (i64s (natsI out)).length = out.length := by rw [i64s, List.length_map, natsI_len]
    by_cases hlt : out.length < g.names.length
    · refine G_seq ?_
      refine G_seq (G_region ?_)
      refine G_val (V_move rfl rfl) rfl rfl (.none rfl) ?_
      refine G_val (V_lenS rfl rfl) rfl rfl (.none rfl) ?_
      refine G_val (V_move rfl rfl) rfl rfl (.none rfl) ?_
      refine G_val (V_lenS rfl rfl) rfl rfl (.none rfl) ?_
      refine G_val (V_lss rfl rfl rfl) rfl rfl (.none rfl) ?_
      refine G_end (X_then ?_)
      refine G_cond_t rfl (decide_eq_true (by omega)) ?_
      refine G_skip (X_then (G_block (G_seq (G_region ?_))))
      refine G_val (V_move rfl rfl) rfl rfl (.none rfl) ?_
      refine G_val (V_lenS rfl rfl) rfl rfl (.none rfl) ?_
      refine G_val (V_move rfl rfl) rfl rfl (.none rfl) ?_
      refine G_end (X_then (G_block ?_))
      refine G_loop (α := Nat) (fun i => [(6, .slice (some ⟨z9, 0, none⟩) g.names.length g.names.length), (7, .slice a out.length c), (8, .int .u8 t), (26, .slice (some ⟨z9, 0, none⟩) g.names.length g.names.length), (27, .int .i64 g.names.length), (28, .int .i64 i)]) (fun _ => E6)
        (fun _ => .sl 3 1 a out.length c (i64s (natsI out)) :: GB b1 g tp tc np nc pp pc :: L)
        (fun i => i ≤ g.names.length ∧ ∀ j, j < i → freeB (begM g) t j = false) (fun i => g.names.length - i) 0 ⟨Nat.zero_le _, fun j h => by omega⟩ ⟨rfl, rfl, rfl, rfl, rfl, rfl, trivial⟩ rfl rfl ?_
      rintro i ⟨hi, hno2⟩
      by_cases hlti : i < g.names.length
      · have hat := sets_at (l := begM g) (i := i) (by omega)
        have hi256 := h256 i
        have hfe := freeB_eq (l := begM g) (t := t) (i := i)
        have hoa := or_at ht256 (show i < 8 by omega)
        cases hf : freeB (begM g) t i with
        | true =>
          have hst := ordS_step hlt hlti hf hno2
          have hp2 := hp.step hn8 hin hlti hf
          rw [hf, eq_comm, Bool.and_eq_true, Bool.not_eq_true', decide_eq_true_eq] at hfe
          obtain ⟨f1, f2⟩ := hfe
          refine G_seq (G_region ?_)
          refine G_val (V_lss rfl rfl rfl) rfl rfl (.none rfl) ?_
          refine G_end (X_then (G_seq ?_))
          refine G_cond_t rfl (decide_eq_true (by omega)) ?_
          refine G_skip (X_then (G_seq (G_block (G_seq (G_region ?_)))))
          refine G_val (V_move rfl rfl) rfl rfl (.none rfl) ?_
          refine G_val (V_idxAddr rfl rfl rfl (SlE.rd (by assumption)) (by omega) (by omega)) rfl rfl (.none rfl) ?_
          refine G_val (V_loadS rfl rfl (SlE.rd (by assumption)) (by assumption) (by simp)) rfl rfl (.none rfl) ?_
          refine G_val (V_assign rfl rfl) rfl rfl (.none rfl) ?_
          refine G_val (V_assign rfl rfl) rfl rfl (.none rfl) ?_
          refine G_end (X_then (G_seq (G_region ?_)))
          refine G_val (V_move rfl rfl) rfl rfl (.none rfl) ?_
          refine G_val (V_move rfl rfl) rfl rfl (.none rfl) ?_
          refine G_callv (k := 91) (.mk rfl rfl rfl rfl) rfl rfl (.none rfl) (has_call _ _ _ _ (by assumption) (by omega)) ?_
          refine G_val (V_not rfl rfl) rfl rfl (.none rfl) ?_
          refine G_val (V_move rfl rfl) rfl rfl (.none rfl) ?_
          refine G.bool_t 37 rfl (by simp [*]; done) ?_
          refine G_val (V_move rfl rfl) rfl rfl (.yes rfl rfl rfl rfl) ?_
          refine G_val (V_move rfl rfl) rfl rfl (.yes rfl rfl rfl rfl) ?_
          refine G_val (V_andNot rfl rfl rfl) rfl rfl (.yes rfl rfl rfl rfl) ?_
          refine G_val (V_eql rfl rfl rfl) rfl rfl (.yes rfl rfl rfl rfl) ?_
          refine G_val (V_pick_t rfl rfl rfl) rfl rfl (.none rfl) ?_
          refine G_end (X_then ?_)
          refine G_cond_t rfl (decide_eq_true (by omega)) ?_
          refine G_seq (G_region ?_)
          refine G_val (V_move rfl rfl) rfl rfl (.none rfl) ?_
          refine G_val (V_move rfl rfl) rfl rfl (.none rfl) ?_
          refine G_val (V_shl rfl rfl rfl (by omega)) rfl rfl (.none rfl) ?_
          refine G_val (V_or rfl rfl rfl) rfl rfl (.none rfl) ?_
          refine G_val (V_assign rfl rfl) rfl rfl (.none rfl) ?_
          refine G_end (X_then (G_seq (G_region ?_)))
          refine G_val (V_move rfl rfl) rfl rfl (.none rfl) ?_
          refine G_val (V_move rfl rfl) rfl rfl (.none rfl) ?_
          (refine G_lit1 rfl rfl rfl rfl rfl (.none rfl) ?_; intro b49)
          (refine G_append rfl rfl rfl (Rd.lit (.head _) rfl) (by simp [Value.oneCell']) (by omega) (by omega) rfl rfl (.none rfl) (fun _ _ => (.tail _ (.head _ _ _))) ?_; intro a50 c50; refine G.rm (.head _ _) ?_)
          refine G_val (V_assign rfl rfl) rfl rfl (.none rfl) ?_
          refine G_end (X_then (G_exit ?_))
          refine X_block_miss rfl ?_
          refine X_then_exit (X_then_exit (X_block_hit (X_block (X_then ?_))))
          rw [hoa.1]
          exact G_again (_, _, out ++ [i], t ||| 2 ^ i) ⟨hp2, by rw [← hst]; exact ho⟩ (by simp only [List.length_append, List.length_singleton]; omega) ⟨rfl, by rw [List.length_append]; rfl, rfl, trivial⟩ rfl (by rw [List.length_append, natsI_snoc, i64s_snoc]; rfl)
        | false =>
          have hno3 : ∀ j, j < i + 1 → freeB (begM g) t j = false := fun j hj => by
            by_cases he : j = i
            · rw [he]; exact hf
            · exact hno2 j (by omega)
          cases hb : t.testBit i with
          | true =>
            refine G_seq (G_region ?_)
            refine G_val (V_lss rfl rfl rfl) rfl rfl (.none rfl) ?_
            refine G_end (X_then (G_seq ?_))
            refine G_cond_t rfl (decide_eq_true (by omega)) ?_
            refine G_skip (X_then (G_seq (G_block (G_seq (G_region ?_)))))
            refine G_val (V_move rfl rfl) rfl rfl (.none rfl) ?_
            refine G_val (V_idxAddr rfl rfl rfl (SlE.rd (by assumption)) (by omega) (by omega)) rfl rfl (.none rfl) ?_
            refine G_val (V_loadS rfl rfl (SlE.rd (by assumption)) (by assumption) (by simp)) rfl rfl (.none rfl) ?_
            refine G_val (V_assign rfl rfl) rfl rfl (.none rfl) ?_
            refine G_val (V_assign rfl rfl) rfl rfl (.none rfl) ?_
            refine G_end (X_then (G_seq (G_region ?_)))
            refine G_val (V_move rfl rfl) rfl rfl (.none rfl) ?_
            refine G_val (V_move rfl rfl) rfl rfl (.none rfl) ?_
            refine G_callv (k := 91) (.mk rfl rfl rfl rfl) rfl rfl (.none rfl) (has_call _ _ _ _ (by assumption) (by omega)) ?_
            refine G_val (V_not rfl rfl) rfl rfl (.none rfl) ?_
            refine G_val (V_move rfl rfl) rfl rfl (.none rfl) ?_
            refine G.bool_f 37 rfl (by simp [*]; done) ?_
            refine G_stay (.no rfl rfl rfl rfl) rfl rfl ?_
            refine G_stay (.no rfl rfl rfl rfl) rfl rfl ?_
            refine G_stay (.no rfl rfl rfl rfl) rfl rfl ?_
            refine G_stay (.no rfl rfl rfl rfl) rfl rfl ?_
            refine G_val (V_pick_f rfl rfl rfl) rfl rfl (.none rfl) ?_
            refine G_end (X_then ?_)
            refine G_cond_f rfl rfl ?_
            refine G_skip (X_block (X_then (G_region ?_)))
            refine G_val (V_add_i64 rfl rfl rfl (by omega) (by omega)) rfl rfl (.none rfl) ?_
            refine G_val (V_move rfl rfl) rfl rfl (.none rfl) ?_
            refine G_end (X_then ?_)
            exact G_again (i + 1) ⟨hlti, hno3⟩ (by omega) ⟨rfl, rfl, rfl, rfl, rfl, rfl, trivial⟩ rfl rfl
          | false =>
            rw [hf, hb, eq_comm, Bool.not_false, Bool.true_and, decide_eq_false_iff_not] at hfe
            refine G_seq (G_region ?_)
            refine G_val (V_lss rfl rfl rfl) rfl rfl (.none rfl) ?_
            refine G_end (X_then (G_seq ?_))
            refine G_cond_t rfl (decide_eq_true (by omega)) ?_
            refine G_skip (X_then (G_seq (G_block (G_seq (G_region ?_)))))
            refine G_val (V_move rfl rfl) rfl rfl (.none rfl) ?_
            refine G_val (V_idxAddr rfl rfl rfl (SlE.rd (by assumption)) (by omega) (by omega)) rfl rfl (.none rfl) ?_
            refine G_val (V_loadS rfl rfl (SlE.rd (by assumption)) (by assumption) (by simp)) rfl rfl (.none rfl) ?_
            refine G_val (V_assign rfl rfl) rfl rfl (.none rfl) ?_
            refine G_val (V_assign rfl rfl) rfl rfl (.none rfl) ?_
            refine G_end (X_then (G_seq (G_region ?_)))
            refine G_val (V_move rfl rfl) rfl rfl (.none rfl) ?_
            refine G_val (V_move rfl rfl) rfl rfl (.none rfl) ?_
            refine G_callv (k := 91) (.mk rfl rfl rfl rfl) rfl rfl (.none rfl) (has_call _ _ _ _ (by assumption) (by omega)) ?_
            refine G_val (V_not rfl rfl) rfl rfl (.none rfl) ?_
            refine G_val (V_move rfl rfl) rfl rfl (.none rfl) ?_
            refine G.bool_t 37 rfl (by simp [*]; done) ?_
            refine G_val (V_move rfl rfl) rfl rfl (.yes rfl rfl rfl rfl) ?_
            refine G_val (V_move rfl rfl) rfl rfl (.yes rfl rfl rfl rfl) ?_
            refine G_val (V_andNot rfl rfl rfl) rfl rfl (.yes rfl rfl rfl rfl) ?_
            refine G_val (V_eql rfl rfl rfl) rfl rfl (.yes rfl rfl rfl rfl) ?_
            refine G_val (V_pick_t rfl rfl rfl) rfl rfl (.none rfl) ?_
            refine G_end (X_then ?_)
            refine G_cond_f rfl (decide_eq_false (by omega)) ?_
            refine G_skip (X_block (X_then (G_region ?_)))
            refine G_val (V_add_i64 rfl rfl rfl (by omega) (by omega)) rfl rfl (.none rfl) ?_
            refine G_val (V_move rfl rfl) rfl rfl (.none rfl) ?_
            refine G_end (X_then ?_)
            exact G_again (i + 1) ⟨hlti, hno3⟩ (by omega) ⟨rfl, rfl, rfl, rfl, rfl, rfl, trivial⟩ rfl rfl
      · exfalso
        obtain ⟨k, hk, hkf⟩ := hp.exists_free hin hno hlt
        rw [hno2 k (by omega)] at hkf
        cases hkf
    · have hout : ordL (begM g) g.names.length = out := by rw [← ho]; exact ordS_done _ _ (by omega)
      rw [hout]
      refine G.freezeSl (.head _ _) ?_
      intro E7 hE7 hs7 hc7
      refine G_seq (G_seq (G_region ?_))
      refine G_val (V_move rfl rfl) rfl rfl (.none rfl) ?_
      refine G_val (V_lenS rfl rfl) rfl rfl (.none rfl) ?_
      refine G_val (V_move rfl rfl) rfl rfl (.none rfl) ?_
      refine G_val (V_lenS rfl rfl) rfl rfl (.none rfl) ?_
      refine G_val (V_lss rfl rfl rfl) rfl rfl (.none rfl) ?_
      refine G_end (X_then ?_)
      refine G_cond_f rfl (decide_eq_false (by omega)) ?_
      refine G_exit (X_then_exit (X_then_exit (X_block_hit (X_then (G_seq (G_region ?_))))))
      refine G_val (V_move rfl rfl) rfl rfl (.none rfl) ?_
      refine G_val (V_assign rfl rfl) rfl rfl (.none rfl) ?_
      refine G_val (V_assign rfl rfl) rfl rfl (.none rfl) ?_
      refine G_end (X_then (G_ret ?_))
      refine G_leaveS (.drop _ (.nil _)) (by exact (.cons (.tmp rfl) (.cons (.tmp rfl) (.nil)))) rfl ?_ ?_
      · exact ((hE4.trans hE8).trans hE7)
      exact ⟨_, ⟨_, ⟨rfl, ⟨(by assumption), rfl⟩⟩⟩⟩
  · rw [ordR, if_neg h0]
    have hnil := @SlE.nil E 1
    refine G_seq (G_region ?_)
    (refine G_boxA rfl rfl rfl rfl (.none rfl) ?_; intro b1)
    refine G_val (V_assign rfl rfl) rfl rfl (.none rfl) ?_
    refine G_val (V_assign rfl rfl) rfl rfl (.none rfl) ?_
    refine G_end (X_then (G_seq (G_seq (G_region ?_))))
    refine G_val (V_loadA rfl rfl (Cells.own (.head _)) rfl) rfl rfl (.none rfl) ?_
    refine G_call (k := 28) (.mk rfl rfl rfl rfl) rfl rfl (.none rfl) (RCheck_call _ _ _ _ (by assumption) (by assumption)) ?_
    rintro r1 E2 L3 hE4 ⟨rfl, rfl⟩
    replace hg0 := hg0.mono hE4
    replace ht := ht.mono hE4
    replace hn := hn.mono hE4
    replace hps := hps.mono hE4
    replace hnil := hnil.mono hE4
    refine G_val (V_move rfl rfl) rfl rfl (.none rfl) ?_
    refine G_val (V_extract rfl rfl rfl) rfl rfl (.none rfl) ?_
    refine G_val (V_extract rfl rfl rfl) rfl rfl (.none rfl) ?_
    refine G_val (V_assign rfl rfl) rfl rfl (.none rfl) ?_
    refine G_val (V_assign rfl rfl) rfl rfl (.none rfl) ?_
    refine G_end (X_then (G_seq (G_region ?_)))
    refine G_val (V_move rfl rfl) rfl rfl (.none rfl) ?_
    refine G_val (V_neq rfl rfl rfl) rfl rfl (.none rfl) ?_
    refine G_end (X_then ?_)
    refine G_cond_t rfl (decide_eq_true (by omega)) ?_
    refine G_seq (G_region ?_)
    refine G_val (V_move rfl rfl) rfl rfl (.none rfl) ?_
    refine G_val (V_assign rfl rfl) rfl rfl (.none rfl) ?_
    refine G_val (V_assign rfl rfl) rfl rfl (.none rfl) ?_
    refine G_end (X_then (G_ret (X_then_ret ?_)))
    refine G_leaveS (.drop _ (.nil _)) (by exact (.cons (.tmp rfl) (.cons (.tmp rfl) (.nil)))) rfl ?_ ?_
    · exact hE4
    exact ⟨_, ⟨_, ⟨rfl, ⟨(by assumption), rfl⟩⟩⟩⟩
end
end Go.Proofs.Ytaoinojdijbhaaa
set_option linter.unusedSimpArgs false
set_option linter.unusedVariables false
set_option maxHeartbeats 2000000
set_option maxRecDepth 20000
namespace Go.Proofs.Ytaoinojdijbhaaa
open Go.RowKit
/-! The length of the longest chain. -/
def hin (h : List Nat) (n : Nat) (ms : List Nat) : List Nat := ms.foldl (fun h m => h.set n (max (h.getD n 0) (h.getD m 0 + 1))) h
def hgo (l : List Nat) : List Nat → List Nat → Nat → List Nat × Nat
  | [], h, most => (h, most)
  | n :: r, h, most => hgo l r (hin (h.set n 1) n (bitL (l.getD n 0))) (max most ((hin (h.set n 1) n (bitL (l.getD n 0))).getD n 0))
def heightM (g : Gr) : Nat := if rcheck g = 0 then (hgo (begM g) (ordR g) (List.replicate g.names.length 0) 0).2 else 0
theorem hin_len (h : List Nat) (n : Nat) (ms : List Nat) : (hin h n ms).length = h.length := by
  induction ms generalizing h with
  | nil => rfl
  | cons m ms ih => rw [hin, List.foldl_cons]; exact (ih _).trans (by rw [List.length_set])
theorem hin_snoc (h : List Nat) (n : Nat) (ms : List Nat) (m : Nat) : hin h n (ms ++ [m]) = (hin h n ms).set n (max ((hin h n ms).getD n 0) ((hin h n ms).getD m 0 + 1)) := by
  rw [hin, List.foldl_append]; rfl
theorem getD_set (h : List Nat) (n v i : Nat) : (h.set n v).getD i 0 = if n = i ∧ n < h.length then v else h.getD i 0 := by
  rw [List.getD, List.getElem?_set]
  by_cases he : n = i
  · by_cases hl : n < h.length
    · rw [if_pos he, if_pos hl, if_pos ⟨he, hl⟩]; rfl
    · rw [if_pos he, if_neg hl, if_neg (fun h => hl h.2)]
      subst he
      rw [List.getD, List.getElem?_eq_none (by omega)]
  · rw [if_neg he, if_neg (fun h => he h.1)]; rfl
theorem hin_le {h : List Nat} {n B : Nat} (hB : ∀ i, h.getD i 0 ≤ B) (ms : List Nat) : ∀ i, (hin h n ms).getD i 0 ≤ B + ms.length := by
  induction ms generalizing h B with
  | nil => exact hB
  | cons m ms ih =>
    intro i
    have := ih (h := h.set n (max (h.getD n 0) (h.getD m 0 + 1))) (B := B + 1) (fun i => by
      rw [getD_set]
      have h1 := hB n; have h2 := hB m; have h3 := hB i
      by_cases hc : n = i ∧ n < h.length
      · rw [if_pos hc]; omega
      · rw [if_neg hc]; omega) i
    rw [List.length_cons]
    have e : hin h n (m :: ms) = hin (h.set n (max (h.getD n 0) (h.getD m 0 + 1))) n ms := rfl
    rw [e]; omega
theorem nats_set (h : List Nat) (i v : Nat) : (i64s (natsI h)).set i (.int .i64 (v : Int)) = i64s (natsI (h.set i v)) := by simp [i64s, natsI, List.map_set]
theorem nats_at {h : List Nat} {i : Nat} (hi : i < h.length) : (i64s (natsI h))[i]? = some (.int .i64 (h.getD i 0 : Nat)) := by simp [i64s, natsI, hi]
theorem nats_zero (n : Nat) : List.replicate n (Value.int .i64 0) = i64s (natsI (List.replicate n 0)) := by simp [i64s, natsI]
theorem nats_len (h : List Nat) : (i64s (natsI h)).length = h.length := by rw [i64s, List.length_map, natsI_len]
/-- So far. -/
theorem hgo_step {l : List Nat} {o : List Nat} {k : Nat} (hk : k < o.length) (h : List Nat) (most : Nat) : hgo l (o.drop k) h most = hgo l (o.drop (k + 1)) (hin (h.set o[k] 1) o[k] (bitL (l.getD o[k] 0))) (max most ((hin (h.set o[k] 1) o[k] (bitL (l.getD o[k] 0))).getD o[k] 0)) := by
  rw [List.drop_eq_getElem_cons hk, hgo]
section
variable (E : Env) (L : List Res)
theorem Height_call (gv : Value) (g : Gr) (hg : GrE E gv g) (hl : Light g) (ho : rcheck g = 0 → ∀ x, x ∈ ordR g → x < g.names.length) (hol : (ordR g).length ≤ 8) : CallS Try.prog 56 #[gv] E L (fun r E' L' => r = .tuple #[.int .i64 (heightM g), .int .i64 (rcheck g)] ∧ L' = L) := by
  have hg0 := hg
  obtain ⟨tp, tc, np, nc, pp, pc, rfl, ht, hn, ⟨rows, hrows, hps, hre⟩, k1, k2, k3⟩ := hg
  have q1 := hl.t; have q2 := hl.n; have q3 := hl.p
  refine CallS.intro (l := [_]) _ Try.func56 rfl Try.ntmps56 rfl ?_
  by_cases h0 : rcheck g = 0
  · obtain ⟨hc, hle⟩ := rcheck_zero.1 h0
    have hv := valid_of hc
    have hin' := fun i j (h : suc (begM g) i j = true) => begM_in hv h
    have h256 := begM_lt hv
    have hbl := begM_len g
    have hn8 := hv.names.2
    replace ho := ho h0
    rw [heightM, if_pos h0, h0]
    refine G_seq (G_region ?_)
    (refine G_boxA rfl rfl rfl rfl (.none rfl) ?_; intro b1)
    refine G_val (V_assign rfl rfl) rfl rfl (.none rfl) ?_
    refine G_val (V_assign rfl rfl) rfl rfl (.none rfl) ?_
    refine G_end (X_then (G_seq (G_region ?_)))
    refine G_val (V_loadA rfl rfl (Cells.own (.head _)) rfl) rfl rfl (.none rfl) ?_
    refine G_call (k := 55) (.mk rfl rfl rfl rfl) rfl rfl (.none rfl) (Order_call _ _ _ _ (by assumption) (by assumption)) ?_
    rintro r1 E2 L3 hE4 ⟨z5, ⟨z6, ⟨rfl, ⟨Z7, rfl⟩⟩⟩⟩
    replace hg0 := hg0.mono hE4
    replace ht := ht.mono hE4
    replace hn := hn.mono hE4
    replace hps := hps.mono hE4
    refine G_val (V_move rfl rfl) rfl rfl (.none rfl) ?_
    refine G_val (V_extract rfl rfl rfl) rfl rfl (.none rfl) ?_
    refine G_val (V_extract rfl rfl rfl) rfl rfl (.none rfl) ?_
    refine G_val (V_assign rfl rfl) rfl rfl (.none rfl) ?_
    refine G_val (V_assign rfl rfl) rfl rfl (.none rfl) ?_
    refine G_end (X_then (G_seq (G_seq (G_region ?_))))
    refine G_val (V_move rfl rfl) rfl rfl (.none rfl) ?_
    refine G_val (V_neq rfl rfl rfl) rfl rfl (.none rfl) ?_
    refine G_end (X_then ?_)
    refine G_cond_f rfl (decide_eq_false (by omega)) ?_
    refine G_skip (X_then (G_seq (G_region ?_)))
    refine G_val (V_loadA rfl rfl (Cells.own (.head _)) rfl) rfl rfl (.none rfl) ?_
    refine G_call (k := 69) (.mk rfl rfl rfl rfl) rfl rfl (.none rfl) (begins_call _ _ _ _ (by assumption) (by assumption) (by assumption)) ?_
    rintro r8 E9 L10 hE11 ⟨z12, ⟨rfl, ⟨Z13, rfl⟩⟩⟩
    replace Z7 := Z7.mono hE11
    replace hg0 := hg0.mono hE11
    replace ht := ht.mono hE11
    replace hn := hn.mono hE11
    replace hps := hps.mono hE11
    refine G_val (V_assign rfl rfl) rfl rfl (.none rfl) ?_
    refine G_end (X_then (G_seq (G_region ?_)))
    refine G_val (V_move rfl rfl) rfl rfl (.none rfl) ?_
    refine G_val (V_lenS rfl rfl) rfl rfl (.none rfl) ?_
    (refine G_makeSlice rfl rfl rfl (by omega) (by omega) (by omega) rfl rfl (.none rfl) ?_; intro b25)
    refine G_val (V_assign rfl rfl) rfl rfl (.none rfl) ?_
    refine G_end (X_then (G_seq (G_region ?_)))
    refine G_val (V_assign rfl rfl) rfl rfl (.none rfl) ?_
    refine G_end (X_then (G_seq (G_seq (G_region ?_))))
    refine G_val (V_move rfl rfl) rfl rfl (.none rfl) ?_
    refine G_val (V_lenS rfl rfl) rfl rfl (.none rfl) ?_
    refine G_val (V_move rfl rfl) rfl rfl (.none rfl) ?_
    refine G_end (X_then (G_block ?_))
    simp only [Int.toNat_natCast]
    rw [nats_zero]
    have hso : SlE E9 1 z5 (ordR g).length (i64s (natsI (ordR g))) := by assumption
    have hsl : SlE E9 1 (some ⟨z12, 0, none⟩) g.names.length (sets (begM g)) := by assumption
    generalize ordR g = o at *
    refine G_loop (α := Nat × Env × List Nat × Nat) (fun x => [(6, .slice (some ⟨z12, 0, none⟩) g.names.length g.names.length), (7, .slice (some ⟨b25, 0, none⟩) g.names.length g.names.length), (8, .int .i64 x.2.2.2), (26, .slice z5 o.length z6), (27, .int .i64 o.length), (28, .int .i64 x.1)]) (fun x => x.2.1)
      (fun x => .blk b25 (.cells (i64s (natsI x.2.2.1)).toArray 3 (0, 0)) :: GB b1 g tp tc np nc pp pc :: L)
      (fun x => E9.Le x.2.1 ∧ x.1 ≤ o.length ∧ x.2.2.1.length = g.names.length ∧ hgo (begM g) (o.drop x.1) x.2.2.1 x.2.2.2 = hgo (begM g) o (List.replicate g.names.length 0) 0 ∧ (∀ i, x.2.2.1.getD i 0 ≤ 9 * x.1) ∧ x.2.2.2 ≤ 9 * x.1) (fun x => o.length - x.1) (0, E9, List.replicate g.names.length 0, 0)
      ⟨.refl _, Nat.zero_le _, List.length_replicate .., rfl, fun i => by
        show (List.replicate g.names.length 0).getD i 0 ≤ _
        rw [List.getD, List.getElem?_replicate]
        by_cases hi : i < g.names.length
        · rw [if_pos hi]; exact Nat.zero_le _
        · rw [if_neg hi]; exact Nat.zero_le _, Nat.zero_le _⟩ ⟨rfl, rfl, rfl, rfl, rfl, rfl, trivial⟩ rfl rfl ?_
    rintro ⟨k, E1, h, most⟩ ⟨hE1, hk, hhl, hgo1, hb, hmo⟩
    simp only at hE1 hk hhl hgo1 hb hmo ⊢
    replace hso := hso.mono hE1
    replace hsl := hsl.mono hE1
    have hnl := nats_len h
    by_cases hlt : k < o.length
    · have hx := i64s_at (l := natsI o) (i := k) (by rw [natsI_len]; exact hlt)
      have hxk : (natsI o)[k]'(by rw [natsI_len]; exact hlt) = ((o[k] : Nat) : Int) := by simp [natsI]
      rw [hxk] at hx
      have hst := hgo_step (l := begM g) hlt h most
      have hon := ho _ (List.getElem_mem hlt)
      generalize hq : o[k] = n0 at hx hst hon
      have hat := sets_at (l := begM g) (i := n0) (by omega)
      have hq256 := h256 n0
      have hb8 := bitL_le ((begM g).getD n0 0)
      have hms : ∀ m, m ∈ bitL ((begM g).getD n0 0) → m < g.names.length := fun m hm => hin' n0 m ((mem_bitL hq256).1 hm)
      generalize hqq : (begM g).getD n0 0 = q at hat hq256 hb8 hms hst
      have hset : (i64s (natsI h)).set n0 (.int .i64 1) = i64s (natsI (h.set n0 1)) := nats_set h n0 1
      refine G_seq (G_region ?_)
      refine G_val (V_lss rfl rfl rfl) rfl rfl (.none rfl) ?_
      refine G_end (X_then (G_seq ?_))
      refine G_cond_t rfl (decide_eq_true (by omega)) ?_
      refine G_skip (X_then (G_seq (G_block (G_seq (G_region ?_)))))
      refine G_val (V_idxAddr rfl rfl rfl (SlE.rd (by assumption)) (by omega) (by omega)) rfl rfl (.none rfl) ?_
      refine G_val (V_loadS rfl rfl (SlE.rd (by assumption)) (by assumption) (by simp)) rfl rfl (.none rfl) ?_
      refine G_val (V_assign rfl rfl) rfl rfl (.none rfl) ?_
      refine G_end (X_then (G_seq (G_region ?_)))
      refine G_val (V_move rfl rfl) rfl rfl (.none rfl) ?_
      refine G_val (V_move rfl rfl) rfl rfl (.none rfl) ?_
      refine G_val (V_idxB1n rfl rfl rfl (by omega)) rfl rfl (.none rfl) ?_
      refine G_storeB rfl rfl rfl rfl rfl rfl (.none rfl) (.head _ _ _) (by omega) ?_
      refine G_end (X_then (G_seq (G_seq (G_region ?_))))
      refine G_val (V_move rfl rfl) rfl rfl (.none rfl) ?_
      refine G_val (V_move rfl rfl) rfl rfl (.none rfl) ?_
      refine G_val (V_idxAddr rfl rfl rfl (SlE.rd (by assumption)) (by omega) (by omega)) rfl rfl (.none rfl) ?_
      refine G_val (V_loadS rfl rfl (SlE.rd (by assumption)) (by assumption) (by simp)) rfl rfl (.none rfl) ?_
      refine G_call (k := 70) (.mk rfl rfl rfl rfl) rfl rfl (.none rfl) (list_call _ _ _ (by assumption)) ?_
      rintro r1 E3 L4 hE5 ⟨z7, ⟨z8, ⟨rfl, ⟨Z9, rfl⟩⟩⟩⟩
      replace hso := hso.mono hE5
      replace hsl := hsl.mono hE5
      refine G_val (V_lenS rfl rfl) rfl rfl (.none rfl) ?_
      refine G_val (V_move rfl rfl) rfl rfl (.none rfl) ?_
      refine G_end (X_then (G_block ?_))
      rw [hset]
      have hs2 : SlE E3 1 z7 (bitL q).length (i64s (natsI (bitL q))) := by assumption
      have hb1 : ∀ i, (h.set n0 1).getD i 0 ≤ 9 * k + 1 := fun i => by
        rw [getD_set]
        have := hb i
        by_cases hc : n0 = i ∧ n0 < h.length
        · rw [if_pos hc]; omega
        · rw [if_neg hc]; omega
      have hh1 : (h.set n0 1).length = g.names.length := by rw [List.length_set, hhl]
      generalize h.set n0 1 = h1 at hb1 hh1 hst ⊢
      refine G_loop (α := Nat) (fun j => [(6, .slice (some ⟨z12, 0, none⟩) g.names.length g.names.length), (7, .slice (some ⟨b25, 0, none⟩) g.names.length g.names.length), (8, .int .i64 most), (10, .int .i64 n0), (26, .slice z5 o.length z6), (27, .int .i64 o.length), (28, .int .i64 k), (39, .slice z7 (bitL q).length z8), (40, .int .i64 (bitL q).length), (41, .int .i64 j)]) (fun _ => E3)
        (fun j => .blk b25 (.cells (i64s (natsI (hin h1 n0 ((bitL q).take j)))).toArray 3 (0, 0)) :: GB b1 g tp tc np nc pp pc :: L)
        (fun j => j ≤ (bitL q).length) (fun j => (bitL q).length - j) 0 (Nat.zero_le _) ⟨rfl, rfl, rfl, rfl, rfl, rfl, rfl, rfl, rfl, rfl, trivial⟩ rfl rfl ?_
      intro j hj
      have hbj := hin_le (h := h1) (n := n0) hb1 ((bitL q).take j)
      have hjl : ((bitL q).take j).length = j := by rw [List.length_take]; omega
      rw [hjl] at hbj
      have hlj : (hin h1 n0 ((bitL q).take j)).length = g.names.length := by rw [hin_len, hh1]
      have hnj := nats_len (hin h1 n0 ((bitL q).take j))
      by_cases hltj : j < (bitL q).length
      · have hy := i64s_at (l := natsI (bitL q)) (i := j) (by rw [natsI_len]; exact hltj)
        have hyk : (natsI (bitL q))[j]'(by rw [natsI_len]; exact hltj) = (((bitL q)[j] : Nat) : Int) := by simp [natsI]
        rw [hyk] at hy
        have htk := List.take_succ_eq_append_getElem hltj
        have hm := hms _ (List.getElem_mem hltj)
        generalize (bitL q)[j] = m at hy htk hm
        have hsn := hin_snoc h1 n0 ((bitL q).take j) m
        rw [← htk] at hsn
        have a1 := nats_at (h := hin h1 n0 ((bitL q).take j)) (i := n0) (by omega)
        have a2 := nats_at (h := hin h1 n0 ((bitL q).take j)) (i := m) (by omega)
        have e1 := hbj n0
        have e2 := hbj m
        have hset2 := nats_set (hin h1 n0 ((bitL q).take j)) n0
        generalize hin h1 n0 ((bitL q).take j) = hj1 at *
        refine G_seq (G_region ?_)
        refine G_val (V_lss rfl rfl rfl) rfl rfl (.none rfl) ?_
        refine G_end (X_then (G_seq ?_))
        refine G_cond_t rfl (decide_eq_true (by omega)) ?_
        refine G_skip (X_then (G_seq (G_block (G_seq (G_region ?_)))))
        refine G_val (V_idxAddr rfl rfl rfl (SlE.rd (by assumption)) (by omega) (by omega)) rfl rfl (.none rfl) ?_
        refine G_val (V_loadS rfl rfl (SlE.rd (by assumption)) (by assumption) (by simp)) rfl rfl (.none rfl) ?_
        refine G_val (V_assign rfl rfl) rfl rfl (.none rfl) ?_
        refine G_end (X_then ?_)
        (refine G_drawT 13 mixed (by kernel_rfl) ?_; dsimp only [List.take, List.drop])
        refine Q_val (V_move rfl rfl) rfl rfl (.none rfl) ?_
        refine Q_val (V_move rfl rfl) rfl rfl (.none rfl) ?_
        refine Q_val (V_move rfl rfl) rfl rfl (.none rfl) ?_
        refine Q_val (V_move rfl rfl) rfl rfl (.none rfl) ?_
        refine Q_val (V_idxB1n rfl rfl rfl (by omega)) rfl rfl (.none rfl) ?_
        refine Q_val (V_load rfl rfl (Cell.own (.head _) (by assumption))) rfl rfl (.none rfl) ?_
        refine Q_val (V_move rfl rfl) rfl rfl (.none rfl) ?_
        refine Q_val (V_move rfl rfl) rfl rfl (.none rfl) ?_
        refine Q_val (V_idxB1n rfl rfl rfl (by omega)) rfl rfl (.none rfl) ?_
        refine Q_val (V_load rfl rfl (Cell.own (.head _) (by assumption))) rfl rfl (.none rfl) ?_
        refine Q_val (V_add_i64 rfl rfl rfl (by omega) (by omega)) rfl rfl (.none rfl) ?_
        refine Q_val (V_max rfl rfl rfl) rfl rfl (.none rfl) ?_
        refine Q_val (V_idxB1n rfl rfl rfl (by omega)) rfl rfl (.none rfl) ?_
        refine Q_endT ?_
        refine G_storeB rfl rfl rfl rfl rfl rfl (.none rfl) (.head _ _ _) (by omega) ?_
        refine G_end (X_block (X_then (G_region ?_)))
        refine G_val (V_add_i64 rfl rfl rfl (by omega) (by omega)) rfl rfl (.none rfl) ?_
        refine G_val (V_move rfl rfl) rfl rfl (.none rfl) ?_
        refine G_end (X_then ?_)
        have em : max ((hj1.getD n0 0 : Nat) : Int) (((hj1.getD m 0 : Nat) : Int) + 1) = ((max (hj1.getD n0 0) (hj1.getD m 0 + 1) : Nat) : Int) := by omega
        rw [em, hset2, ← hsn]
        exact G_again (j + 1) hltj (by omega) ⟨rfl, rfl, rfl, rfl, rfl, rfl, rfl, rfl, rfl, rfl, trivial⟩ rfl rfl
      · rw [List.take_of_length_le (by omega)] at hbj hlj hnj ⊢
        have a1 := nats_at (h := hin h1 n0 (bitL q)) (i := n0) (by omega)
        have e1 := hbj n0
        generalize hin h1 n0 (bitL q) = hj1 at *
        refine G_seq (G_region ?_)
        refine G_val (V_lss rfl rfl rfl) rfl rfl (.none rfl) ?_
        refine G_end (X_then (G_seq ?_))
        refine G_cond_f rfl (decide_eq_false (by omega)) ?_
        refine G_exit (X_then_exit (X_then_exit (X_block_hit (X_then (G_region ?_)))))
        refine G_val (V_move rfl rfl) rfl rfl (.none rfl) ?_
        refine G_val (V_move rfl rfl) rfl rfl (.none rfl) ?_
        refine G_val (V_move rfl rfl) rfl rfl (.none rfl) ?_
        refine G_val (V_idxB1n rfl rfl rfl (by omega)) rfl rfl (.none rfl) ?_
        refine G_val (V_load rfl rfl (Cell.own (.head _) (by assumption))) rfl rfl (.none rfl) ?_
        refine G_val (V_max rfl rfl rfl) rfl rfl (.none rfl) ?_
        refine G_val (V_assign rfl rfl) rfl rfl (.none rfl) ?_
        refine G_end (X_block (X_then (G_region ?_)))
        refine G_val (V_add_i64 rfl rfl rfl (by omega) (by omega)) rfl rfl (.none rfl) ?_
        refine G_val (V_move rfl rfl) rfl rfl (.none rfl) ?_
        refine G_end (X_then ?_)
        have em : max (most : Int) ((hj1.getD n0 0 : Nat) : Int) = ((max most (hj1.getD n0 0) : Nat) : Int) := by omega
        rw [em]
        refine G_again (k + 1, E3, hj1, max most (hj1.getD n0 0)) ⟨hE1.trans (by assumption), hlt, hlj, by rw [← hst]; exact hgo1, fun i => ?_, ?_⟩ (by simp only; omega) ⟨rfl, rfl, rfl, rfl, rfl, rfl, trivial⟩ rfl rfl
        · have := hbj i; simp only; omega
        · simp only; omega
    · have hk2 : k = o.length := by omega
      subst hk2
      rw [List.drop_of_length_le (Nat.le_refl _), hgo] at hgo1
      rw [← hgo1]
      refine G_seq (G_region ?_)
      refine G_val (V_lss rfl rfl rfl) rfl rfl (.none rfl) ?_
      refine G_end (X_then (G_seq ?_))
      refine G_cond_f rfl (decide_eq_false (by omega)) ?_
      refine G_exit (X_then_exit (X_then_exit (X_block_hit (X_then (G_seq (G_region ?_))))))
      refine G_val (V_move rfl rfl) rfl rfl (.none rfl) ?_
      refine G_val (V_assign rfl rfl) rfl rfl (.none rfl) ?_
      refine G_val (V_assign rfl rfl) rfl rfl (.none rfl) ?_
      refine G_end (X_then (G_ret ?_))
      refine G_leaveS (.drop _ (.drop _ (.nil _))) (by exact (.cons (.tmp rfl) (.cons (.tmp rfl) (.nil)))) rfl ?_ ?_
      · exact ((hE4.trans hE11).trans hE1)
      exact ⟨rfl, rfl⟩
  · rw [heightM, if_neg h0]
    refine G_seq (G_region ?_)
    (refine G_boxA rfl rfl rfl rfl (.none rfl) ?_; intro b1)
    refine G_val (V_assign rfl rfl) rfl rfl (.none rfl) ?_
    refine G_val (V_assign rfl rfl) rfl rfl (.none rfl) ?_
    refine G_end (X_then (G_seq (G_region ?_)))
    refine G_val (V_loadA rfl rfl (Cells.own (.head _)) rfl) rfl rfl (.none rfl) ?_
    refine G_call (k := 55) (.mk rfl rfl rfl rfl) rfl rfl (.none rfl) (Order_call _ _ _ _ (by assumption) (by assumption)) ?_
    rintro r1 E2 L3 hE4 ⟨z5, ⟨z6, ⟨rfl, ⟨Z7, rfl⟩⟩⟩⟩
    replace hg0 := hg0.mono hE4
    replace ht := ht.mono hE4
    replace hn := hn.mono hE4
    replace hps := hps.mono hE4
    refine G_val (V_move rfl rfl) rfl rfl (.none rfl) ?_
    refine G_val (V_extract rfl rfl rfl) rfl rfl (.none rfl) ?_
    refine G_val (V_extract rfl rfl rfl) rfl rfl (.none rfl) ?_
    refine G_val (V_assign rfl rfl) rfl rfl (.none rfl) ?_
    refine G_val (V_assign rfl rfl) rfl rfl (.none rfl) ?_
    refine G_end (X_then (G_seq (G_seq (G_region ?_))))
    refine G_val (V_move rfl rfl) rfl rfl (.none rfl) ?_
    refine G_val (V_neq rfl rfl rfl) rfl rfl (.none rfl) ?_
    refine G_end (X_then ?_)
    refine G_cond_t rfl (decide_eq_true (by omega)) ?_
    refine G_seq (G_region ?_)
    refine G_val (V_move rfl rfl) rfl rfl (.none rfl) ?_
    refine G_val (V_assign rfl rfl) rfl rfl (.none rfl) ?_
    refine G_val (V_assign rfl rfl) rfl rfl (.none rfl) ?_
    refine G_end (X_then (G_ret (X_then_ret ?_)))
    refine G_leaveS (.drop _ (.nil _)) (by exact (.cons (.tmp rfl) (.cons (.tmp rfl) (.nil)))) rfl ?_ ?_
    · exact hE4
    exact ⟨rfl, rfl⟩
end
end Go.Proofs.Ytaoinojdijbhaaa
namespace Go.Proofs.Ytaoinojdijbhaaa
open Go.RowKit
theorem ordS_ok {l : List Nat} {n : Nat} (hn : n ≤ 8) (hin : ∀ i j, suc l i j = true → j < n) (hno : ∀ i, ¬ Tr (fun a b => suc l a b = true) i i) : ∀ (k : Nat) (out : List Nat) (t : Nat), OrdP l n out t → out.length + k = n → ∃ t', OrdP l n (ordS l n k out t) t' ∧ (ordS l n k out t).length = n := by
  intro k
  induction k with
  | zero => intro out t h hk; exact ⟨t, h, hk⟩
  | succ k ih =>
    intro out t h hk
    obtain ⟨i, hi, hf⟩ := h.exists_free hin hno (by omega)
    cases hfi : (List.range n).find? (freeB l t) with
    | none =>
      have := List.find?_eq_none.1 hfi i (List.mem_range.2 hi)
      exact absurd hf this
    | some j =>
      have h1 := List.find?_some hfi
      have h2 := List.mem_range.1 (List.mem_of_find?_eq_some hfi)
      rw [ordS, hfi]
      exact ih _ _ (h.step hn hin h2 h1) (by rw [List.length_append, List.length_singleton]; omega)
theorem ordR_ok {g : Gr} (h0 : rcheck g = 0) : ∃ t, OrdP (begM g) g.names.length (ordR g) t ∧ (ordR g).length = g.names.length := by
  obtain ⟨hc, hle⟩ := rcheck_zero.1 h0
  have hv := valid_of hc
  rw [ordR, if_pos h0]
  exact ordS_ok hv.names.2 (fun i j h => begM_in hv h) (acyclic hv hle) _ _ _ (OrdP.nil _ _) (by simp)
theorem ordR_lt {g : Gr} (h0 : rcheck g = 0) : ∀ x, x ∈ ordR g → x < g.names.length := by
  obtain ⟨t, h, _⟩ := ordR_ok h0
  exact h.all
theorem ordR_le (g : Gr) : (ordR g).length ≤ 8 := by
  by_cases h0 : rcheck g = 0
  · obtain ⟨t, _, h⟩ := ordR_ok h0
    rw [h]; exact (valid_of (rcheck_zero.1 h0).1).names.2
  · rw [ordR, if_neg h0]; exact Nat.zero_le _
theorem hin_at (n0 : Nat) : ∀ (ms : List Nat) (h : List Nat), n0 < h.length → n0 ∉ ms → h.getD n0 0 ≤ (hin h n0 ms).getD n0 0 ∧ (∀ m, m ∈ ms → h.getD m 0 + 1 ≤ (hin h n0 ms).getD n0 0) ∧ ((hin h n0 ms).getD n0 0 = h.getD n0 0 ∨ ∃ m, m ∈ ms ∧ (hin h n0 ms).getD n0 0 = h.getD m 0 + 1) ∧ ∀ i, i ≠ n0 → (hin h n0 ms).getD i 0 = h.getD i 0 := by
  intro ms
  induction ms with
  | nil => intro h _ _; exact ⟨Nat.le_refl _, fun m hm => by (cases hm), .inl rfl, fun _ _ => rfl⟩
  | cons m ms ih =>
    intro h hl hn
    have e : hin h n0 (m :: ms) = hin (h.set n0 (max (h.getD n0 0) (h.getD m 0 + 1))) n0 ms := rfl
    have hg : ∀ i, (h.set n0 (max (h.getD n0 0) (h.getD m 0 + 1))).getD i 0 = if n0 = i then max (h.getD n0 0) (h.getD m 0 + 1) else h.getD i 0 := fun i => by
      rw [getD_set]
      by_cases hc : n0 = i
      · rw [if_pos ⟨hc, hl⟩, if_pos hc]
      · rw [if_neg (fun h => hc h.1), if_neg hc]
    have hnm : n0 ∉ ms := fun h => hn (.tail _ h)
    obtain ⟨i1, i2, i3, i4⟩ := ih (h.set n0 (max (h.getD n0 0) (h.getD m 0 + 1))) (by rw [List.length_set]; exact hl) hnm
    rw [e]
    rw [hg, if_pos rfl] at i1 i3
    refine ⟨by omega, fun k hk => ?_, ?_, fun i hi => ?_⟩
    · rcases List.mem_cons.1 hk with rfl | hk
      · omega
      · have := i2 k hk
        rw [hg, if_neg (fun he : n0 = k => hnm (by rw [he]; exact hk))] at this
        exact this
    · rcases i3 with h3 | ⟨k, hk, h3⟩
      · rcases Nat.le_total (h.getD n0 0) (h.getD m 0 + 1) with hc | hc
        · exact .inr ⟨m, .head _, by omega⟩
        · exact .inl (by omega)
      · rw [hg, if_neg (fun he : n0 = k => hnm (by rw [he]; exact hk))] at h3
        exact .inr ⟨k, .tail _ hk, h3⟩
    · rw [i4 i hi, hg, if_neg (fun he => hi he.symm)]
structure HgtP (l a h : List Nat) (n most : Nat) : Prop where
  len : h.length = n
  at1 : ∀ x, x ∈ a → 1 ≤ h.getD x 0 ∧ h.getD x 0 ≤ a.length
  le : most ≤ a.length
  ge : a ≠ [] → 1 ≤ most
  some : 1 < most ↔ ∃ x, x ∈ a ∧ bitL (l.getD x 0) ≠ []
theorem HgtP.step {l a h : List Nat} {n most n0 : Nat} (p : HgtP l a h n most) (h0 : n0 < n) (hn : n0 ∉ a) (hs : ∀ m, m ∈ bitL (l.getD n0 0) → m ∈ a) : HgtP l (a ++ [n0]) (hin (h.set n0 1) n0 (bitL (l.getD n0 0))) n (max most ((hin (h.set n0 1) n0 (bitL (l.getD n0 0))).getD n0 0)) := by
  have hl := p.len
  have hnm : n0 ∉ bitL (l.getD n0 0) := fun hm => hn (hs n0 hm)
  obtain ⟨i1, i2, i3, i4⟩ := hin_at n0 (bitL (l.getD n0 0)) (h.set n0 1) (by rw [List.length_set]; omega) hnm
  have hg : ∀ i, (h.set n0 1).getD i 0 = if n0 = i then 1 else h.getD i 0 := fun i => by
    rw [getD_set]
    by_cases hc : n0 = i
    · rw [if_pos ⟨hc, by omega⟩, if_pos hc]
    · rw [if_neg (fun h => hc h.1), if_neg hc]
  rw [hg, if_pos rfl] at i1 i3
  have hlen : (hin (h.set n0 1) n0 (bitL (l.getD n0 0))).length = n := by rw [hin_len, List.length_set, hl]
  generalize hv : (hin (h.set n0 1) n0 (bitL (l.getD n0 0))) = h2 at *
  have hother : ∀ i, i ≠ n0 → h2.getD i 0 = h.getD i 0 := fun i hi => by rw [i4 i hi, hg, if_neg (fun he => hi he.symm)]
  have hv1 : h2.getD n0 0 ≤ a.length + 1 := by
    rcases i3 with h3 | ⟨m, hm, h3⟩
    · omega
    · rw [hg, if_neg (fun he : n0 = m => hnm (Eq.mp (congrArg (· ∈ bitL (l.getD n0 0)) he.symm) hm))] at h3
      have := (p.at1 m (hs m hm)).2
      omega
  have hv2 : 1 < h2.getD n0 0 ↔ bitL (l.getD n0 0) ≠ [] := by
    constructor
    · intro hlt he
      rcases i3 with h3 | ⟨m, hm, h3⟩
      · omega
      · rw [he] at hm; cases hm
    · intro hne
      obtain ⟨m, hm⟩ := List.exists_mem_of_ne_nil _ hne
      have := i2 m hm
      rw [hg, if_neg (fun he : n0 = m => hnm (Eq.mp (congrArg (· ∈ bitL (l.getD n0 0)) he.symm) hm))] at this
      have h1 := (p.at1 m (hs m hm)).1
      omega
  have hle := p.le
  refine ⟨hlen, fun x hx => ?_, by rw [List.length_append, List.length_singleton]; omega, fun _ => by omega, ?_⟩
  · rw [List.length_append, List.length_singleton]
    rcases List.mem_append.1 hx with hx | hx
    · have := p.at1 x hx
      rw [hother x (fun he => hn (he ▸ hx))]; omega
    · rw [List.mem_singleton.1 hx]; omega
  · have hs1 := p.some
    constructor
    · intro hlt
      rcases Nat.lt_or_ge 1 most with hc | hc
      · obtain ⟨x, hx, hb⟩ := hs1.1 hc
        exact ⟨x, List.mem_append.2 (.inl hx), hb⟩
      · exact ⟨n0, List.mem_append.2 (.inr (by simp)), hv2.1 (by omega)⟩
    · rintro ⟨x, hx, hb⟩
      rcases List.mem_append.1 hx with hx | hx
      · have := hs1.2 ⟨x, hx, hb⟩; omega
      · rw [List.mem_singleton.1 hx] at hb
        have := hv2.2 hb; omega
theorem hgo_ok {l : List Nat} {n : Nat} {o : List Nat} (h256 : ∀ i, l.getD i 0 < 256) (hnd : o.Nodup) (hall : ∀ x, x ∈ o → x < n) (haft : ∀ a x b, o = a ++ x :: b → ∀ y, suc l x y = true → y ∈ a) : ∀ (r a h : List Nat) (most : Nat), o = a ++ r → HgtP l a h n most → ∃ h', HgtP l o h' n (hgo l r h most).2 := by
  intro r
  induction r with
  | nil => intro a h most e p; rw [List.append_nil] at e; subst e; exact ⟨h, p⟩
  | cons n0 r ih =>
    intro a h most e p
    have hn0 : n0 ∉ a := fun hm => by
      rw [e] at hnd
      exact (List.nodup_append.1 hnd).2.2 n0 hm n0 (.head _) rfl
    have := p.step (hall n0 (by rw [e]; exact List.mem_append.2 (.inr (.head _)))) hn0 (fun m hm => haft a n0 r e m ((mem_bitL (h256 n0)).1 hm))
    rw [hgo]
    exact ih (a ++ [n0]) _ _ (by rw [e, List.append_assoc]; rfl) this
theorem height_ok {g : Gr} (h0 : rcheck g = 0) : 1 ≤ heightM g ∧ heightM g ≤ g.names.length ∧ (1 < heightM g ↔ ∃ x, x ∈ ordR g ∧ bitL ((begM g).getD x 0) ≠ []) := by
  obtain ⟨hc, hle⟩ := rcheck_zero.1 h0
  have hv := valid_of hc
  obtain ⟨t, ho, hol⟩ := ordR_ok h0
  rw [heightM, if_pos h0]
  obtain ⟨h', p⟩ := hgo_ok (begM_lt hv) ho.nodup ho.all ho.after (ordR g) [] (List.replicate g.names.length 0) 0 rfl ⟨List.length_replicate .., fun x hx => by (cases hx), Nat.le_refl _, fun h => absurd rfl h, ⟨fun h => by omega, fun ⟨x, hx, _⟩ => by cases hx⟩⟩
  have h1 := p.le
  have hn := hv.names.1
  rw [hol] at h1
  exact ⟨p.ge (fun he => by rw [he] at hol; simp at hol; omega), h1, p.some⟩
theorem begL_at {g : Gr} {x : Nat} (h : x < g.names.length) : (begL g)[x]'(by rw [begL_len]; exact h) = natsI (bitL ((begM g).getD x 0)) := by simp [begL, List.getD, show x < (begM g).length by rw [begM_len]; exact h]
end Go.Proofs.Ytaoinojdijbhaaa
set_option linter.unusedSimpArgs false
set_option linter.unusedVariables false
set_option maxHeartbeats 2000000
set_option maxRecDepth 20000
namespace Go.Proofs.Ytaoinojdijbhaaa
open Go.RowKit
def boolsOf (n : Nat) (a : List Nat) : List Bool := (List.range n).map fun i => decide (i ∈ a)
theorem boolsOf_at {n : Nat} {a : List Nat} {i : Nat} (h : i < n) : (bools (boolsOf n a))[i]? = some (.bool (decide (i ∈ a))) := by simp [bools, boolsOf, h]
theorem boolsOf_set {n : Nat} {a : List Nat} {i : Nat} : (bools (boolsOf n a)).set i (.bool true) = bools (boolsOf n (a ++ [i])) := by
  refine List.ext_getElem (by simp [bools, boolsOf]) fun j h1 h2 => ?_
  simp only [bools, boolsOf, List.map_map, List.getElem_set, List.getElem_map, List.getElem_range, Function.comp]
  by_cases he : i = j
  · rw [if_pos he]; simp [he]
  · rw [if_neg he]; simp [Ne.symm he]
theorem boolsOf_nil (n : Nat) : List.replicate n (Value.bool false) = bools (boolsOf n []) := by
  refine List.ext_getElem (by simp [bools, boolsOf]) fun j h1 h2 => by simp [bools, boolsOf]
theorem rcheck_17 {g : Gr} (hc : gcheck g = 0) (h0 : rcheck g ≠ 0) : rcheck g = 17 := by
  rw [rcheck, if_pos hc] at h0 ⊢
  cases h : leftM g with
  | nil => rw [h] at h0; exact absurd rfl h0
  | cons n r => rfl
def anyB (g : Gr) (a : List Nat) : Bool := a.any fun x => decide (bitL ((begM g).getD x 0) ≠ [])
theorem anyB_snoc (g : Gr) (a : List Nat) (x : Nat) : anyB g (a ++ [x]) = (anyB g a || decide (bitL ((begM g).getD x 0) ≠ [])) := by simp [anyB]
section
variable (E : Env) (L : List Res)
theorem ROrders_call (p : Option Addr) (c : Nat) (xs : List Int) (hx : SlE E 1 p xs.length (i64s xs)) (hn : xs.length ≤ 9223372036854775807) (hb : ∀ n, n ∈ xs → -9223372036854775808 ≤ n ∧ n ≤ 9223372036854775807) :
    CallV Try.prog 10 #[.slice p xs.length c] E L (.bool true) := by
  refine CallS.toV (CallS.intro (l := [_]) _ Try.func10 rfl Try.ntmps10 rfl ?_)
  refine G_seq (G_region ?_)
  refine G_val (V_assign rfl rfl) rfl rfl (.none rfl) ?_
  refine G_end (X_then (G_seq (G_region ?_)))
  refine G_val (V_move rfl rfl) rfl rfl (.none rfl) ?_
  refine G_call (k := 14) (.mk rfl rfl rfl rfl) rfl rfl (.none rfl) (Any_call _ _ _ _ _ (by assumption) (by assumption) (by assumption)) ?_
  rintro r1 E2 L3 hE4 ⟨z5, ⟨Z6, ⟨Z7, ⟨Z8, rfl⟩⟩⟩⟩
  replace hx := hx.mono hE4
  (refine G_alloc rfl rfl rfl (.none rfl) ?_; intro b3)
  have hgr : GrE E2 r1 z5 := by assumption
  have hl : Light z5 := by assumption
  have hc : gcheck z5 = 0 := by assumption
  have hg0 := hgr
  obtain ⟨tp, tc, np, nc, pp, pc, rfl, ht, hnm, ⟨rows, hrows, hps, hre⟩, k1, k2, k3⟩ := hgr
  have q1 := hl.t; have q2 := hl.n; have q3 := hl.p
  have hv := valid_of hc
  have hnn := hv.names
  have hol := ordR_le z5
  have hlt := fun h => ordR_lt (g := z5) h
  by_cases h0 : rcheck z5 = 0
  · obtain ⟨g1, g2, g3⟩ := height_ok h0
    obtain ⟨t, hop, hon⟩ := ordR_ok h0
    refine G_storeA rfl rfl rfl rfl (by simp [Value.oneCell']) rfl (.none rfl) (.head _ _ _) rfl ?_
    refine G_end (X_then (G_seq (G_region ?_)))
    refine G_val (V_loadA rfl rfl (Cells.own (.head _)) rfl) rfl rfl (.none rfl) ?_
    refine G_call (k := 28) (.mk rfl rfl rfl rfl) rfl rfl (.none rfl) (RCheck_call _ _ _ _ (by assumption) (by assumption)) ?_
    rintro r1 E3 L4 hE5 ⟨rfl, rfl⟩
    replace hx := hx.mono hE5
    replace Z6 := Z6.mono hE5
    replace hg0 := hg0.mono hE5
    replace ht := ht.mono hE5
    replace hnm := hnm.mono hE5
    replace hps := hps.mono hE5
    refine G_val (V_move rfl rfl) rfl rfl (.none rfl) ?_
    refine G_val (V_extract rfl rfl rfl) rfl rfl (.none rfl) ?_
    refine G_val (V_extract rfl rfl rfl) rfl rfl (.none rfl) ?_
    refine G_val (V_assign rfl rfl) rfl rfl (.none rfl) ?_
    refine G_val (V_assign rfl rfl) rfl rfl (.none rfl) ?_
    refine G_end (X_then (G_seq (G_region ?_)))
    refine G_val (V_loadA rfl rfl (Cells.own (.head _)) rfl) rfl rfl (.none rfl) ?_
    refine G_call (k := 55) (.mk rfl rfl rfl rfl) rfl rfl (.none rfl) (Order_call _ _ _ _ (by assumption) (by assumption)) ?_
    rintro r6 E7 L8 hE9 ⟨z10, ⟨z11, ⟨rfl, ⟨Z12, rfl⟩⟩⟩⟩
    replace hx := hx.mono hE9
    replace Z6 := Z6.mono hE9
    replace hg0 := hg0.mono hE9
    replace ht := ht.mono hE9
    replace hnm := hnm.mono hE9
    replace hps := hps.mono hE9
    refine G_val (V_move rfl rfl) rfl rfl (.none rfl) ?_
    refine G_val (V_extract rfl rfl rfl) rfl rfl (.none rfl) ?_
    refine G_val (V_extract rfl rfl rfl) rfl rfl (.none rfl) ?_
    refine G_val (V_assign rfl rfl) rfl rfl (.none rfl) ?_
    refine G_val (V_assign rfl rfl) rfl rfl (.none rfl) ?_
    refine G_end (X_then (G_seq (G_region ?_)))
    refine G_val (V_loadA rfl rfl (Cells.own (.head _)) rfl) rfl rfl (.none rfl) ?_
    refine G_call (k := 56) (.mk rfl rfl rfl rfl) rfl rfl (.none rfl) (Height_call _ _ _ _ (by assumption) (by assumption) (by assumption) (by assumption)) ?_
    rintro r13 E14 L15 hE16 ⟨rfl, rfl⟩
    replace Z12 := Z12.mono hE16
    replace hx := hx.mono hE16
    replace Z6 := Z6.mono hE16
    replace hg0 := hg0.mono hE16
    replace ht := ht.mono hE16
    replace hnm := hnm.mono hE16
    replace hps := hps.mono hE16
    refine G_val (V_move rfl rfl) rfl rfl (.none rfl) ?_
    refine G_val (V_extract rfl rfl rfl) rfl rfl (.none rfl) ?_
    refine G_val (V_extract rfl rfl rfl) rfl rfl (.none rfl) ?_
    refine G_val (V_assign rfl rfl) rfl rfl (.none rfl) ?_
    refine G_val (V_assign rfl rfl) rfl rfl (.none rfl) ?_
    refine G_end (X_then (G_seq (G_region ?_)))
    refine G_val (V_loadA rfl rfl (Cells.own (.head _)) rfl) rfl rfl (.none rfl) ?_
    refine G_call (k := 16) (.mk rfl rfl rfl rfl) rfl rfl (.none rfl) (RBegins_call _ _ _ _ (by assumption) (by assumption) (by assumption)) ?_
    rintro r17 E18 L19 hE20 ⟨z21, ⟨z22, ⟨z23, ⟨rfl, ⟨Z24, ⟨Z25, ⟨Z26, rfl⟩⟩⟩⟩⟩⟩⟩
    replace Z12 := Z12.mono hE20
    replace hx := hx.mono hE20
    replace Z6 := Z6.mono hE20
    replace hg0 := hg0.mono hE20
    replace ht := ht.mono hE20
    replace hnm := hnm.mono hE20
    replace hps := hps.mono hE20
    refine G_val (V_move rfl rfl) rfl rfl (.none rfl) ?_
    refine G_val (V_extract rfl rfl rfl) rfl rfl (.none rfl) ?_
    refine G_val (V_extract rfl rfl rfl) rfl rfl (.none rfl) ?_
    refine G_val (V_assign rfl rfl) rfl rfl (.none rfl) ?_
    refine G_val (V_assign rfl rfl) rfl rfl (.none rfl) ?_
    refine G_end (X_then (G_seq (G_seq (G_region ?_))))
    refine G_val (V_move rfl rfl) rfl rfl (.none rfl) ?_
    refine G_val (V_move rfl rfl) rfl rfl (.none rfl) ?_
    refine G_val (V_neq rfl rfl rfl) rfl rfl (.none rfl) ?_
    refine G_val (V_move rfl rfl) rfl rfl (.none rfl) ?_
    refine G.bool_f 42 rfl (decide_eq_false (by omega)) ?_
    refine G_val (V_move rfl rfl) rfl rfl (.yes rfl rfl rfl rfl) ?_
    refine G_val (V_move rfl rfl) rfl rfl (.yes rfl rfl rfl rfl) ?_
    refine G_val (V_neq rfl rfl rfl) rfl rfl (.yes rfl rfl rfl rfl) ?_
    refine G_val (V_pick_f rfl rfl rfl) rfl rfl (.none rfl) ?_
    refine G_val (V_move rfl rfl) rfl rfl (.none rfl) ?_
    refine G.bool_f 47 rfl (decide_eq_false (by omega)) ?_
    refine G_val (V_move rfl rfl) rfl rfl (.yes rfl rfl rfl rfl) ?_
    refine G_val (V_neq rfl rfl rfl) rfl rfl (.yes rfl rfl rfl rfl) ?_
    refine G_val (V_pick_f rfl rfl rfl) rfl rfl (.none rfl) ?_
    refine G_val (V_move rfl rfl) rfl rfl (.none rfl) ?_
    refine G.bool_f 51 rfl (by kernel_rfl) ?_
    refine G_val (V_move rfl rfl) rfl rfl (.yes rfl rfl rfl rfl) ?_
    refine G_val (V_lenS rfl rfl) rfl rfl (.yes rfl rfl rfl rfl) ?_
    refine G_val (V_fieldAddr rfl rfl (by decide)) rfl rfl (.yes rfl rfl rfl rfl) ?_
    refine G_val (V_load rfl rfl (Cell.own (.head _) rfl)) rfl rfl (.yes rfl rfl rfl rfl) ?_
    refine G_val (V_lenS rfl rfl) rfl rfl (.yes rfl rfl rfl rfl) ?_
    refine G_val (V_neq rfl rfl rfl) rfl rfl (.yes rfl rfl rfl rfl) ?_
    refine G_val (V_pick_f rfl rfl rfl) rfl rfl (.none rfl) ?_
    refine G_end (X_then ?_)
    refine G_cond_f rfl (decide_eq_false (by omega)) ?_
    refine G_skip (X_then (G_seq (G_seq (G_region ?_))))
    refine G_val (V_move rfl rfl) rfl rfl (.none rfl) ?_
    refine G_val (V_neq rfl rfl rfl) rfl rfl (.none rfl) ?_
    refine G_end (X_then ?_)
    refine G_cond_f rfl (decide_eq_false (by omega)) ?_
    refine G_skip (X_then (G_seq (G_seq (G_region ?_))))
    refine G_val (V_move rfl rfl) rfl rfl (.none rfl) ?_
    refine G_val (V_lenS rfl rfl) rfl rfl (.none rfl) ?_
    refine G_val (V_fieldAddr rfl rfl (by decide)) rfl rfl (.none rfl) ?_
    refine G_val (V_load rfl rfl (Cell.own (.head _) rfl)) rfl rfl (.none rfl) ?_
    refine G_val (V_lenS rfl rfl) rfl rfl (.none rfl) ?_
    refine G_val (V_neq rfl rfl rfl) rfl rfl (.none rfl) ?_
    refine G_val (V_move rfl rfl) rfl rfl (.none rfl) ?_
    refine G.bool_f 72 rfl (decide_eq_false (by omega)) ?_
    refine G_val (V_move rfl rfl) rfl rfl (.yes rfl rfl rfl rfl) ?_
    refine G_val (V_lss rfl rfl rfl) rfl rfl (.yes rfl rfl rfl rfl) ?_
    refine G_val (V_pick_f rfl rfl rfl) rfl rfl (.none rfl) ?_
    refine G_val (V_move rfl rfl) rfl rfl (.none rfl) ?_
    refine G.bool_f 76 rfl (decide_eq_false (by omega)) ?_
    refine G_val (V_move rfl rfl) rfl rfl (.yes rfl rfl rfl rfl) ?_
    refine G_val (V_fieldAddr rfl rfl (by decide)) rfl rfl (.yes rfl rfl rfl rfl) ?_
    refine G_val (V_load rfl rfl (Cell.own (.head _) rfl)) rfl rfl (.yes rfl rfl rfl rfl) ?_
    refine G_val (V_lenS rfl rfl) rfl rfl (.yes rfl rfl rfl rfl) ?_
    refine G_val (V_gtr rfl rfl rfl) rfl rfl (.yes rfl rfl rfl rfl) ?_
    refine G_val (V_pick_f rfl rfl rfl) rfl rfl (.none rfl) ?_
    refine G_end (X_then ?_)
    refine G_cond_f rfl (decide_eq_false (by omega)) ?_
    refine G_skip (X_then (G_seq (G_region ?_)))
    refine G_val (V_fieldAddr rfl rfl (by decide)) rfl rfl (.none rfl) ?_
    refine G_val (V_load rfl rfl (Cell.own (.head _) rfl)) rfl rfl (.none rfl) ?_
    refine G_val (V_lenS rfl rfl) rfl rfl (.none rfl) ?_
    (refine G_makeSlice rfl rfl rfl (by omega) (by omega) (by omega) rfl rfl (.none rfl) ?_; intro b86)
    refine G_val (V_assign rfl rfl) rfl rfl (.none rfl) ?_
    refine G_end (X_then (G_seq (G_region ?_)))
    refine G_val (V_assign rfl rfl) rfl rfl (.none rfl) ?_
    refine G_end (X_then (G_seq (G_seq (G_region ?_))))
    refine G_val (V_assign rfl rfl) rfl rfl (.none rfl) ?_
    refine G_end (X_then (G_block ?_))
    simp only [Int.toNat_natCast]
    rw [boolsOf_nil]
    have hso : SlE E18 1 z10 (ordR z5).length (i64s (natsI (ordR z5))) := by assumption
    have hsb : SlE E18 1 z21 z5.names.length (lrows z23) := by assumption
    have hrs : LsE E18 z23 := by assumption
    have hrm : z23.map (·.2.2) = begL z5 := by assumption
    have hrl : z23.length = z5.names.length := by rw [← begL_len z5, ← hrm, List.length_map]
    have g4 : anyB z5 (ordR z5) = decide ((1 : Int) < heightM z5) := by
      have g5 : (1 : Int) < heightM z5 ↔ 1 < heightM z5 := by omega
      rw [Bool.eq_iff_iff, decide_eq_true_eq, g5, g3, anyB, List.any_eq_true]
      simp only [decide_eq_true_eq]
    have h256 := begM_lt hv
    have haft := hop.after
    have hnd := hop.nodup
    have hbeg := fun x (h : x < z5.names.length) => begL_at h
    clear hop
    generalize hoo : ordR z5 = o at *
    replace hlt := hlt h0
    refine G_loop (α := Nat) (fun k => [(6, .slice z10 o.length z11), (8, .int .i64 (heightM z5)), (10, .slice z21 z5.names.length z22), (12, .slice (some ⟨b86, 0, none⟩) z5.names.length z5.names.length), (13, .bool (anyB z5 (o.take k))), (14, .int .i64 k)]) (fun _ => E18)
      (fun k => .blk b86 (.cells (bools (boolsOf z5.names.length (o.take k))).toArray 4 (0, 0)) :: GB b3 z5 tp tc np nc pp pc :: L3) (fun k => k ≤ o.length) (fun k => o.length - k) 0 (Nat.zero_le _) ⟨rfl, rfl, rfl, rfl, rfl, rfl, trivial⟩ rfl rfl ?_
    intro k hk
    by_cases hltk : k < o.length
    · have hx := i64s_at (l := natsI o) (i := k) (by rw [natsI_len]; exact hltk)
      have hxk : (natsI o)[k]'(by rw [natsI_len]; exact hltk) = ((o[k] : Nat) : Int) := by simp [natsI]
      rw [hxk] at hx
      have htk := List.take_succ_eq_append_getElem hltk
      have hsplit : o = o.take k ++ o[k] :: o.drop (k + 1) := by rw [← List.drop_eq_getElem_cons hltk, List.take_append_drop]
      have hxn := hlt _ (List.getElem_mem hltk)
      have hxa : o[k] ∉ o.take k := fun hm => by
        rw [hsplit] at hnd
        exact (List.nodup_append.1 hnd).2.2 _ hm _ (.head _) rfl
      have haf := haft _ _ _ hsplit
      generalize o[k] = x at hx htk hxn hxa haf
      have hrx : x < z23.length := by omega
      have hat := lrows_at hrx
      have hrow := hrs _ (List.getElem_mem hrx)
      have hre : z23[x].2.2 = natsI (bitL ((begM z5).getD x 0)) := by
        rw [← hbeg x hxn]; simp [← hrm]
      rw [hre, natsI_len] at hat hrow
      have hq256 := h256 x
      have hq8 := bitL_le ((begM z5).getD x 0)
      have hafq : ∀ y, y ∈ bitL ((begM z5).getD x 0) → y ∈ o.take k := fun y hy => haf y ((mem_bitL hq256).1 hy)
      have hsn := anyB_snoc z5 (o.take k) x
      generalize (begM z5).getD x 0 = q at hat hrow hq8 hafq hsn
      have hsa := boolsOf_at (n := z5.names.length) (a := o.take k) hxn
      rw [decide_eq_false hxa] at hsa
      have hal : ∀ y, y ∈ o.take k → y < z5.names.length := fun y hy => hlt y (List.mem_of_mem_take hy)
      have hbl : (bools (boolsOf z5.names.length (o.take k))).length = z5.names.length := by simp [bools, boolsOf]
      have hset := boolsOf_set (n := z5.names.length) (a := o.take k) (i := x)
      rw [← htk] at hset hsn
      have hag := fun y (h : y < z5.names.length) => boolsOf_at (n := z5.names.length) (a := o.take k) h
      generalize anyB z5 (o.take k) = an at hsn ⊢
      refine G_seq (G_seq (G_region ?_))
      refine G_val (V_move rfl rfl) rfl rfl (.none rfl) ?_
      refine G_val (V_move rfl rfl) rfl rfl (.none rfl) ?_
      refine G_val (V_lenS rfl rfl) rfl rfl (.none rfl) ?_
      refine G_val (V_lss rfl rfl rfl) rfl rfl (.none rfl) ?_
      refine G_end (X_then ?_)
      refine G_cond_t rfl (decide_eq_true (by omega)) ?_
      refine G_skip (X_then (G_seq (G_block (G_seq (G_seq (G_region ?_))))))
      refine G_val (V_move rfl rfl) rfl rfl (.none rfl) ?_
      refine G_val (V_move rfl rfl) rfl rfl (.none rfl) ?_
      refine G_val (V_idxAddr rfl rfl rfl (SlE.rd (by assumption)) (by omega) (by omega)) rfl rfl (.none rfl) ?_
      refine G_val (V_loadS rfl rfl (SlE.rd (by assumption)) (by assumption) (by simp)) rfl rfl (.none rfl) ?_
      refine G_val (V_lss rfl rfl rfl) rfl rfl (.none rfl) ?_
      refine G_val (V_move rfl rfl) rfl rfl (.none rfl) ?_
      refine G.bool_f 98 rfl (decide_eq_false (by omega)) ?_
      refine G_val (V_move rfl rfl) rfl rfl (.yes rfl rfl rfl rfl) ?_
      refine G_val (V_move rfl rfl) rfl rfl (.yes rfl rfl rfl rfl) ?_
      refine G_val (V_idxAddr rfl rfl rfl (SlE.rd (by assumption)) (by omega) (by omega)) rfl rfl (.yes rfl rfl rfl rfl) ?_
      refine G_val (V_loadS rfl rfl (SlE.rd (by assumption)) (by assumption) (by simp)) rfl rfl (.yes rfl rfl rfl rfl) ?_
      refine G_val (V_move rfl rfl) rfl rfl (.yes rfl rfl rfl rfl) ?_
      refine G_val (V_lenS rfl rfl) rfl rfl (.yes rfl rfl rfl rfl) ?_
      refine G_val (V_geq rfl rfl rfl) rfl rfl (.yes rfl rfl rfl rfl) ?_
      refine G_val (V_pick_f rfl rfl rfl) rfl rfl (.none rfl) ?_
      refine G_val (V_move rfl rfl) rfl rfl (.none rfl) ?_
      refine G.bool_f 107 rfl (decide_eq_false (by omega)) ?_
      refine G_val (V_move rfl rfl) rfl rfl (.yes rfl rfl rfl rfl) ?_
      refine G_val (V_move rfl rfl) rfl rfl (.yes rfl rfl rfl rfl) ?_
      refine G_val (V_move rfl rfl) rfl rfl (.yes rfl rfl rfl rfl) ?_
      refine G_val (V_idxAddr rfl rfl rfl (SlE.rd (by assumption)) (by omega) (by omega)) rfl rfl (.yes rfl rfl rfl rfl) ?_
      refine G_val (V_loadS rfl rfl (SlE.rd (by assumption)) (by assumption) (by simp)) rfl rfl (.yes rfl rfl rfl rfl) ?_
      refine G_val (V_idxB1n rfl rfl rfl (by omega)) rfl rfl (.yes rfl rfl rfl rfl) ?_
      refine G_val (V_load rfl rfl (Cell.own (.head _) (by assumption))) rfl rfl (.yes rfl rfl rfl rfl) ?_
      refine G_val (V_pick_f rfl rfl rfl) rfl rfl (.none rfl) ?_
      refine G_end (X_then ?_)
      refine G_cond_f rfl rfl ?_
      refine G_skip (X_then (G_seq (G_seq (G_region ?_))))
      refine G_val (V_assign rfl rfl) rfl rfl (.none rfl) ?_
      refine G_end (X_then (G_block ?_))
      refine G_loop (α := Nat) (fun m => [(6, .slice z10 o.length z11), (8, .int .i64 (heightM z5)), (10, .slice z21 z5.names.length z22), (12, .slice (some ⟨b86, 0, none⟩) z5.names.length z5.names.length), (13, .bool (an || decide (0 < m))), (14, .int .i64 k), (15, .int .i64 m)]) (fun _ => E18)
        (fun _ => .blk b86 (.cells (bools (boolsOf z5.names.length (o.take k))).toArray 4 (0, 0)) :: GB b3 z5 tp tc np nc pp pc :: L3) (fun m => m ≤ (bitL q).length) (fun m => (bitL q).length - m) 0 (Nat.zero_le _) ⟨rfl, rfl, rfl, rfl, (by show some (Value.bool an) = some (Value.bool (an || decide (0 < 0))); simp), rfl, rfl, trivial⟩ rfl rfl ?_
      intro m hm
      by_cases hltm : m < (bitL q).length
      · have hy := i64s_at (l := natsI (bitL q)) (i := m) (by rw [natsI_len]; exact hltm)
        have hyk : (natsI (bitL q))[m]'(by rw [natsI_len]; exact hltm) = (((bitL q)[m] : Nat) : Int) := by simp [natsI]
        rw [hyk] at hy
        have hya := hafq _ (List.getElem_mem hltm)
        generalize (bitL q)[m] = y at hy hya
        have hyn := hal y hya
        have hsy := hag y hyn
        rw [decide_eq_true hya] at hsy
        refine G_seq (G_seq (G_region ?_))
        refine G_val (V_move rfl rfl) rfl rfl (.none rfl) ?_
        refine G_val (V_move rfl rfl) rfl rfl (.none rfl) ?_
        refine G_val (V_move rfl rfl) rfl rfl (.none rfl) ?_
        refine G_val (V_move rfl rfl) rfl rfl (.none rfl) ?_
        refine G_val (V_idxAddr rfl rfl rfl (SlE.rd (by assumption)) (by omega) (by omega)) rfl rfl (.none rfl) ?_
        refine G_val (V_loadS rfl rfl (SlE.rd (by assumption)) (by assumption) (by simp)) rfl rfl (.none rfl) ?_
        refine G_val (V_idxAddr rfl rfl rfl (SlE.rd (by assumption)) (by omega) (by omega)) rfl rfl (.none rfl) ?_
        refine G_val (V_loadS rfl rfl (SlE.rd (by assumption)) (by assumption) (by simp)) rfl rfl (.none rfl) ?_
        refine G_val (V_lenS rfl rfl) rfl rfl (.none rfl) ?_
        refine G_val (V_lss rfl rfl rfl) rfl rfl (.none rfl) ?_
        refine G_end (X_then ?_)
        refine G_cond_t rfl (decide_eq_true (by omega)) ?_
        refine G_skip (X_then (G_seq (G_block (G_seq (G_region ?_)))))
        refine G_val (V_move rfl rfl) rfl rfl (.none rfl) ?_
        refine G_val (V_move rfl rfl) rfl rfl (.none rfl) ?_
        refine G_val (V_move rfl rfl) rfl rfl (.none rfl) ?_
        refine G_val (V_idxAddr rfl rfl rfl (SlE.rd (by assumption)) (by omega) (by omega)) rfl rfl (.none rfl) ?_
        refine G_val (V_loadS rfl rfl (SlE.rd (by assumption)) (by assumption) (by simp)) rfl rfl (.none rfl) ?_
        refine G_val (V_idxAddr rfl rfl rfl (SlE.rd (by assumption)) (by omega) (by omega)) rfl rfl (.none rfl) ?_
        refine G_val (V_loadS rfl rfl (SlE.rd (by assumption)) (by assumption) (by simp)) rfl rfl (.none rfl) ?_
        refine G_val (V_move rfl rfl) rfl rfl (.none rfl) ?_
        refine G_val (V_idxAddr rfl rfl rfl (SlE.rd (by assumption)) (by omega) (by omega)) rfl rfl (.none rfl) ?_
        refine G_val (V_loadS rfl rfl (SlE.rd (by assumption)) (by assumption) (by simp)) rfl rfl (.none rfl) ?_
        refine G_val (V_assign rfl rfl) rfl rfl (.none rfl) ?_
        refine G_end (X_then (G_seq (G_seq (G_region ?_))))
        refine G_val (V_move rfl rfl) rfl rfl (.none rfl) ?_
        refine G_val (V_lss rfl rfl rfl) rfl rfl (.none rfl) ?_
        refine G_val (V_move rfl rfl) rfl rfl (.none rfl) ?_
        refine G.bool_f 140 rfl (decide_eq_false (by omega)) ?_
        refine G_val (V_move rfl rfl) rfl rfl (.yes rfl rfl rfl rfl) ?_
        refine G_val (V_move rfl rfl) rfl rfl (.yes rfl rfl rfl rfl) ?_
        refine G_val (V_lenS rfl rfl) rfl rfl (.yes rfl rfl rfl rfl) ?_
        refine G_val (V_geq rfl rfl rfl) rfl rfl (.yes rfl rfl rfl rfl) ?_
        refine G_val (V_pick_f rfl rfl rfl) rfl rfl (.none rfl) ?_
        refine G_val (V_move rfl rfl) rfl rfl (.none rfl) ?_
        refine G.bool_f 146 rfl (decide_eq_false (by omega)) ?_
        refine G_val (V_move rfl rfl) rfl rfl (.yes rfl rfl rfl rfl) ?_
        refine G_val (V_move rfl rfl) rfl rfl (.yes rfl rfl rfl rfl) ?_
        refine G_val (V_idxB1n rfl rfl rfl (by omega)) rfl rfl (.yes rfl rfl rfl rfl) ?_
        refine G_val (V_load rfl rfl (Cell.own (.head _) (by assumption))) rfl rfl (.yes rfl rfl rfl rfl) ?_
        refine G_val (V_not rfl rfl) rfl rfl (.yes rfl rfl rfl rfl) ?_
        refine G_val (V_pick_f rfl rfl rfl) rfl rfl (.none rfl) ?_
        refine G_end (X_then ?_)
        refine G_cond_f rfl (by kernel_rfl) ?_
        refine G_skip (X_then (G_region ?_))
        refine G_val (V_assign rfl rfl) rfl rfl (.none rfl) ?_
        refine G_end (X_block (X_then (G_region ?_)))
        refine G_val (V_move rfl rfl) rfl rfl (.none rfl) ?_
        refine G_val (V_add_i64 rfl rfl rfl (by omega) (by omega)) rfl rfl (.none rfl) ?_
        refine G_val (V_assign rfl rfl) rfl rfl (.none rfl) ?_
        refine G_end (X_then ?_)
        exact G_again (m + 1) hltm (by omega) ⟨rfl, rfl, rfl, rfl, (by show some (Value.bool true) = some (Value.bool (an || decide (0 < m + 1))); simp), rfl, rfl, trivial⟩ rfl rfl
      · have hqm : decide (0 < m) = decide (bitL q ≠ []) := by
          rw [show m = (bitL q).length by omega]
          cases bitL q with
          | nil => rfl
          | cons a b => simp
        rw [hqm, ← hsn]
        refine G_seq (G_seq (G_region ?_))
        refine G_val (V_move rfl rfl) rfl rfl (.none rfl) ?_
        refine G_val (V_move rfl rfl) rfl rfl (.none rfl) ?_
        refine G_val (V_move rfl rfl) rfl rfl (.none rfl) ?_
        refine G_val (V_move rfl rfl) rfl rfl (.none rfl) ?_
        refine G_val (V_idxAddr rfl rfl rfl (SlE.rd (by assumption)) (by omega) (by omega)) rfl rfl (.none rfl) ?_
        refine G_val (V_loadS rfl rfl (SlE.rd (by assumption)) (by assumption) (by simp)) rfl rfl (.none rfl) ?_
        refine G_val (V_idxAddr rfl rfl rfl (SlE.rd (by assumption)) (by omega) (by omega)) rfl rfl (.none rfl) ?_
        refine G_val (V_loadS rfl rfl (SlE.rd (by assumption)) (by assumption) (by simp)) rfl rfl (.none rfl) ?_
        refine G_val (V_lenS rfl rfl) rfl rfl (.none rfl) ?_
        refine G_val (V_lss rfl rfl rfl) rfl rfl (.none rfl) ?_
        refine G_end (X_then ?_)
        refine G_cond_f rfl (decide_eq_false (by omega)) ?_
        refine G_exit (X_then_exit (X_then_exit (X_block_hit (X_then (G_region ?_)))))
        refine G_val (V_move rfl rfl) rfl rfl (.none rfl) ?_
        refine G_val (V_move rfl rfl) rfl rfl (.none rfl) ?_
        refine G_val (V_move rfl rfl) rfl rfl (.none rfl) ?_
        refine G_val (V_idxAddr rfl rfl rfl (SlE.rd (by assumption)) (by omega) (by omega)) rfl rfl (.none rfl) ?_
        refine G_val (V_loadS rfl rfl (SlE.rd (by assumption)) (by assumption) (by simp)) rfl rfl (.none rfl) ?_
        refine G_val (V_idxB1n rfl rfl rfl (by omega)) rfl rfl (.none rfl) ?_
        refine G_storeB rfl rfl rfl rfl rfl rfl (.none rfl) (.head _ _ _) (by omega) ?_
        refine G_end (X_block (X_then (G_region ?_)))
        refine G_val (V_move rfl rfl) rfl rfl (.none rfl) ?_
        refine G_val (V_add_i64 rfl rfl rfl (by omega) (by omega)) rfl rfl (.none rfl) ?_
        refine G_val (V_assign rfl rfl) rfl rfl (.none rfl) ?_
        refine G_end (X_then ?_)
        rw [hset]
        exact G_again (k + 1) hltk (by omega) ⟨rfl, rfl, rfl, rfl, rfl, rfl, trivial⟩ rfl rfl
    · rw [List.take_of_length_le (by omega), g4]
      refine G_seq (G_seq (G_region ?_))
      refine G_val (V_move rfl rfl) rfl rfl (.none rfl) ?_
      refine G_val (V_move rfl rfl) rfl rfl (.none rfl) ?_
      refine G_val (V_lenS rfl rfl) rfl rfl (.none rfl) ?_
      refine G_val (V_lss rfl rfl rfl) rfl rfl (.none rfl) ?_
      refine G_end (X_then ?_)
      refine G_cond_f rfl (decide_eq_false (by omega)) ?_
      refine G_exit (X_then_exit (X_then_exit (X_block_hit (X_then (G_seq (G_region ?_))))))
      refine G_val (V_move rfl rfl) rfl rfl (.none rfl) ?_
      refine G_val (V_move rfl rfl) rfl rfl (.none rfl) ?_
      refine G_val (V_gtr rfl rfl rfl) rfl rfl (.none rfl) ?_
      refine G_val (V_beql rfl rfl rfl) rfl rfl (.none rfl) ?_
      refine G_val (V_move rfl rfl) rfl rfl (.none rfl) ?_
      refine G.bool_t 163 rfl (by simp [*]; done) ?_
      refine G_call (k := 20) (.mk rfl rfl rfl rfl) rfl rfl (.yes rfl rfl rfl rfl) (awake11_call _ _) ?_
      rintro r1 E4 L5 hE6 ⟨rfl, rfl⟩
      replace Z24 := Z24.mono hE6
      replace hx := hx.mono hE6
      replace Z6 := Z6.mono hE6
      replace hg0 := hg0.mono hE6
      replace ht := ht.mono hE6
      replace hnm := hnm.mono hE6
      replace hps := hps.mono hE6
      replace hsb := hsb.mono hE6
      replace Z12 := Z12.mono hE6
      replace hso := hso.mono hE6
      refine G_val (V_pick_t rfl rfl rfl) rfl rfl (.none rfl) ?_
      refine G_val (V_assign rfl rfl) rfl rfl (.none rfl) ?_
      refine G_end (X_then (G_ret ?_))
      refine G_leaveS (.drop _ (.drop _ (.nil _))) (by exact (.cons (.tmp rfl) (.nil))) rfl ?_ ?_
      · exact (((((hE4.trans hE5).trans hE9).trans hE16).trans hE20).trans hE6)
      exact ⟨(by kernel_rfl), rfl⟩
  · have h17 := rcheck_17 hc h0
    refine G_storeA rfl rfl rfl rfl (by simp [Value.oneCell']) rfl (.none rfl) (.head _ _ _) rfl ?_
    refine G_end (X_then (G_seq (G_region ?_)))
    refine G_val (V_loadA rfl rfl (Cells.own (.head _)) rfl) rfl rfl (.none rfl) ?_
    refine G_call (k := 28) (.mk rfl rfl rfl rfl) rfl rfl (.none rfl) (RCheck_call _ _ _ _ (by assumption) (by assumption)) ?_
    rintro r1 E3 L4 hE5 ⟨rfl, rfl⟩
    replace hx := hx.mono hE5
    replace Z6 := Z6.mono hE5
    replace hg0 := hg0.mono hE5
    replace ht := ht.mono hE5
    replace hnm := hnm.mono hE5
    replace hps := hps.mono hE5
    refine G_val (V_move rfl rfl) rfl rfl (.none rfl) ?_
    refine G_val (V_extract rfl rfl rfl) rfl rfl (.none rfl) ?_
    refine G_val (V_extract rfl rfl rfl) rfl rfl (.none rfl) ?_
    refine G_val (V_assign rfl rfl) rfl rfl (.none rfl) ?_
    refine G_val (V_assign rfl rfl) rfl rfl (.none rfl) ?_
    refine G_end (X_then (G_seq (G_region ?_)))
    refine G_val (V_loadA rfl rfl (Cells.own (.head _)) rfl) rfl rfl (.none rfl) ?_
    refine G_call (k := 55) (.mk rfl rfl rfl rfl) rfl rfl (.none rfl) (Order_call _ _ _ _ (by assumption) (by assumption)) ?_
    rintro r6 E7 L8 hE9 ⟨z10, ⟨z11, ⟨rfl, ⟨Z12, rfl⟩⟩⟩⟩
    replace hx := hx.mono hE9
    replace Z6 := Z6.mono hE9
    replace hg0 := hg0.mono hE9
    replace ht := ht.mono hE9
    replace hnm := hnm.mono hE9
    replace hps := hps.mono hE9
    refine G_val (V_move rfl rfl) rfl rfl (.none rfl) ?_
    refine G_val (V_extract rfl rfl rfl) rfl rfl (.none rfl) ?_
    refine G_val (V_extract rfl rfl rfl) rfl rfl (.none rfl) ?_
    refine G_val (V_assign rfl rfl) rfl rfl (.none rfl) ?_
    refine G_val (V_assign rfl rfl) rfl rfl (.none rfl) ?_
    refine G_end (X_then (G_seq (G_region ?_)))
    refine G_val (V_loadA rfl rfl (Cells.own (.head _)) rfl) rfl rfl (.none rfl) ?_
    refine G_call (k := 56) (.mk rfl rfl rfl rfl) rfl rfl (.none rfl) (Height_call _ _ _ _ (by assumption) (by assumption) (by assumption) (by assumption)) ?_
    rintro r13 E14 L15 hE16 ⟨rfl, rfl⟩
    replace Z12 := Z12.mono hE16
    replace hx := hx.mono hE16
    replace Z6 := Z6.mono hE16
    replace hg0 := hg0.mono hE16
    replace ht := ht.mono hE16
    replace hnm := hnm.mono hE16
    replace hps := hps.mono hE16
    refine G_val (V_move rfl rfl) rfl rfl (.none rfl) ?_
    refine G_val (V_extract rfl rfl rfl) rfl rfl (.none rfl) ?_
    refine G_val (V_extract rfl rfl rfl) rfl rfl (.none rfl) ?_
    refine G_val (V_assign rfl rfl) rfl rfl (.none rfl) ?_
    refine G_val (V_assign rfl rfl) rfl rfl (.none rfl) ?_
    refine G_end (X_then (G_seq (G_region ?_)))
    refine G_val (V_loadA rfl rfl (Cells.own (.head _)) rfl) rfl rfl (.none rfl) ?_
    refine G_call (k := 16) (.mk rfl rfl rfl rfl) rfl rfl (.none rfl) (RBegins_call _ _ _ _ (by assumption) (by assumption) (by assumption)) ?_
    rintro r17 E18 L19 hE20 ⟨z21, ⟨z22, ⟨z23, ⟨rfl, ⟨Z24, ⟨Z25, ⟨Z26, rfl⟩⟩⟩⟩⟩⟩⟩
    replace Z12 := Z12.mono hE20
    replace hx := hx.mono hE20
    replace Z6 := Z6.mono hE20
    replace hg0 := hg0.mono hE20
    replace ht := ht.mono hE20
    replace hnm := hnm.mono hE20
    replace hps := hps.mono hE20
    refine G_val (V_move rfl rfl) rfl rfl (.none rfl) ?_
    refine G_val (V_extract rfl rfl rfl) rfl rfl (.none rfl) ?_
    refine G_val (V_extract rfl rfl rfl) rfl rfl (.none rfl) ?_
    refine G_val (V_assign rfl rfl) rfl rfl (.none rfl) ?_
    refine G_val (V_assign rfl rfl) rfl rfl (.none rfl) ?_
    refine G_end (X_then (G_seq (G_seq (G_region ?_))))
    refine G_val (V_move rfl rfl) rfl rfl (.none rfl) ?_
    refine G_val (V_move rfl rfl) rfl rfl (.none rfl) ?_
    refine G_val (V_neq rfl rfl rfl) rfl rfl (.none rfl) ?_
    refine G_val (V_move rfl rfl) rfl rfl (.none rfl) ?_
    refine G.bool_f 42 rfl (decide_eq_false (by omega)) ?_
    refine G_val (V_move rfl rfl) rfl rfl (.yes rfl rfl rfl rfl) ?_
    refine G_val (V_move rfl rfl) rfl rfl (.yes rfl rfl rfl rfl) ?_
    refine G_val (V_neq rfl rfl rfl) rfl rfl (.yes rfl rfl rfl rfl) ?_
    refine G_val (V_pick_f rfl rfl rfl) rfl rfl (.none rfl) ?_
    refine G_val (V_move rfl rfl) rfl rfl (.none rfl) ?_
    refine G.bool_f 47 rfl (decide_eq_false (by omega)) ?_
    refine G_val (V_move rfl rfl) rfl rfl (.yes rfl rfl rfl rfl) ?_
    refine G_val (V_neq rfl rfl rfl) rfl rfl (.yes rfl rfl rfl rfl) ?_
    refine G_val (V_pick_f rfl rfl rfl) rfl rfl (.none rfl) ?_
    refine G_val (V_move rfl rfl) rfl rfl (.none rfl) ?_
    refine G.bool_f 51 rfl (by kernel_rfl) ?_
    refine G_val (V_move rfl rfl) rfl rfl (.yes rfl rfl rfl rfl) ?_
    refine G_val (V_lenS rfl rfl) rfl rfl (.yes rfl rfl rfl rfl) ?_
    refine G_val (V_fieldAddr rfl rfl (by decide)) rfl rfl (.yes rfl rfl rfl rfl) ?_
    refine G_val (V_load rfl rfl (Cell.own (.head _) rfl)) rfl rfl (.yes rfl rfl rfl rfl) ?_
    refine G_val (V_lenS rfl rfl) rfl rfl (.yes rfl rfl rfl rfl) ?_
    refine G_val (V_neq rfl rfl rfl) rfl rfl (.yes rfl rfl rfl rfl) ?_
    refine G_val (V_pick_f rfl rfl rfl) rfl rfl (.none rfl) ?_
    refine G_end (X_then ?_)
    refine G_cond_f rfl (decide_eq_false (by omega)) ?_
    refine G_skip (X_then (G_seq (G_seq (G_region ?_))))
    refine G_val (V_move rfl rfl) rfl rfl (.none rfl) ?_
    refine G_val (V_neq rfl rfl rfl) rfl rfl (.none rfl) ?_
    refine G_end (X_then ?_)
    refine G_cond_t rfl (decide_eq_true (by omega)) ?_
    refine G_seq (G_region ?_)
    refine G_val (V_move rfl rfl) rfl rfl (.none rfl) ?_
    refine G_val (V_eql rfl rfl rfl) rfl rfl (.none rfl) ?_
    refine G_val (V_move rfl rfl) rfl rfl (.none rfl) ?_
    refine G.bool_t 63 rfl (decide_eq_true (by omega)) ?_
    refine G_call (k := 20) (.mk rfl rfl rfl rfl) rfl rfl (.yes rfl rfl rfl rfl) (awake11_call _ _) ?_
    rintro r27 E28 L29 hE30 ⟨rfl, rfl⟩
    replace Z24 := Z24.mono hE30
    replace Z12 := Z12.mono hE30
    replace hx := hx.mono hE30
    replace Z6 := Z6.mono hE30
    replace hg0 := hg0.mono hE30
    replace ht := ht.mono hE30
    replace hnm := hnm.mono hE30
    replace hps := hps.mono hE30
    refine G_val (V_pick_t rfl rfl rfl) rfl rfl (.none rfl) ?_
    refine G_val (V_assign rfl rfl) rfl rfl (.none rfl) ?_
    refine G_end (X_then (G_ret (X_then_ret ?_)))
    refine G_leaveS (.drop _ (.nil _)) (by exact (.cons (.tmp rfl) (.nil))) rfl ?_ ?_
    · exact (((((hE4.trans hE5).trans hE9).trans hE16).trans hE20).trans hE30)
    exact ⟨(by kernel_rfl), rfl⟩
end
end Go.Proofs.Ytaoinojdijbhaaa
namespace Go.Proofs.Ytaoinojdijbhaaa
open Go.RowKit
/-! Other productions. -/
theorem D.mono {ps ps' : List Pr} (h : ∀ p, p ∈ ps → p ∈ ps') {t : Option Nat} {own : Nat} {r : List Int} {c : Nat} (hd : D ps t own r c) : D ps' t own r c := by
  induction hd with
  | nil => exact .nil
  | term h1 h2 _ ih => exact .term h1 h2 ih
  | non hp h16 _ _ ih1 ih2 => exact .non (h _ hp) h16 ih1 ih2
theorem IsLeast.mono {ps ps' : List Pr} {n : Nat} {t : Option Nat} {own : Nat} {f f' : Tab} (h1 : IsLeast ps n t own f) (h2 : IsLeast ps' n t own f') (h : ∀ p, p ∈ ps → p ∈ ps') {s : Int} (hs : 16 ≤ s) {c : Nat} (hc : tget f s = some c) : ∃ c', tget f' s = some c' ∧ c' ≤ c := by
  obtain ⟨c', h3, h4⟩ := h2.stable.le ((h1.sound s c hs hc).mono h)
  rw [cost] at h3
  obtain ⟨x, y, h5, h6, rfl⟩ := addO_some h3
  refine ⟨x, ?_, by omega⟩
  rw [symc, if_neg (by omega)] at h5; exact h5
theorem best_same {ps ps' : List Pr} {n : Nat} {t : Option Nat} {own : Nat} (hw : Wf ps n) (hw' : Wf ps' n) (hs : Small t own) (h : ∀ p, p ∈ ps ↔ p ∈ ps') : best ps n t own = best ps' n t own := by
  refine (IsLeast.uniq ?_ (best_least hw' hs))
  have := best_least hw hs
  exact ⟨this.len, fun p hp => this.stable p ((h p).2 hp), fun s c h16 hc => (this.sound s c h16 hc).mono fun p hp => (h p).1 hp⟩
theorem rrules_sub {ps ps' : List Pr} {a : Int} (h : ∀ p, p ∈ ps → p ∈ ps') : ∀ q, q ∈ rrules ps a → q ∈ rrules ps' a := by
  intro q hq
  rcases mem_rrules.1 hq with rfl | ⟨p, s, hp, h1⟩
  · exact mem_rrules.2 (.inl rfl)
  · exact mem_rrules.2 (.inr ⟨p, s, h p hp, h1⟩)
def withP (g : Gr) (ps : List Pr) : Gr := ⟨g.k, g.toks, g.sep, g.names, g.start, ps⟩
theorem check_withP {g : Gr} {ps : List Pr} (hc : gcheck g = 0) (hlen : ps.length ≤ 24) (hr : ∀ p, p ∈ ps → p.2.length ≤ 6) (hl : ∀ p, p ∈ ps → 16 ≤ p.1 ∧ p.1 < 16 + (g.names.length : Int))
    (hs : ∀ p, p ∈ ps → ∀ s, s ∈ p.2 → (0 ≤ s ∧ s < g.toks.length) ∨ (16 ≤ s ∧ s < 16 + (g.names.length : Int))) (ho : ordsB ps = true) (hcomp : ∀ p, p ∈ g.prods → ∃ q, q ∈ ps ∧ q.1 = p.1) : gcheck (withP g ps) = 0 := by
  obtain ⟨k, toks, sep, names, start, prods⟩ := g
  obtain ⟨hk, h1, h2, h3, h4, h5, h6, h7⟩ := gcheck_ok hc
  have hv := valid_of hc
  have v1 := hv.toks; have v2 := hv.names; have v3 := hv.start
  simp only at hl hs hcomp hk v1 v2 v3
  show gcheck ⟨k, toks, sep, names, start, ps⟩ = 0
  have hfull : fullB ⟨k, toks, sep, names, start, ps⟩ = false := by
    simp only [fullB, Bool.or_eq_false_iff, decide_eq_false_iff_not, List.any_eq_false, decide_eq_true_eq]
    exact ⟨⟨⟨by omega, by omega⟩, by omega⟩, fun p hp => by have := hr p hp; omega⟩
  have hsym : symB ⟨k, toks, sep, names, start, ps⟩ = true := by
    simp only [symB, ntB, termB, Bool.and_eq_true, decide_eq_true_eq, List.all_eq_true, Bool.not_eq_true', List.any_eq_false]
    refine ⟨v3, fun p hp => ⟨⟨(hl p hp).1, (hl p hp).2⟩, fun s hs1 => ?_⟩⟩
    have := hs p hp s hs1
    simp
    omega
  have hcm : compB ⟨k, toks, sep, names, start, ps⟩ = true := by
    refine List.all_eq_true.2 fun i hi => ?_
    have h8 := List.all_eq_true.1 h7 i hi
    obtain ⟨p, hp, he⟩ := List.any_eq_true.1 h8
    obtain ⟨q, hq, he2⟩ := hcomp p hp
    exact List.any_eq_true.2 ⟨q, hq, decide_eq_true (he2.trans (of_decide_eq_true he))⟩
  have e1 : shortB ⟨k, toks, sep, names, start, ps⟩ = false := h2
  have e2 : smallsB ⟨k, toks, sep, names, start, ps⟩ = true := h3
  have e3 : dupB (toks ++ [sep] ++ names) = false := h4
  rw [gcheck, if_neg (by simp only; omega), gc0, hfull, gc1, e1, e2, gc2, gc3, hsym, gc4, ho, gc5, hcm]
  simp only [e3]
  rfl
theorem ords_iff {ps : List Pr} : ordsB ps = true ↔ ∀ i, (h : i + 1 < ps.length) → ps[i].1 ≤ ps[i + 1].1 := by
  rw [ordsB, List.all_eq_true]
  constructor
  · intro h i hi
    have h1 := h (i + 1) (List.mem_range.2 hi)
    simp only [Bool.or_eq_true, decide_eq_true_eq, Nat.add_eq_zero_iff, Nat.add_sub_cancel] at h1
    rw [getD_at _ (show i < ps.length by omega), getD_at _ hi] at h1
    rcases h1 with h1 | h1
    · omega
    · exact h1
  · intro h i hi
    have hi := List.mem_range.1 hi
    simp only [Bool.or_eq_true, decide_eq_true_eq]
    by_cases h0 : i = 0
    · exact .inl h0
    · obtain ⟨j, rfl⟩ : ∃ j, i = j + 1 := ⟨i - 1, by omega⟩
      refine .inr ?_
      rw [Nat.add_sub_cancel, getD_at _ (show j < ps.length by omega), getD_at _ hi]
      exact h j hi
/-- The run of productions with the same left side around one. -/
structure Run (ps : List Pr) (i f t : Nat) : Prop where
  le : f ≤ i ∧ i ≤ t ∧ t < ps.length
  same : ∀ j, f ≤ j → j ≤ t → (ps.getD j (0, [])).1 = (ps.getD i (0, [])).1
  lo : f = 0 ∨ (ps.getD (f - 1) (0, [])).1 ≠ (ps.getD i (0, [])).1
  hi : t + 1 = ps.length ∨ (ps.getD (t + 1) (0, [])).1 ≠ (ps.getD i (0, [])).1
theorem Run.move {ps : List Pr} {i f t j : Nat} (h : Run ps i f t) (h1 : f ≤ j) (h2 : j ≤ t) : Run ps j f t := by
  have e := h.same j h1 h2
  exact ⟨⟨h1, h2, h.le.2.2⟩, fun k hk1 hk2 => by rw [e]; exact h.same k hk1 hk2, by rw [e]; exact h.lo, by rw [e]; exact h.hi⟩
theorem Run.uniq {ps : List Pr} {i f t f' t' : Nat} (h : Run ps i f t) (h' : Run ps i f' t') : f = f' ∧ t = t' := by
  obtain ⟨a1, a2, a3⟩ := h.le
  obtain ⟨b1, b2, b3⟩ := h'.le
  constructor
  · by_cases c : f < f'
    · rcases h'.lo with h0 | h0
      · omega
      · exact absurd (h.same (f' - 1) (by omega) (by omega)) h0
    · by_cases c2 : f' < f
      · rcases h.lo with h0 | h0
        · omega
        · exact absurd (h'.same (f - 1) (by omega) (by omega)) h0
      · omega
  · by_cases c : t < t'
    · rcases h.hi with h0 | h0
      · omega
      · exact absurd (h'.same (t + 1) (by omega) (by omega)) h0
    · by_cases c2 : t' < t
      · rcases h'.hi with h0 | h0
        · omega
        · exact absurd (h.same (t' + 1) (by omega) (by omega)) h0
      · omega
/-- Turned round, as far as the first k. -/
def Turned (ps ts : List Pr) (k : Nat) : Prop := ts.length = ps.length ∧ ∀ i, i < k → ∃ f t, Run ps i f t ∧ ts[f + t - i]? = ps[i]?
theorem Turned.step {ps ts : List Pr} {k f t : Nat} (h : Turned ps ts k) (hr : Run ps k f t) : Turned ps (ts.set (f + t - k) (ps.getD k (0, []))) (k + 1) := by
  obtain ⟨h1, h2⟩ := h
  obtain ⟨a1, a2, a3⟩ := hr.le
  refine ⟨by rw [List.length_set]; exact h1, fun i hi => ?_⟩
  by_cases he : i = k
  · subst he
    refine ⟨f, t, hr, ?_⟩
    rw [List.getElem?_set, if_pos rfl, if_pos (by omega), getD_at _ (by omega), List.getElem?_eq_getElem (by omega)]
  · obtain ⟨f', t', hr', e⟩ := h2 i (by omega)
    refine ⟨f', t', hr', ?_⟩
    obtain ⟨b1, b2, b3⟩ := hr'.le
    rw [List.getElem?_set, if_neg, e]
    intro hp
    have m1 := hr.move (j := f + t - k) (by omega) (by omega)
    have m2 := hr'.move (j := f + t - k) (by omega) (by omega)
    obtain ⟨rfl, rfl⟩ := m1.uniq m2
    omega
theorem Turned.done {ps ts : List Pr} (h : Turned ps ts ps.length) : ts.map (·.1) = ps.map (·.1) ∧ ∀ p, p ∈ ts ↔ p ∈ ps := by
  obtain ⟨h1, h2⟩ := h
  have key : ∀ j, j < ps.length → ∃ i, i < ps.length ∧ ts[j]? = ps[i]? ∧ (ps.getD i (0, [])).1 = (ps.getD j (0, [])).1 := by
    intro j hj
    obtain ⟨f, t, hr, _⟩ := h2 j hj
    obtain ⟨a1, a2, a3⟩ := hr.le
    obtain ⟨f', t', hr', e⟩ := h2 (f + t - j) (by omega)
    have m := hr.move (j := f + t - j) (by omega) (by omega)
    obtain ⟨rfl, rfl⟩ := m.uniq hr'
    refine ⟨f + t - j, by omega, ?_, hr.same _ (by omega) (by omega)⟩
    rw [← e]; congr 1; omega
  constructor
  · apply List.ext_getElem (by simp [h1])
    intro j h3 h4
    simp only [List.length_map] at h3 h4
    obtain ⟨i, hi, e1, e2⟩ := key j h4
    rw [List.getElem?_eq_getElem h3, List.getElem?_eq_getElem hi] at e1
    rw [getD_at _ hi, getD_at _ h4] at e2
    rw [List.getElem_map, List.getElem_map, Option.some.inj e1, e2]
  · intro p
    constructor
    · intro hp
      obtain ⟨j, hj, rfl⟩ := List.getElem_of_mem hp
      obtain ⟨i, hi, e1, _⟩ := key j (by omega)
      rw [List.getElem?_eq_getElem hj, List.getElem?_eq_getElem hi] at e1
      rw [Option.some.inj e1]; exact List.getElem_mem hi
    · intro hp
      obtain ⟨i, hi, rfl⟩ := List.getElem_of_mem hp
      obtain ⟨f, t, hr, e⟩ := h2 i hi
      rw [List.getElem?_eq_getElem hi] at e
      exact List.mem_of_getElem? e
theorem ords_lefts {ps ts : List Pr} (h : ts.map (·.1) = ps.map (·.1)) (ho : ordsB ps = true) : ordsB ts = true := by
  have hl : ts.length = ps.length := by have := congrArg List.length h; simpa using this
  have hg : ∀ i, (h1 : i < ts.length) → ts[i].1 = (ps[i]'(by omega)).1 := by
    intro i h1
    have h2 : (ts.map (·.1))[i]'(by simpa using h1) = (ps.map (·.1))[i]'(by simp; omega) := by simp only [h]
    simpa using h2
  refine ords_iff.2 fun i hi => ?_
  rw [hg i (by omega), hg (i + 1) hi]
  exact ords_iff.1 ho i (by omega)
theorem ords_insert {ps : List Pr} {a : Nat} {r : List Int} (ha : a < ps.length) (ho : ordsB ps = true) : ordsB (ps.take a ++ (ps[a].1, r) :: ps.drop a) = true := by
  refine ords_iff.2 fun i hi => ?_
  have hl : (ps.take a).length = a := by rw [List.length_take]; omega
  have hlen : (ps.take a ++ (ps[a].1, r) :: ps.drop a).length = ps.length + 1 := by simp; omega
  have get : ∀ j, (hj : j < (ps.take a ++ (ps[a].1, r) :: ps.drop a).length) → ((ps.take a ++ (ps[a].1, r) :: ps.drop a)[j]).1 = if h : j ≤ a then (ps[j]'(by omega)).1 else (ps[j - 1]'(by omega)).1 := by
    intro j hj
    by_cases h1 : j < a
    · rw [dif_pos (by omega), List.getElem_append_left (by omega), List.getElem_take]
    · rw [List.getElem_append_right (by omega)]
      by_cases h2 : j = a
      · subst h2
        rw [dif_pos (Nat.le_refl _)]
        simp only [hl, Nat.sub_self, List.getElem_cons_zero]
      · rw [dif_neg (by omega)]
        have e : j - (ps.take a).length = (j - 1 - a) + 1 := by omega
        simp only [e, List.getElem_cons_succ, List.getElem_drop]
        congr 2; omega
  rw [get i (by omega), get (i + 1) hi]
  by_cases h1 : i + 1 ≤ a
  · rw [dif_pos (by omega), dif_pos h1]
    exact ords_iff.1 ho i (by omega)
  · rw [dif_neg h1]
    by_cases h2 : i ≤ a
    · rw [dif_pos h2]; exact Int.le_refl _
    · rw [dif_neg h2]
      have := ords_iff.1 ho (i - 1) (by omega)
      simp only [Nat.add_sub_cancel]
      have e : i - 1 + 1 = i := by omega
      simp only [e] at this
      exact this
end Go.Proofs.Ytaoinojdijbhaaa
namespace Go.Proofs.Ytaoinojdijbhaaa
open Go.RowKit
/-! One production less. -/
theorem check_less {g : Gr} {ps : List Pr} (hc : gcheck g = 0) (hlen : ps.length ≤ 24) (hsub : ∀ p, p ∈ ps → p ∈ g.prods) (ho : ordsB ps = true) : gcheck (withP g ps) = 0 ∨ gcheck (withP g ps) = 7 := by
  by_cases hcomp : compB (withP g ps) = true
  · refine .inl (check_withP hc hlen (fun p hp => (valid_of hc).right p (hsub p hp)) (fun p hp => (valid_of hc).wf.left p (hsub p hp)) (fun p hp => (valid_of hc).syms p (hsub p hp)) ho fun p hp => ?_)
    have hl := (valid_of hc).wf.left p hp
    have h1 := List.all_eq_true.1 hcomp (p.1 - 16).toNat (List.mem_range.2 (by show _ < g.names.length; omega))
    obtain ⟨q, hq, he⟩ := List.any_eq_true.1 h1
    have he := of_decide_eq_true he
    exact ⟨q, hq, by omega⟩
  · refine .inr ?_
    obtain ⟨k, toks, sep, names, start, prods⟩ := g
    obtain ⟨hk, h1, h2, h3, h4, h5, h6, h7⟩ := gcheck_ok hc
    have hv := valid_of hc
    have v1 := hv.toks; have v2 := hv.names; have v3 := hv.start
    have hr := hv.right; have hl := hv.wf.left; have hs := hv.syms
    simp only at hl hs hr hk v1 v2 v3 hsub
    have hfull : fullB ⟨k, toks, sep, names, start, ps⟩ = false := by
      simp only [fullB, Bool.or_eq_false_iff, decide_eq_false_iff_not, List.any_eq_false, decide_eq_true_eq]
      exact ⟨⟨⟨by omega, by omega⟩, by omega⟩, fun p hp => by have := hr p (hsub p hp); omega⟩
    have hsym : symB ⟨k, toks, sep, names, start, ps⟩ = true := by
      simp only [symB, ntB, termB, Bool.and_eq_true, decide_eq_true_eq, List.all_eq_true, Bool.not_eq_true', List.any_eq_false]
      refine ⟨v3, fun p hp => ⟨⟨(hl p (hsub p hp)).1, (hl p (hsub p hp)).2⟩, fun s hs1 => ?_⟩⟩
      have := hs p (hsub p hp) s hs1
      simp
      omega
    have hshort : shortB ⟨k, toks, sep, names, start, ps⟩ = false := h2
    have hsm : smallsB ⟨k, toks, sep, names, start, ps⟩ = true := h3
    show gcheck ⟨k, toks, sep, names, start, ps⟩ = 7
    have hcf : compB ⟨k, toks, sep, names, start, ps⟩ = false := by
      cases h : compB ⟨k, toks, sep, names, start, ps⟩ with
      | false => rfl
      | true => exact absurd h hcomp
    simp only at h4
    rw [gcheck, if_neg (by simp only; omega), gc0, hfull, gc1, hshort, hsm, gc2]
    simp only [h4]
    rw [gc3, hsym, gc4]
    simp only [ho]
    rw [gc5, hcf]; rfl
theorem ords_erase {ps : List Pr} (h : ordsB ps = true) (i : Nat) : ordsB (ps.take i ++ ps.drop (i + 1)) = true := by
  have hp : ps.Pairwise fun a b => a.1 ≤ b.1 := by
    rw [List.pairwise_iff_getElem]
    have key : ∀ d i (hi : i + d < ps.length), ps[i].1 ≤ ps[i + d].1 := by
      intro d
      induction d with
      | zero => intro i hi; exact Int.le_refl _
      | succ d ih =>
        intro i hi
        have h1 := ih i (by omega)
        have h2 := List.all_eq_true.1 h (i + (d + 1)) (List.mem_range.2 hi)
        rw [decide_eq_false (by omega), Bool.false_or, decide_eq_true_eq] at h2
        rw [show i + (d + 1) - 1 = i + d by omega, List.getD, List.getD, List.getElem?_eq_getElem (show i + d < ps.length by omega), List.getElem?_eq_getElem hi] at h2
        exact Int.le_trans h1 h2
    intro i j hi hj hij
    have := key (j - i) i (by omega)
    simpa only [show i + (j - i) = j by omega] using this
  have hsub : List.Sublist (ps.take i ++ ps.drop (i + 1)) ps := by
    have h1 : List.Sublist (ps.take i ++ ps.drop (i + 1)) (ps.take i ++ ps.drop i) := List.Sublist.append (List.Sublist.refl _) (by
      rw [show ps.drop (i + 1) = (ps.drop i).drop 1 by rw [List.drop_drop]]
      exact List.drop_sublist _ _)
    rwa [List.take_append_drop] at h1
  have hp2 := hp.sublist hsub
  refine List.all_eq_true.2 fun j hj => ?_
  have hj := List.mem_range.1 hj
  by_cases h0 : j = 0
  · simp [h0]
  · have hj1 : j - 1 < (ps.take i ++ ps.drop (i + 1)).length := by omega
    have := List.pairwise_iff_getElem.1 hp2 (j - 1) j hj1 hj (by omega)
    rw [decide_eq_false h0, Bool.false_or, decide_eq_true_eq, List.getD, List.getD, List.getElem?_eq_getElem hj1, List.getElem?_eq_getElem hj]
    exact this
theorem byS_mono {nul nul' : List Bool} (h : ∀ x : Int, 16 ≤ x → bget nul' x = true → bget nul x = true) : ∀ (r : List Int) (j : Nat), (byS nul' r).testBit j = true → (byS nul r).testBit j = true := by
  intro r
  induction r with
  | nil => intro j h; exact h
  | cons x r ih =>
    intro j hj
    rw [byS] at hj ⊢
    by_cases h16 : x < 16
    · rw [if_pos h16] at hj; simp at hj
    · rw [if_neg h16, Nat.testBit_or, Bool.or_eq_true] at hj ⊢
      rcases hj with hj | hj
      · exact .inl hj
      · by_cases hb : bget nul' x = true
        · rw [if_pos hb] at hj
          rw [if_pos (h x (by omega) hb)]
          exact .inr (ih j hj)
        · rw [if_neg hb] at hj; simp at hj
theorem null_less {g : Gr} {ps : List Pr} (hv : Valid g) (hv' : Valid (withP g ps)) (h : ∀ p, p ∈ ps → p ∈ g.prods) {s : Int} (hs : 16 ≤ s) : bget (nullM (withP g ps)) s = true → bget (nullM g) s = true := by
  have w1 : Wf ps g.names.length := hv'.wf
  have l1 := best_least w1 (small_tb false 0 (by decide))
  have l2 := best_least hv.wf (small_tb false 0 (by decide))
  show bget ((best ps g.names.length (tb false) 0).map Option.isSome) s = true → bget ((best g.prods g.names.length (tb false) 0).map Option.isSome) s = true
  rw [bget_some, bget_some]
  intro h1
  cases h2 : tget (best ps g.names.length (tb false) 0) s with
  | none => rw [h2] at h1; cases h1
  | some c =>
    obtain ⟨c', h3, _⟩ := l1.mono l2 h hs h2
    rw [h3]; rfl
theorem left_less {g : Gr} {ps : List Pr} (hv : Valid g) (hv' : Valid (withP g ps)) (h : ∀ p, p ∈ ps → p ∈ g.prods) {i : Nat} (hi : i ∈ leftM (withP g ps)) : i ∈ leftM g := by
  obtain ⟨h1, h2⟩ := (leftM_iff hv').1 hi
  refine (leftM_iff hv).2 ⟨h1, h2.mono fun a b hab => ?_⟩
  obtain ⟨h3, p, hp, h4, h5⟩ := begM_bit.1 hab
  exact begM_bit.2 ⟨h3, p, h p hp, h4, byS_mono (fun x hx => null_less hv hv' h hx) _ _ h5⟩
theorem prods_pos {g : Gr} (hc : gcheck g = 0) : 0 < g.prods.length := by
  obtain ⟨_, _, _, _, _, _, _, h7⟩ := gcheck_ok hc
  have h8 := List.all_eq_true.1 h7 0 (List.mem_range.2 (valid_of hc).names.1)
  obtain ⟨p, hp, _⟩ := List.any_eq_true.1 h8
  exact List.length_pos_of_mem hp
theorem left_two {g : Gr} (hv : Valid g) {i x : Nat} (h1 : suc (begM g) i x = true) (h2 : suc (begM g) x i = true) : i ∈ leftM g ∧ x ∈ leftM g :=
  ⟨(leftM_iff hv).2 ⟨begM_in hv h2, (Tr.one (R := fun a b => suc (begM g) a b = true) h1).step h2⟩, (leftM_iff hv).2 ⟨begM_in hv h1, (Tr.one (R := fun a b => suc (begM g) a b = true) h2).step h1⟩⟩
end Go.Proofs.Ytaoinojdijbhaaa
set_option linter.unusedSimpArgs false
set_option linter.unusedVariables false
set_option maxHeartbeats 2000000
set_option maxRecDepth 20000
namespace Go.Proofs.Ytaoinojdijbhaaa
open Go.RowKit
section
variable (E : Env) (L : List Res)
theorem OwnTexts_call' (p : Option Addr) (c : Nat) (l : List (List UInt8)) (hl : SlE E 1 p l.length (strs l)) (hn : l.length ≤ 1000000000) :
    CallS Try.prog 71 #[.slice p l.length c] E L (fun r E' L' => ∃ a c', r = .slice a l.length c' ∧ SlE E' 1 a l.length (strs l) ∧ l.length ≤ c' ∧ L' = L) := by
  refine CallS.intro (l := [.slice p l.length c]) _ Try.func71 rfl Try.ntmps71 rfl ?_
  refine G_seq (G_region ?_)
  refine G_val (V_assign rfl rfl) rfl rfl (.none rfl) ?_
  refine G_end (X_then (G_seq (G_region ?_)))
  refine G_lit0 rfl rfl rfl (.none rfl) ?_
  intro b3
  refine G_val (V_move rfl rfl) rfl rfl (.none rfl) ?_
  refine G_append rfl rfl rfl (SlE.rd hl) (strs_one l) (by omega) (by omega) rfl rfl (.none rfl) (fun _ _ => .head _ _ _) ?_
  intro a5 c5
  refine G.freezeSl (.head _ _) ?_
  intro E1 hE1 hal hc
  simp only [Nat.zero_add, List.nil_append] at hal hc ⊢
  refine G_val (V_assign rfl rfl) rfl rfl (.none rfl) ?_
  refine G_end (X_then (G_ret ?_))
  refine G_leaveS (.nil _) (by exact (.cons (.tmp rfl) (.nil))) rfl ?_ ?_
  · exact hE1
  exact ⟨_, ⟨_, ⟨rfl, ⟨(by assumption), ⟨(by assumption), rfl⟩⟩⟩⟩⟩
theorem OwnGrammar_call (gv : Value) (g : Gr) (hg : GrE E gv g) (hl : Light g) : CallS Try.prog 18 #[gv] E L (fun r E' L' => GrE E' r g ∧ L' = L) := by
  obtain ⟨tp, tc, np, nc, pp, pc, rfl, ht, hn, ⟨rows, hrows, hps, hre⟩, k1, k2, k3⟩ := hg
  have hlen : g.prods.length = rows.length := by rw [← hrows]; simp
  have q1 := hl.t; have q2 := hl.n; have q3 := hl.p
  refine CallS.intro (l := [_]) _ Try.func18 rfl Try.ntmps18 rfl ?_
  refine G_seq (G_region ?_)
  (refine G_boxA rfl rfl rfl rfl (.none rfl) ?_; intro b1)
  (refine G_alloc rfl rfl rfl (.none rfl) ?_; intro b2)
  refine G_end (X_then (G_seq (G_region ?_)))
  refine G_val (V_fieldAddr rfl rfl (by decide)) rfl rfl (.none rfl) ?_
  refine G_val (V_load rfl rfl (Cell.own (.tail _ (.head _)) rfl)) rfl rfl (.none rfl) ?_
  refine G_call (k := 71) (.mk rfl rfl rfl rfl) rfl rfl (.none rfl) (OwnTexts_call' _ _ _ _ _ (by assumption) (by omega)) ?_
  rintro r1 E2 L3 hE4 ⟨z5, ⟨z6, ⟨rfl, ⟨Z7, ⟨Z8, rfl⟩⟩⟩⟩⟩
  replace ht := ht.mono hE4
  replace hn := hn.mono hE4
  replace hps := hps.mono hE4
  refine G_val (V_fieldAddr rfl rfl (by decide)) rfl rfl (.none rfl) ?_
  refine G_storeAt rfl rfl rfl rfl rfl rfl (.none rfl) (.tail _ (.head _ _ _)) (Nat.le_of_ble_eq_true rfl) (by simp only [putAll, Nat.zero_add, Nat.reduceAdd, List.setIfInBounds_toArray, List.set_cons_succ, List.set_cons_zero]; rfl) ?_
  refine G_end (X_then (G_seq (G_region ?_)))
  refine G_val (V_fieldAddr rfl rfl (by decide)) rfl rfl (.none rfl) ?_
  refine G_val (V_load rfl rfl (Cell.own (.tail _ (.head _)) rfl)) rfl rfl (.none rfl) ?_
  refine G_call (k := 71) (.mk rfl rfl rfl rfl) rfl rfl (.none rfl) (OwnTexts_call' _ _ _ _ _ (by assumption) (by omega)) ?_
  rintro r9 E10 L11 hE12 ⟨z13, ⟨z14, ⟨rfl, ⟨Z15, ⟨Z16, rfl⟩⟩⟩⟩⟩
  replace Z7 := Z7.mono hE12
  replace ht := ht.mono hE12
  replace hn := hn.mono hE12
  replace hps := hps.mono hE12
  refine G_val (V_fieldAddr rfl rfl (by decide)) rfl rfl (.none rfl) ?_
  refine G_storeAt rfl rfl rfl rfl rfl rfl (.none rfl) (.tail _ (.head _ _ _)) (Nat.le_of_ble_eq_true rfl) (by simp only [putAll, Nat.zero_add, Nat.reduceAdd, List.setIfInBounds_toArray, List.set_cons_succ, List.set_cons_zero]; rfl) ?_
  refine G_end (X_then (G_seq (G_region ?_)))
  refine G_val (V_assign rfl rfl) rfl rfl (.none rfl) ?_
  refine G_end (X_then (G_seq (G_seq (G_region ?_))))
  refine G_val (V_assign rfl rfl) rfl rfl (.none rfl) ?_
  refine G_end (X_then (G_block ?_))
  replace hre := (hre.mono hE4).mono hE12
  refine G.nilSl 62 2 ?_
  refine G_loop (α := Nat × Env × Option Addr × Nat × List Row) (fun x => [(1, .pointer (some ⟨b1, 0, none⟩)), (2, .pointer (some ⟨b2, 0, none⟩)), (3, .slice x.2.2.1 x.1 x.2.2.2.1), (4, .int .i64 x.1)]) (fun x => x.2.1)
    (fun x => .sl 62 2 x.2.2.1 x.1 x.2.2.2.1 (prows x.2.2.2.2) :: .blk b2 (.cells #[.int .i64 0, .slice none 0 0, .string ⟨#[]⟩, .slice none 0 0, .int .i64 0, .slice none 0 0] 26 (0, 0)) :: .blk b1 (.cells #[.int .i64 g.k, .slice z5 g.toks.length z6, .string (S g.sep), .slice z13 g.names.length z14, .int .i64 g.start, .slice pp g.prods.length pc] 26 (0, 0)) :: L)
    (fun x => E10.Le x.2.1 ∧ x.1 ≤ rows.length ∧ x.2.2.2.2.map (·.2.2) = (rows.take x.1).map (·.2.2) ∧ RowsE x.2.1 x.2.2.2.2) (fun x => rows.length - x.1) (0, E10, none, 0, [])
    ⟨.refl _, Nat.zero_le _, rfl, fun r hr => (by cases hr)⟩ ⟨rfl, rfl, rfl, rfl, trivial⟩ rfl rfl ?_
  rintro ⟨i, E, a, ca, rs⟩ ⟨hE, hi, hrs, hrE⟩
  simp only at hE hi hrs hrE ⊢
  replace hps := hps.mono hE
  replace hre := hre.mono hE
  have hrl : rs.length = i := by have := congrArg List.length hrs; simp at this; omega
  by_cases hlt : i < rows.length
  · have hg1 := List.getElem?_eq_getElem hlt
    have hyl := prows_left hg1
    have hyr := prows_right hg1
    have hre1 := hre.get hg1
    have hp : rows[i].2.2 ∈ g.prods := by rw [← hrows]; exact List.mem_map.2 ⟨rows[i], List.getElem_mem hlt, rfl⟩
    have h8 := hl.ps _ hp
    have htk : (rows.take (i + 1)).map (·.2.2) = (rows.take i).map (·.2.2) ++ [rows[i].2.2] := by rw [List.take_succ_eq_append_getElem hlt, List.map_append]; rfl
    have hrl2 := prows_len rs
    refine G_seq (G_seq (G_region ?_))
    refine G_val (V_move rfl rfl) rfl rfl (.none rfl) ?_
    refine G_val (V_fieldAddr rfl rfl (by decide)) rfl rfl (.none rfl) ?_
    refine G_val (V_load rfl rfl (Cell.own (.tail _ (.tail _ (.head _))) rfl)) rfl rfl (.none rfl) ?_
    refine G_val (V_lenS rfl rfl) rfl rfl (.none rfl) ?_
    refine G_val (V_lss rfl rfl rfl) rfl rfl (.none rfl) ?_
    refine G_end (X_then ?_)
    refine G_cond_t rfl (decide_eq_true (by omega)) ?_
    refine G_skip (X_then (G_seq (G_block ?_)))
    refine G_drawX 16 [(0, 0), (1, 0), (2, 1), (3, 0), (4, 1), (5, 0), (6, 1), (7, 0), (8, 1), (9, 0), (10, 1), (11, 0), (12, 1), (13, 3), (14, 0), (15, 2)] mixed (by kernel_rfl) ?_
    refine F_pure rfl (fun _ _ => V_move rfl rfl) rfl rfl (.none rfl) ?_
    refine F_pure rfl (fun _ _ => V_fieldAddr rfl rfl (by decide)) rfl rfl (.none rfl) ?_
    refine F_load rfl (.tail _ (.tail _ (.head _))) (V_load rfl rfl (Cell.own (.head _) rfl)) rfl rfl (.none rfl) ?_
    refine F_pure rfl (fun _ _ => V_move rfl rfl) rfl rfl (.none rfl) ?_
    refine F_loadE rfl (V_idxAddr rfl rfl rfl (SlE.rd (by assumption)) (by omega) (by omega)) rfl rfl (.none rfl) ?_
    refine F_pure rfl (fun _ _ => V_fieldAddrX rfl rfl (by assumption) (by omega) (by decide)) rfl rfl (.none rfl) ?_
    refine F_loadE rfl (V_loadS rfl rfl (SlE.rd (by assumption)) hyl (by simp)) rfl rfl (.none rfl) ?_
    refine F_pure rfl (fun _ _ => V_fieldAddr rfl rfl (by decide)) rfl rfl (.none rfl) ?_
    refine F_load rfl (.tail _ (.tail _ (.head _))) (V_load rfl rfl (Cell.own (.head _) rfl)) rfl rfl (.none rfl) ?_
    refine F_pure rfl (fun _ _ => V_move rfl rfl) rfl rfl (.none rfl) ?_
    refine F_loadE rfl (V_idxAddr rfl rfl rfl (SlE.rd (by assumption)) (by omega) (by omega)) rfl rfl (.none rfl) ?_
    refine F_pure rfl (fun _ _ => V_fieldAddrX rfl rfl (by assumption) (by omega) (by decide)) rfl rfl (.none rfl) ?_
    refine F_loadE rfl (V_loadS rfl rfl (SlE.rd (by assumption)) (by assumption) (by simp)) rfl rfl (.none rfl) ?_
    apply F_call (k := 32) rfl (.mk rfl rfl rfl rfl) rfl rfl (.none rfl)
    · (intro L0; refine CallS.mono (OwnInts_call _ _ _ _ _ (by assumption) (by omega)) ?_; exact fun _ _ _ _ h => h)
    · (rintro L0 r E' L' ⟨z1, ⟨z2, ⟨rfl, ⟨Z3, rfl⟩⟩⟩⟩; exact ⟨rfl, ⟨_, ⟨_, ⟨rfl, ⟨(by assumption), rfl⟩⟩⟩⟩⟩)
    rintro r4 E5 hE6 ⟨z7, ⟨z8, ⟨rfl, ⟨Z9, _⟩⟩⟩⟩
    replace hps := hps.mono hE6
    replace hre1 := hre1.mono hE6
    refine F_pure rfl (fun _ _ => V_build rfl rfl (by simp [fillV, setLs, setL, Value.cells]; rfl)) rfl rfl (.none rfl) ?_
    (refine F_litZ rfl rfl rfl (by decide) (by simp [fillS, zeros, setLs, setL, Value.cells, List.range, List.range.loop]; rfl) (by rfl) rfl rfl (.none rfl) ?_; intro b35 E35 hE35 hs35)
    replace Z9 := Z9.mono hE35
    replace hps := hps.mono hE35
    replace hre1 := hre1.mono hE35
    (refine F_end (.nil _) ?_; dsimp only [List.drop])
    (refine G_append rfl rfl rfl (SlE.rd (by assumption)) (by simp [Value.oneCell']) (by omega) (by omega) rfl rfl (.none rfl) (fun _ _ => (.head _ _ _)) ?_; intro a36 c36)
    refine G_val (V_assign rfl rfl) rfl rfl (.none rfl) ?_
    refine G_end (X_block (X_then (G_region ?_)))
    refine G_val (V_move rfl rfl) rfl rfl (.none rfl) ?_
    refine G_val (V_add_i64 rfl rfl rfl (by omega) (by omega)) rfl rfl (.none rfl) ?_
    refine G_val (V_assign rfl rfl) rfl rfl (.none rfl) ?_
    refine G_end (X_then ?_)
    have hap := prows_append rs [(z7, z8, rows[i].2.2)]
    refine G_again (i + 1, E35, a36, c36, rs ++ [(z7, z8, rows[i].2.2)]) ⟨(hE.trans hE6).trans hE35, hlt, by rw [List.map_append, hrs, htk]; rfl, ?_⟩ (by simp only; omega) ⟨rfl, rfl, rfl, rfl, trivial⟩ rfl (by rw [hap]; rfl)
    intro r hr
    rcases List.mem_append.1 hr with h | h
    · exact ((hrE.mono hE6).mono hE35) r h
    · rw [List.mem_singleton.1 h]; assumption
  · refine G.freezeSl (.head _ _) ?_
    intro E1 hE1 hal hc
    have hi2 : i = rows.length := by omega
    have hfin : GrE E1 (.agg #[.int .i64 g.k, .slice z5 g.toks.length z6, .string (S g.sep), .slice z13 g.names.length z14, .int .i64 g.start, .slice a i ca]) g := by
      have := GrE.mk (E := E1) (g := g) (pp := a) (pc := ca) ((Z7.mono hE).mono hE1) ((Z15.mono hE).mono hE1) ⟨rs, by rw [hrs, hi2, List.take_length, hrows], by rw [hlen, ← hi2]; exact hal, hrE.mono hE1⟩ Z8 Z16 (by omega)
      rwa [hlen, ← hi2] at this
    refine G_seq (G_seq (G_region ?_))
    refine G_val (V_move rfl rfl) rfl rfl (.none rfl) ?_
    refine G_val (V_fieldAddr rfl rfl (by decide)) rfl rfl (.none rfl) ?_
    refine G_val (V_load rfl rfl (Cell.own (.tail _ (.head _)) rfl)) rfl rfl (.none rfl) ?_
    refine G_val (V_lenS rfl rfl) rfl rfl (.none rfl) ?_
    refine G_val (V_lss rfl rfl rfl) rfl rfl (.none rfl) ?_
    refine G_end (X_then ?_)
    refine G_cond_f rfl (decide_eq_false (by omega)) ?_
    refine G_exit (X_then_exit (X_then_exit (X_block_hit (X_then (G_seq (G_region ?_))))))
    refine G_val (V_move rfl rfl) rfl rfl (.none rfl) ?_
    refine G_val (V_fieldAddr rfl rfl (by decide)) rfl rfl (.none rfl) ?_
    refine G_storeAt rfl rfl rfl rfl rfl rfl (.none rfl) (.tail _ (.head _ _ _)) (Nat.le_of_ble_eq_true rfl) (by simp only [putAll, Nat.zero_add, Nat.reduceAdd, List.setIfInBounds_toArray, List.set_cons_succ, List.set_cons_zero]; rfl) ?_
    refine G_end (X_then (G_seq (G_region ?_)))
    refine G_val (V_loadA rfl rfl (Cells.own (.tail _ (.head _))) rfl) rfl rfl (.none rfl) ?_
    refine G_storeA rfl rfl rfl rfl (by simp [Value.oneCell']) rfl (.none rfl) (.head _ _ _) rfl ?_
    refine G_end (X_then (G_ret ?_))
    refine G_leaveS (.drop _ (.drop _ (.nil _))) (by exact (.cons (.cellA rfl (Cells.own (.head _)) rfl) (.nil))) rfl ?_ ?_
    · exact (((hE4.trans hE12).trans hE).trans hE1)
    exact ⟨(by assumption), rfl⟩
end
end Go.Proofs.Ytaoinojdijbhaaa
namespace Go.Proofs.Ytaoinojdijbhaaa
open Go.RowKit
section
variable {n : Nat} {ds : List Deferred} {fs : List (Nat × Value)} {E : Env} {L : List Res} {X : Act → World → Prop}
theorem G.eqL {L' : List Res} (e : L = L') (h : G n ds fs E L' X) : G n ds fs E L X := by rw [e]; exact h
/-- Two ways to one place. -/
theorem G_two {p q : Prop} {fs' : List (Nat × Value)} (h : p ∨ q) {Y : Act → World → Prop} (h1 : p → G n ds fs' E L Y → G n ds fs E L X) (h2 : q → G n ds fs' E L Y → G n ds fs E L X) (h3 : G n ds fs' E L Y) : G n ds fs E L X := h.elim (fun hp => h1 hp h3) (fun hq => h2 hq h3)
/-- An own slice that is not empty is a block. -/
theorem G.slBlk {e : TypeId} {sz k c : Nat} {a : Option Addr} {xs : List Value} (hk : 0 < k) (h : ∀ b tl, a = some ⟨b, 0, none⟩ → k ≤ c → G n ds fs E (.blk b (.cells (xs ++ tl).toArray e (0, 0)) :: L) X) : G n ds fs E (.sl e sz a k c xs :: L) X := by
  intro act w ha hw
  have h0 := hw.own _ (.head _)
  obtain ⟨h1, h2⟩ := h0
  rcases h2 with ⟨_, _, h3⟩ | ⟨g, cur, rfl, e2, e3, e4, e5, e6⟩
  · omega
  · refine h g (cur.toList.drop (k * sz)) rfl e3 act w ha ?_
    have ec : (xs ++ cur.toList.drop (k * sz)).toArray = cur := by rw [← e6, List.take_append_drop]
    rw [ec]
    refine ⟨hw.env, fun r hr => ?_, ?_, fun b hb => ?_, hw.os, hw.out, hw.tape⟩
    · rcases List.mem_cons.1 hr with rfl | hr
      · exact e2
      · exact hw.own r (.tail _ hr)
    · have := hw.nodup; simpa [Res.sl, Res.blk] using this
    · refine hw.apart b ?_; simpa [Res.sl, Res.blk] using hb
end
section
variable {P : Program} {ro : Option Nat} {n : Nat} {ds : List Deferred} {fs : List (Nat × Value)} {E : Env} {L L' : List Res} {ops : Array Oper} {o : Oper}
variable {T : Act → Fam → Prop} {π : List (Nat × Nat)} {i : Nat} {js : List (Env × List Res)}
/-- A store of a struct of two cells anywhere. -/
theorem F_store2 {t : TypeId} {x y : Operand} {b off : Nat} {v0 v1 : Value} {d : TypeDesc} {TT : TypeId} {l : List Value} {ag : Bool} [ht : Ty P t d 2 ag]
    (h0 : ops[i]? = some o) (ho : o.op = .store t x y) (hx : ev fs x = some (.pointer (some ⟨b, off, none⟩))) (hy : ev fs y = some (.agg #[v0, v1])) (hone : v0.oneCell' = true) (hone2 : v1.oneCell' = true)
    (hd : o.dst = none) (hg : Goes ops fs o) (hu : Upd L (.blk b (.cells l.toArray TT (0, 0))) (.blk b (.cells ((l.set off v0).set (off + 1) v1).toArray TT (0, 0))) L') (hl : off + 2 ≤ l.length) (hj : Jok js E L')
    (h : GF n ds fs E L' (wpF P ops T (JL js) π)) : GF n ds fs E L (wpF P ops T (JL js) ((i, 4) :: π)) :=
  F_storeF (vs := [v0, v1]) h0 ho hx hy rfl (by simp [hone, hone2]) hd hg hu (by simpa using hl) (by simp [putAll]) hj h
end
section
variable {P : Program} {ro : Option Nat} {n : Nat} {ds : List Deferred} {fs : List (Nat × Value)} {E : Env} {L : List Res} {ops : Array Oper} {T : Act → Fam → Prop} {π : List (Nat × Nat)} {i : Nat} {o : Oper} {J : World → Prop}
/-- append of nothing. -/
theorem F_append0 {s x : Operand} {t e : TypeId} {d : Nat} {sz sz' : Nat} {ag ag' : Bool} {td : TypeDesc} [ht : Ty P t (.slice e) sz' ag'] [he : Ty P e td sz ag] {a a2 : Option Addr} {k c c2 m : Nat}
    (h0 : ops[i]? = some o) (ho : o.op = .call { callee := .builtin .append, args := #[s, x], argTypes := #[t, t] }) (hs : ev fs s = some (.slice a k c)) (hx : ev fs x = some (.slice a2 m c2)) (hm : m = 0) (hk : k ≤ c)
    (hd : o.dst = some d) (hn : Nat.blt d n = true) (hg : Goes ops fs o)
    (h : GF n ds ((d, .slice a k c) :: fs) E L (wpF P ops T J π)) : GF n ds fs E L (wpF P ops T J ((i, 3) :: π)) := fun a0 ha =>
  ⟨o, h0, by
    subst hm
    rw [if_pos (hg.wanted ha)]
    intro M w hw
    unfold Steps
    have e1 : (execOp a0.eval o).run P w = .ok (.value (.slice a k c)) w := by
      cases a <;> cases a2 <;> simp [execOp, ho, resolve, invoke, builtin, ha.eval hs, ha.eval hx, Result.andThen, Builtin.append_, ht.run, he.size, Builtin.lenOf, Builtin.firstCells, hk, loadCells, loadCellsFrom, storeCells]
    rw [e1]
    refine ⟨Fam.st E L, fun w h => h, hw, ?_⟩
    rw [hd]
    exact h _ (ha.put hn _)⟩
end
end Go.Proofs.Ytaoinojdijbhaaa
