import Derived.Test.YtaoinojdijbhaaaSep19
import Derived.Test.YtaoinojdijbhaaaSep20
import Derived.Test.YtaoinojdijbhaaaSep21
import Derived.Test.YtaoinojdijbhaaaSep22
import Derived.Test.YtaoinojdijbhaaaSep23
import Derived.Test.YtaoinojdijbhaaaSep24
import Derived.Test.YtaoinojdijbhaaaInst
import Derived.Test.YtaoinojdijbhaaaK1
set_option linter.unusedSimpArgs false
set_option linter.unusedVariables false
set_option maxHeartbeats 2000000
set_option maxRecDepth 20000
namespace Go.Proofs.Ytaoinojdijbhaaa
open Go.RowKit

/-! Grammars as plain data, and how they lie in memory. -/
abbrev Pr := Int × List Int
structure Gr where
  k : Int
  toks : List (List UInt8)
  sep : List UInt8
  names : List (List UInt8)
  start : Int
  prods : List Pr
/-- A production, where its right side lies. -/
abbrev Row := Option Addr × Nat × Pr
def prow (x : Row) : List Value := [.int .i64 x.2.2.1, .slice x.1 x.2.2.2.length x.2.1]
def prows (rows : List Row) : List Value := rows.flatMap prow
theorem prows_len (rows : List Row) : (prows rows).length = rows.length * 2 := by
  induction rows with
  | nil => rfl
  | cons x l ih => simp only [prows, List.flatMap_cons, List.length_append, prow, List.length_cons, List.length_nil] at *; omega
theorem prows_append (a b : List Row) : prows (a ++ b) = prows a ++ prows b := List.flatMap_append
theorem prows_drop (l : List Row) (k : Nat) : (prows l).drop (k * 2) = prows (l.drop k) := by
  induction l generalizing k with
  | nil => simp [prows]
  | cons t l ih =>
    cases k with
    | zero => simp
    | succ k =>
      have e : (k + 1) * 2 = k * 2 + 2 := by omega
      rw [e]
      show (prow t ++ prows l).drop (k * 2 + 2) = _
      rw [Nat.add_comm, ← List.drop_drop]
      simpa [prow] using ih k
theorem prows_take (l : List Row) (k : Nat) : (prows l).take (k * 2) = prows (l.take k) := by
  induction l generalizing k with
  | nil => simp [prows]
  | cons t l ih =>
    cases k with
    | zero => simp [prows]
    | succ k =>
      have e : (k + 1) * 2 = k * 2 + 1 + 1 := by omega
      rw [e]
      show (.int .i64 t.2.2.1 :: .slice t.1 t.2.2.2.length t.2.1 :: prows l : List Value).take (k * 2 + 1 + 1) = .int .i64 t.2.2.1 :: .slice t.1 t.2.2.2.length t.2.1 :: prows (l.take k)
      simp only [List.take_succ_cons, ih k]
theorem prows_get {l : List Row} {k : Nat} {x : Row} (h : l[k]? = some x) : ((prows l).drop (k * 2)).take 2 = [.int .i64 x.2.2.1, .slice x.1 x.2.2.2.length x.2.1] := by
  rw [prows_drop, List.drop_eq_getElem_cons (List.getElem?_eq_some_iff.1 h).1]
  have := (List.getElem?_eq_some_iff.1 h).2
  rw [this]
  simp [prows, prow]
theorem prows_left {l : List Row} {k : Nat} {x : Row} (h : l[k]? = some x) : (prows l)[k * 2]? = some (.int .i64 x.2.2.1) := by
  have := prows_get h
  have h2 : (((prows l).drop (k * 2)).take 2)[0]? = some (.int .i64 x.2.2.1) := by rw [this]; rfl
  simpa [List.getElem?_take, List.getElem?_drop] using h2
theorem prows_right {l : List Row} {k : Nat} {x : Row} (h : l[k]? = some x) : (prows l)[k * 2 + 1]? = some (.slice x.1 x.2.2.2.length x.2.1) := by
  have := prows_get h
  have h2 : (((prows l).drop (k * 2)).take 2)[1]? = some (.slice x.1 x.2.2.2.length x.2.1) := by rw [this]; rfl
  simpa [List.getElem?_take, List.getElem?_drop] using h2
theorem prows_one (l : List Row) : ∀ v, v ∈ prows l → v.oneCell' = true := by
  intro v hv
  simp only [prows, prow, List.mem_flatMap, List.mem_cons, List.not_mem_nil, or_false] at hv
  obtain ⟨_, _, rfl | rfl⟩ := hv <;> rfl
/-- The right sides of the rows lie in E. -/
def RowsE (E : Env) (rows : List Row) : Prop := ∀ r, r ∈ rows → SlE E 1 r.1 r.2.2.2.length (i64s r.2.2.2)
theorem RowsE.mono {E E' : Env} {rows : List Row} (h : RowsE E rows) (hE : E.Le E') : RowsE E' rows := fun r hr => (h r hr).mono hE
theorem RowsE.get {E : Env} {rows : List Row} (h : RowsE E rows) {k : Nat} {x : Row} (hx : rows[k]? = some x) : SlE E 1 x.1 x.2.2.2.length (i64s x.2.2.2) := h x (List.mem_of_getElem? hx)
def PsE (E : Env) (a : Option Addr) (n : Nat) (ps : List Pr) : Prop := ∃ rows : List Row, rows.map (·.2.2) = ps ∧ SlE E 2 a n (prows rows) ∧ RowsE E rows
theorem PsE.mono {E E' : Env} {a : Option Addr} {n : Nat} {ps : List Pr} (h : PsE E a n ps) (hE : E.Le E') : PsE E' a n ps := by
  obtain ⟨rows, h1, h2, h3⟩ := h
  exact ⟨rows, h1, h2.mono hE, h3.mono hE⟩
theorem SlE.nR {E : Env} {a : Option Addr} {n : Nat} {rows : List Row} (h : SlE E 2 a n (prows rows)) : n = rows.length := by have := h.1; rw [prows_len] at this; omega
theorem PsE.len {E : Env} {a : Option Addr} {n : Nat} {ps : List Pr} (h : PsE E a n ps) : n = ps.length := by
  obtain ⟨rows, rfl, h2, _⟩ := h
  rw [List.length_map]; exact h2.nR
/-- A grammar as a value. -/
def GrE (E : Env) (v : Value) (g : Gr) : Prop := ∃ tp tc np nc pp pc, v = .agg #[.int .i64 g.k, .slice tp g.toks.length tc, .string (S g.sep), .slice np g.names.length nc, .int .i64 g.start, .slice pp g.prods.length pc] ∧
  SlE E 1 tp g.toks.length (strs g.toks) ∧ SlE E 1 np g.names.length (strs g.names) ∧ PsE E pp g.prods.length g.prods ∧ g.toks.length ≤ tc ∧ g.names.length ≤ nc ∧ g.prods.length ≤ pc
theorem GrE.mono {E E' : Env} {v : Value} {g : Gr} (h : GrE E v g) (hE : E.Le E') : GrE E' v g := by
  obtain ⟨tp, tc, np, nc, pp, pc, h0, h1, h2, h3, h4⟩ := h
  exact ⟨tp, tc, np, nc, pp, pc, h0, h1.mono hE, h2.mono hE, h3.mono hE, h4⟩
theorem GrE.mk {E : Env} {g : Gr} {tp np pp : Option Addr} {tc nc pc : Nat} (h1 : SlE E 1 tp g.toks.length (strs g.toks)) (h2 : SlE E 1 np g.names.length (strs g.names)) (h3 : PsE E pp g.prods.length g.prods) (h4 : g.toks.length ≤ tc) (h5 : g.names.length ≤ nc) (h6 : g.prods.length ≤ pc) :
    GrE E (.agg #[.int .i64 g.k, .slice tp g.toks.length tc, .string (S g.sep), .slice np g.names.length nc, .int .i64 g.start, .slice pp g.prods.length pc]) g := ⟨tp, tc, np, nc, pp, pc, rfl, h1, h2, h3, h4, h5, h6⟩
/-- A light grammar. -/
structure Light (g : Gr) : Prop where
  t : g.toks.length ≤ 10
  n : g.names.length ≤ 10
  p : g.prods.length ≤ 30
  sep : g.sep.length ≤ 40
  ts : ∀ s, s ∈ g.toks → s.length ≤ 40
  ns : ∀ s, s ∈ g.names → s.length ≤ 40
  ps : ∀ p, p ∈ g.prods → p.2.length ≤ 8
def lightB (g : Gr) : Bool := decide (g.toks.length ≤ 10) && decide (g.names.length ≤ 10) && decide (g.prods.length ≤ 30) && decide (g.sep.length ≤ 40) && g.toks.all (fun s => decide (s.length ≤ 40)) && g.names.all (fun s => decide (s.length ≤ 40)) && g.prods.all (fun p => decide (p.2.length ≤ 8))
theorem lightB_iff {g : Gr} : lightB g = true ↔ Light g := by
  simp only [lightB, Bool.and_eq_true, decide_eq_true_eq, List.all_eq_true]
  exact ⟨fun ⟨⟨⟨⟨⟨⟨h1, h2⟩, h3⟩, h4⟩, h5⟩, h6⟩, h7⟩ => ⟨h1, h2, h3, h4, h5, h6, h7⟩, fun ⟨h1, h2, h3, h4, h5, h6, h7⟩ => ⟨⟨⟨⟨⟨⟨h1, h2⟩, h3⟩, h4⟩, h5⟩, h6⟩, h7⟩⟩
end Go.Proofs.Ytaoinojdijbhaaa
