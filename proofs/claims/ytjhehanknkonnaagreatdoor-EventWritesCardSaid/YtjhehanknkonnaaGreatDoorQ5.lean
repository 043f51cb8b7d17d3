/-
  Rules and contracts, packed: Sep25, Sep36, W1, K1, H1, H2, H3, H4, H5, H6, H7, H8, S1, S3, Sep27, Sep28, L1, L2, Sep29, Sep31, Sep32, T0, T1, S13, T2, T3, T4, T5, Sep38, T6, T7, T9, W2, W6, L3, T8, W18.
-/
import Derived.Lib.Builder
import Derived.Lib.AppendStr
import Derived.Lib.UnsafeStr
import Derived.Lib.Bytealg
import Derived.Laws.Externs
import Derived.Lib.ConvBytes
import Derived.Laws.Runes
import Derived.Laws.CopyRow
import Derived.Laws.IdiomCopy
import Derived.Lib.MakeNoZero
import Derived.Test.YtjhehanknkonnaaGreatDoorQ4
set_option maxHeartbeats 1000000
namespace Go.Proofs.YtjhehanknkonnaaGreatDoor
open Go.RowKit
section
variable {n : Nat} {ds : List Deferred} {fs : List (Nat × Value)} {E : Env} {L : List Res} {X : Act → World → Prop}
theorem G.eqL {L' : List Res} (e : L = L') (h : G n ds fs E L' X) : G n ds fs E L X := by rw [e]; exact h
end
section
variable {P : Program} {ro : Option Nat} {n : Nat} {ds : List Deferred} {fs : List (Nat × Value)} {E : Env} {L L' : List Res} {ops : Array Oper} {o : Oper}
variable {T : Act → Fam → Prop} {π : List (Nat × Nat)} {i : Nat} {js js' : List JI}
end
section
variable {P : Program} {ro : Option Nat} {n : Nat} {ds : List Deferred} {fs : List (Nat × Value)} {E : Env} {L : List Res} {ops : Array Oper} {T : Act → Fam → Prop} {π : List (Nat × Nat)} {i : Nat} {o : Oper} {J : Nat → World → Prop}
end
end Go.Proofs.YtjhehanknkonnaaGreatDoor
set_option linter.unusedSimpArgs false
set_option linter.unusedVariables false
namespace Go.Proofs.YtjhehanknkonnaaGreatDoor
open Go.RowKit
section rules
variable {P : Program} {ro : Option Nat} {n : Nat} {ds : List Deferred} {fs : List (Nat × Value)} {E : Env} {L L' : List Res} {ops : Array Oper} {T : Act → Fam → Prop} {js js' : List JI} {π : List (Nat × Nat)} {i : Nat} {o : Oper} {J : Nat → World → Prop}
end rules
end Go.Proofs.YtjhehanknkonnaaGreatDoor
namespace Go.Proofs.YtjhehanknkonnaaGreatDoor
open Go.RowKit
/-! Events as plain data. -/
/-- kind, symbol, production, record, offset, text, error -/
abbrev Ev : Type := Int × Int × Int × Int × Int × List UInt8 × Int
instance evDec : DecidableEq Ev := fun a b => by
  have h7 : DecidableEq (List UInt8 × Int) := inferInstance
  have h6 : DecidableEq (Int × List UInt8 × Int) := inferInstance
  have h5 : DecidableEq (Int × Int × List UInt8 × Int) := inferInstance
  have h4 : DecidableEq (Int × Int × Int × List UInt8 × Int) := inferInstance
  have h3 : DecidableEq (Int × Int × Int × Int × List UInt8 × Int) := inferInstance
  have h2 : DecidableEq (Int × Int × Int × Int × Int × List UInt8 × Int) := inferInstance
  exact instDecidableEqProd a b
abbrev Ev.k (e : Ev) : Int := e.1
abbrev Ev.sy (e : Ev) : Int := e.2.1
abbrev Ev.pr (e : Ev) : Int := e.2.2.1
abbrev Ev.rc (e : Ev) : Int := e.2.2.2.1
abbrev Ev.pl (e : Ev) : Int := e.2.2.2.2.1
abbrev Ev.tx (e : Ev) : List UInt8 := e.2.2.2.2.2.1
abbrev Ev.er (e : Ev) : Int := e.2.2.2.2.2.2
abbrev evV (e : Ev) : Value := .agg #[.int .i64 e.k, .int .i64 e.sy, .int .i64 e.pr, .int .i64 e.rc, .int .i64 e.pl, .string (S e.tx), .int .i64 e.er]
def evC (l : List Ev) : List Value := l.flatMap fun e => [.int .i64 e.k, .int .i64 e.sy, .int .i64 e.pr, .int .i64 e.rc, .int .i64 e.pl, .string (S e.tx), .int .i64 e.er]
theorem evC_cons (e : Ev) (l : List Ev) : evC (e :: l) = [.int .i64 e.k, .int .i64 e.sy, .int .i64 e.pr, .int .i64 e.rc, .int .i64 e.pl, .string (S e.tx), .int .i64 e.er] ++ evC l := rfl
theorem evC_len (l : List Ev) : (evC l).length = l.length * 7 := by
  induction l with
  | nil => rfl
  | cons e l ih => rw [evC_cons, List.length_append, ih]; simp; omega
theorem evC_one (l : List Ev) : ∀ v, v ∈ evC l → v.oneCell' = true := by
  intro v hv
  simp only [evC, List.mem_flatMap, List.mem_cons, List.not_mem_nil, or_false] at hv
  obtain ⟨e, _, h⟩ := hv
  rcases h with rfl | rfl | rfl | rfl | rfl | rfl | rfl <;> rfl
theorem evC_drop : ∀ (l : List Ev) (k : Nat), (evC l).drop (k * 7) = evC (l.drop k) := by
  intro l
  induction l with
  | nil => intro k; simp [evC]
  | cons t l ih =>
    intro k
    cases k with
    | zero => simp
    | succ k =>
      rw [evC_cons, show (k + 1) * 7 = 7 + k * 7 by omega, ← List.drop_drop]
      show (evC l).drop (k * 7) = _
      rw [ih k, List.drop_succ_cons]
theorem evC_get {l : List Ev} {k : Nat} {e : Ev} (h : l[k]? = some e) : ((evC l).drop (k * 7)).take 7 = [.int .i64 e.k, .int .i64 e.sy, .int .i64 e.pr, .int .i64 e.rc, .int .i64 e.pl, .string (S e.tx), .int .i64 e.er] := by
  rw [evC_drop, List.drop_eq_getElem_cons (List.getElem?_eq_some_iff.1 h).1, (List.getElem?_eq_some_iff.1 h).2, evC_cons]
  rfl
theorem SlE.nEv {E : Env} {p : Option Addr} {n : Nat} {l : List Ev} (h : SlE E 7 p n (evC l)) : n = l.length := by have := h.1; rw [evC_len] at this; omega
/-- The fields of a kind, in order: 0 record, 1 symbol, 2 production, 3 text, 4 error, 5 offset. -/
def fieldsK (k : Int) : List Int :=
  if k = 1 then [0, 5] else if k = 2 then [1, 2, 5] else if k = 3 then [1, 3, 5] else if k = 4 then [1, 2] else if k = 5 then [1, 4, 5] else if k = 6 then [0, 4, 5] else if k = 7 then [4, 5] else []
abbrev cntP (n : Int) : Prop := 0 ≤ n ∧ n ≤ 1099511627776
abbrev termP (s : Int) : Prop := 0 ≤ s ∧ s < 8
abbrev nontP (s : Int) : Prop := 16 ≤ s ∧ s < 24
/-- The symbol of an event may be. -/
def symP (e : Ev) : Bool := if e.k = 3 then decide (termP e.sy) else if e.k = 5 then decide (e.sy = -1 ∨ termP e.sy ∨ nontP e.sy) else decide (nontP e.sy)
/-- The error of an event may be. -/
def errP (e : Ev) : Bool := if e.k = 6 then decide (e.er = 0 ∨ e.er = 25) else if e.k = 7 then decide (e.er = 4 ∨ e.er = 5 ∨ e.er = 14 ∨ e.er = 26)
  else if e.sy = -1 then decide (e.er = 23) else if termP e.sy then decide (e.er = 22 ∨ e.er = 5) else decide (e.er = 24)
/-- What is wrong with one field. -/
def badF (e : Ev) (f : Int) : Int :=
  if f = 0 then (if cntP e.rc then 0 else 2) else if f = 5 then (if cntP e.pl then 0 else 2) else if f = 1 then (if symP e = true then 0 else 14)
  else if f = 2 then (if 0 ≤ e.pr ∧ e.pr < 24 then 0 else 2) else if f = 3 then (if e.tx.length ≤ 24 then 0 else 4) else (if errP e = true then 0 else 11)
/-- One field more is kept. -/
def keepF (e o : Ev) (f : Int) : Ev :=
  if f = 0 then (o.k, o.sy, o.pr, e.rc, o.pl, o.tx, o.er) else if f = 5 then (o.k, o.sy, o.pr, o.rc, e.pl, o.tx, o.er) else if f = 1 then (o.k, e.sy, o.pr, o.rc, o.pl, o.tx, o.er)
  else if f = 2 then (o.k, o.sy, e.pr, o.rc, o.pl, o.tx, o.er) else if f = 3 then (o.k, o.sy, o.pr, o.rc, o.pl, e.tx, o.er) else (o.k, o.sy, o.pr, o.rc, o.pl, o.tx, e.er)
/-- The fields in the order in which they are checked. -/
abbrev ordF : List Int := [0, 5, 1, 2, 3, 4]
/-- The checks from here on: what is kept so far. -/
def chkF (e : Ev) : List Int → Ev → Int
  | [], o => if o = e then 0 else 3
  | f :: l, o => if f ∈ fieldsK e.k then (if badF e f ≠ 0 then badF e f else chkF e l (keepF e o f)) else chkF e l o
def chkE (e : Ev) : Int := if fieldsK e.k = [] then 11 else chkF e ordF (e.k, 0, 0, 0, 0, [], 0)
/-- An event as it is where only its kind's fields count. -/
def onlyE (e : Ev) : Ev := (ordF.filter fun f => f ∈ fieldsK e.k).foldl (keepF e) (e.k, 0, 0, 0, 0, [], 0)
theorem chkF_eq (e : Ev) : ∀ (l : List Int) (o : Ev), chkF e l o = 0 ↔ (∀ f, f ∈ l → f ∈ fieldsK e.k → badF e f = 0) ∧ (l.filter fun f => f ∈ fieldsK e.k).foldl (keepF e) o = e := by
  intro l
  induction l with
  | nil =>
    intro o
    simp only [chkF, List.filter_nil, List.foldl_nil]
    by_cases h : o = e
    · simp [h]
    · simp [h]
  | cons f l ih =>
    intro o
    simp only [chkF]
    by_cases hf : f ∈ fieldsK e.k
    · rw [if_pos hf]
      by_cases hb : badF e f = 0
      · rw [if_neg (fun h => h hb), ih, List.filter_cons_of_pos (by simpa using hf), List.foldl_cons]
        constructor
        · rintro ⟨h1, h2⟩
          refine ⟨fun x hx hm => ?_, h2⟩
          rcases List.mem_cons.1 hx with rfl | hx
          · exact hb
          · exact h1 x hx hm
        · rintro ⟨h1, h2⟩
          exact ⟨fun x hx => h1 x (.tail _ hx), h2⟩
      · rw [if_pos hb]
        constructor
        · intro h; exact absurd h hb
        · rintro ⟨h1, _⟩; exact absurd (h1 f (.head _) hf) hb
    · rw [if_neg hf, ih, List.filter_cons_of_neg (by simpa using hf)]
      constructor
      · rintro ⟨h1, h2⟩
        refine ⟨fun x hx hm => ?_, h2⟩
        rcases List.mem_cons.1 hx with rfl | hx
        · exact absurd hm hf
        · exact h1 x hx hm
      · rintro ⟨h1, h2⟩
        exact ⟨fun x hx => h1 x (.tail _ hx), h2⟩
theorem chkE_ok {e : Ev} : chkE e = 0 ↔ fieldsK e.k ≠ [] ∧ (∀ f, f ∈ fieldsK e.k → badF e f = 0) ∧ onlyE e = e := by
  unfold chkE
  by_cases h : fieldsK e.k = []
  · rw [if_pos h]; simp [h]
  · rw [if_neg h, chkF_eq]
    refine ⟨fun ⟨h1, h2⟩ => ⟨h, fun f hf => h1 f ?_ hf, h2⟩, fun ⟨_, h2, h3⟩ => ⟨fun f _ => h2 f, h3⟩⟩
    unfold fieldsK at hf
    repeat' split at hf
    all_goals simp at hf ⊢
    all_goals omega
end Go.Proofs.YtjhehanknkonnaaGreatDoor
set_option linter.unusedSimpArgs false
set_option linter.unusedVariables false
set_option maxHeartbeats 2000000
set_option maxRecDepth 20000
namespace Go.Proofs.YtjhehanknkonnaaGreatDoor
open Go.RowKit

/-! The kit's small functions: lists of numbers and of strings. -/
def i64s (l : List Int) : List Value := l.map fun n => .int .i64 n
theorem i64s_get {l : List Int} {k : Nat} {n : Int} (h : l[k]? = some n) : (i64s l)[k]? = some (.int .i64 n) := by simp [i64s, h]
def strs (l : List (List UInt8)) : List Value := l.map fun s => .string (S s)
theorem strs_get {l : List (List UInt8)} {k : Nat} {s : List UInt8} (h : l[k]? = some s) : (strs l)[k]? = some (.string (S s)) := by simp [strs, h]
theorem SlE.nI {E : Env} {p : Option Addr} {n : Nat} {xs : List Int} (h : SlE E 1 p n (i64s xs)) : n = xs.length := by have := h.1; simp [i64s] at this; exact this.symm
theorem SlE.nS {E : Env} {p : Option Addr} {n : Nat} {xs : List (List UInt8)} (h : SlE E 1 p n (strs xs)) : n = xs.length := by have := h.1; simp [strs] at this; exact this.symm
end Go.Proofs.YtjhehanknkonnaaGreatDoor
set_option linter.unusedSimpArgs false
set_option linter.unusedVariables false
set_option maxHeartbeats 2000000
set_option maxRecDepth 20000
namespace Go.Proofs.YtjhehanknkonnaaGreatDoor
open Go.RowKit

/-! Grammars as plain data, and how they lie in memory. -/
abbrev Pr := Int × List Int
structure Gr where
  k : Int
  toks : List (List UInt8)
  sep : List UInt8
  names : List (List UInt8)
  start : Int
  prods : List Pr
/-- A production, where its right side lies. -/
abbrev Row := Option Addr × Nat × Pr
def prow (x : Row) : List Value := [.int .i64 x.2.2.1, .slice x.1 x.2.2.2.length x.2.1]
def prows (rows : List Row) : List Value := rows.flatMap prow
theorem prows_len (rows : List Row) : (prows rows).length = rows.length * 2 := by
  induction rows with
  | nil => rfl
  | cons x l ih => simp only [prows, List.flatMap_cons, List.length_append, prow, List.length_cons, List.length_nil] at *; omega
/-- The right sides of the rows lie in E. -/
def RowsE (E : Env) (rows : List Row) : Prop := ∀ r, r ∈ rows → SlE E 1 r.1 r.2.2.2.length (i64s r.2.2.2) ∧ r.2.2.2.length ≤ r.2.1
theorem RowsE.mono {E E' : Env} {rows : List Row} (h : RowsE E rows) (hE : E.Le E') : RowsE E' rows := fun r hr => ⟨(h r hr).1.mono hE, (h r hr).2⟩
theorem RowsE.get {E : Env} {rows : List Row} (h : RowsE E rows) {k : Nat} {x : Row} (hx : rows[k]? = some x) : SlE E 1 x.1 x.2.2.2.length (i64s x.2.2.2) := (h x (List.mem_of_getElem? hx)).1
theorem RowsE.cap {E : Env} {rows : List Row} (h : RowsE E rows) {k : Nat} {x : Row} (hx : rows[k]? = some x) : x.2.2.2.length ≤ x.2.1 := (h x (List.mem_of_getElem? hx)).2
def PsE (E : Env) (a : Option Addr) (n : Nat) (ps : List Pr) : Prop := ∃ rows : List Row, rows.map (·.2.2) = ps ∧ SlE E 2 a n (prows rows) ∧ RowsE E rows
theorem PsE.mono {E E' : Env} {a : Option Addr} {n : Nat} {ps : List Pr} (h : PsE E a n ps) (hE : E.Le E') : PsE E' a n ps := by
  obtain ⟨rows, h1, h2, h3⟩ := h
  exact ⟨rows, h1, h2.mono hE, h3.mono hE⟩
theorem SlE.nR {E : Env} {a : Option Addr} {n : Nat} {rows : List Row} (h : SlE E 2 a n (prows rows)) : n = rows.length := by have := h.1; rw [prows_len] at this; omega
theorem PsE.len {E : Env} {a : Option Addr} {n : Nat} {ps : List Pr} (h : PsE E a n ps) : n = ps.length := by
  obtain ⟨rows, rfl, h2, _⟩ := h
  rw [List.length_map]; exact h2.nR
/-- A grammar as a value. -/
def GrE (E : Env) (v : Value) (g : Gr) : Prop := ∃ tp tc np nc pp pc, v = .agg #[.int .i64 g.k, .slice tp g.toks.length tc, .string (S g.sep), .slice np g.names.length nc, .int .i64 g.start, .slice pp g.prods.length pc] ∧
  SlE E 1 tp g.toks.length (strs g.toks) ∧ SlE E 1 np g.names.length (strs g.names) ∧ PsE E pp g.prods.length g.prods ∧ g.toks.length ≤ tc ∧ g.names.length ≤ nc ∧ g.prods.length ≤ pc
theorem GrE.mono {E E' : Env} {v : Value} {g : Gr} (h : GrE E v g) (hE : E.Le E') : GrE E' v g := by
  obtain ⟨tp, tc, np, nc, pp, pc, h0, h1, h2, h3, h4⟩ := h
  exact ⟨tp, tc, np, nc, pp, pc, h0, h1.mono hE, h2.mono hE, h3.mono hE, h4⟩
theorem GrE.mk {E : Env} {g : Gr} {tp np pp : Option Addr} {tc nc pc : Nat} (h1 : SlE E 1 tp g.toks.length (strs g.toks)) (h2 : SlE E 1 np g.names.length (strs g.names)) (h3 : PsE E pp g.prods.length g.prods) (h4 : g.toks.length ≤ tc) (h5 : g.names.length ≤ nc) (h6 : g.prods.length ≤ pc) :
    GrE E (.agg #[.int .i64 g.k, .slice tp g.toks.length tc, .string (S g.sep), .slice np g.names.length nc, .int .i64 g.start, .slice pp g.prods.length pc]) g := ⟨tp, tc, np, nc, pp, pc, rfl, h1, h2, h3, h4, h5, h6⟩
/-- A light grammar. -/
structure Light (g : Gr) : Prop where
  t : g.toks.length ≤ 10
  n : g.names.length ≤ 10
  p : g.prods.length ≤ 30
  sep : g.sep.length ≤ 40
  ts : ∀ s, s ∈ g.toks → s.length ≤ 40
  ns : ∀ s, s ∈ g.names → s.length ≤ 40
  ps : ∀ p, p ∈ g.prods → p.2.length ≤ 8
end Go.Proofs.YtjhehanknkonnaaGreatDoor
set_option linter.unusedSimpArgs false
set_option linter.unusedVariables false
set_option maxHeartbeats 2000000
set_option maxRecDepth 20000
namespace Go.Proofs.YtjhehanknkonnaaGreatDoor
open Go.RowKit

/-! Words and names. -/
section
variable (E : Env) (L : List Res)
end
section
variable (E : Env) (L : List Res)
end
end Go.Proofs.YtjhehanknkonnaaGreatDoor
set_option linter.unusedSimpArgs false
set_option linter.unusedVariables false
set_option maxHeartbeats 2000000
set_option maxRecDepth 20000
namespace Go.Proofs.YtjhehanknkonnaaGreatDoor
open Go.RowKit

/-! The program's check of a grammar. -/
section
variable (E : Env) (L : List Res)
end
end Go.Proofs.YtjhehanknkonnaaGreatDoor
set_option linter.unusedSimpArgs false
set_option linter.unusedVariables false
set_option maxHeartbeats 2000000
set_option maxRecDepth 20000
namespace Go.Proofs.YtjhehanknkonnaaGreatDoor
open Go.RowKit

section
variable (E : Env) (L : List Res)
end
end Go.Proofs.YtjhehanknkonnaaGreatDoor
set_option linter.unusedSimpArgs false
set_option linter.unusedVariables false
set_option maxHeartbeats 2000000
set_option maxRecDepth 20000
namespace Go.Proofs.YtjhehanknkonnaaGreatDoor
open Go.RowKit
section
variable (E : Env) (L : List Res)
theorem Light.small {g : Gr} (h : Light g) : ∀ s, s ∈ g.toks ++ [g.sep] → s.length ≤ 40 := by
  intro s hs
  rcases List.mem_append.1 hs with hs | hs
  · exact h.ts s hs
  · rw [List.mem_singleton.1 hs]; exact h.sep
end
end Go.Proofs.YtjhehanknkonnaaGreatDoor
set_option linter.unusedSimpArgs false
set_option linter.unusedVariables false
set_option maxHeartbeats 2000000
set_option maxRecDepth 20000
namespace Go.Proofs.YtjhehanknkonnaaGreatDoor
open Go.RowKit
def yes (l : List (List UInt8)) : List (List UInt8 × Value) := l.map fun s => (s, .bool true)
section
variable (E : Env) (L : List Res)
end
end Go.Proofs.YtjhehanknkonnaaGreatDoor
set_option linter.unusedSimpArgs false
set_option linter.unusedVariables false
set_option maxHeartbeats 2000000
set_option maxRecDepth 20000
namespace Go.Proofs.YtjhehanknkonnaaGreatDoor
open Go.RowKit
section
variable (E : Env) (L : List Res)
end
end Go.Proofs.YtjhehanknkonnaaGreatDoor
set_option linter.unusedSimpArgs false
set_option linter.unusedVariables false
set_option maxHeartbeats 2000000
set_option maxRecDepth 20000
namespace Go.Proofs.YtjhehanknkonnaaGreatDoor
open Go.RowKit
section
variable (E : Env) (L : List Res)
/-! The whole check. -/
end
end Go.Proofs.YtjhehanknkonnaaGreatDoor
set_option linter.unusedSimpArgs false
set_option linter.unusedVariables false
set_option maxHeartbeats 2000000
set_option maxRecDepth 20000
namespace Go.Proofs.YtjhehanknkonnaaGreatDoor
open Go.RowKit
/-! Stacks as plain data: what they are right for, what they await, the steps. -/
end Go.Proofs.YtjhehanknkonnaaGreatDoor
set_option linter.unusedSimpArgs false
set_option linter.unusedVariables false
set_option maxHeartbeats 2000000
set_option maxRecDepth 20000
namespace Go.Proofs.YtjhehanknkonnaaGreatDoor
open Go.RowKit
/-! The Spots of a stack, one after the other. -/
section
variable (E : Env) (L : List Res)
end
end Go.Proofs.YtjhehanknkonnaaGreatDoor
namespace Go.Proofs.YtjhehanknkonnaaGreatDoor
open Go.RowKit

/-- Two pieces as one. -/
def Res.both (r1 r2 : Res) : Res := ⟨r1.ids ++ r2.ids, fun h => r1.ok h ∧ r2.ok h, fun h h' e ⟨k1, k2⟩ =>
  ⟨r1.loc h h' (fun b hb => e b (List.mem_append.2 (.inl hb))) k1, r2.loc h h' (fun b hb => e b (List.mem_append.2 (.inr hb))) k2⟩⟩
theorem St.both {E : Env} {L : List Res} {r1 r2 : Res} {w : World} : St E (.both r1 r2 :: L) w ↔ St E (r1 :: r2 :: L) w := by
  constructor <;> intro h <;> refine ⟨h.env, fun r hr => ?_, ?_, fun b hb => ?_, h.os, h.out, h.tape⟩
  · rcases List.mem_cons.1 hr with rfl | hr
    · exact (h.own (.both r r2) (.head _)).1
    · rcases List.mem_cons.1 hr with rfl | hr
      · exact (h.own (.both r1 r) (.head _)).2
      · exact h.own r (.tail _ hr)
  · have := h.nodup
    simpa [Res.both] using this
  · refine h.apart b ?_
    simpa [Res.both] using hb
  · rcases List.mem_cons.1 hr with rfl | hr
    · exact ⟨h.own r1 (.head _), h.own r2 (.tail _ (.head _))⟩
    · exact h.own r (.tail _ (.tail _ hr))
  · have := h.nodup
    simpa [Res.both] using this
  · refine h.apart b ?_
    simpa [Res.both] using hb

section rules
variable {P : Program} {ro : Option Nat} {n : Nat} {ds : List Deferred} {fs : List (Nat × Value)} {E : Env} {L : List Res} {ops : Array Oper} {Q : Exit → Act → World → Prop} {rest : List Oper} {o : Oper}
theorem G.both {X : Act → World → Prop} {r1 r2 : Res} (h : G n ds fs E (.both r1 r2 :: L) X) : G n ds fs E (r1 :: r2 :: L) X := fun a w ha hw => h a w ha (St.both.2 hw)
theorem CallS.both {k : FuncId} {args : Array Value} {r1 r2 : Res} {Post : Value → Env → List Res → Prop} (h : CallS P k args E (r1 :: r2 :: L) Post) : CallS P k args E (.both r1 r2 :: L) Post := fun w hw => h w (St.both.1 hw)
theorem CallV.both {k : FuncId} {args : Array Value} {r1 r2 : Res} {v : Value} (h : CallV P k args E (r1 :: r2 :: L) v) : CallV P k args E (.both r1 r2 :: L) v := fun w hw => (h w (St.both.1 hw)).mono fun _ _ ⟨h1, h2⟩ => ⟨h1, St.both.2 h2⟩

/-! ### A string's bytes appended -/
theorem run_append_str {w : World} {t u ty e : TypeId} {z : Value} {bytes : Nat} (ht : P.underlying t = some (.slice e)) (hu : P.underlying u = some .string) (hi : Inf P e z 1 bytes) (hz : z = .int .u8 0)
    {a : Option Addr} {k cap : Nat} {xs : List Value} (hok : slOk e 1 a k cap xs (fun b => w.heap[b]?)) (s : List UInt8) (hby : bytes = 1) (hb : k + s.length ≤ 140737488355328) :
    ∃ a' c' w', (Builtin.append_ #[t, u] ty #[.slice a k cap, .string (S s)]).run P w = .ok (.slice a' (k + s.length) c') w' ∧ slOk e 1 a' (k + s.length) c' (xs ++ u8s s) (fun b => w'.heap[b]?) ∧
      w.heap.size ≤ w'.heap.size ∧ w'.os = w.os ∧ w'.output = w.output ∧ w'.tape = w.tape ∧ (∀ b, some b ≠ a.map (·.block) → b < w.heap.size → w'.heap[b]? = w.heap[b]?) ∧
      (∀ p', a' = some p' → (some p'.block = a.map (·.block)) ∨ w.heap.size = p'.block) ∧ (s = [] → a' = a ∧ c' = cap) := by
  obtain ⟨i, hi1, hi2, hs1, rfl, hi5⟩ := hi.inf
  subst hz
  have hsz : (S s).size = s.length := rfl
  have hsc : Lib.strCells (S s) = u8s s := rfl
  have h63 : k + s.length ≤ maxLen := by simp only [maxLen]; omega
  have hlen : (xs ++ u8s s).length = (k + s.length) * 1 := by rw [List.length_append, hok.1, u8s, List.length_map]; omega
  have hul : (u8s s).length = s.length := List.length_map _
  have fresh : ∀ old, old < k + s.length → slOk e 1 (some ⟨w.heap.size, 0, none⟩) (k + s.length) (grownCap w (k + s.length) old e) (xs ++ u8s s)
      (fun b => (w.drew.alloc (.cells (xs.toArray ++ (u8s s).toArray ++ Builtin.zeroCells (Value.int .u8 0).cells (grownCap w (k + s.length) old e - (k + s.length))) e)).heap[b]?) := fun old _ => by
    have hge := grownCap_ge w (k + s.length) old e
    refine ⟨hlen, .inr ⟨w.heap.size, _, rfl, World.alloc_heap_new w.drew _, hge, grownCap_le_maxLen w (k + s.length) old e h63, ?_, ?_⟩⟩
    · have hz1 : (Value.int IntKind.u8 0).cells.size = 1 := rfl
      have := hok.1
      simp only [Array.size_append, List.size_toArray, size_zeroCells, hz1, hul]
      omega
    · simp only [Array.toList_append, List.append_assoc]
      rw [← List.append_assoc, ← hlen]
      exact List.take_left
  have keep : ∀ (o : Obj) (b : Nat), b < w.heap.size → (w.drew.alloc o).heap[b]? = w.heap[b]? := fun o b hb => Below.heap_alloc w.drew o b hb
  rcases hok.2 with ⟨rfl, rfl, rfl⟩ | ⟨g, cur, rfl, hg, hnc, hcm, hcs, htake⟩
  · have hx : xs = [] := List.eq_nil_of_length_eq_zero (by simpa using hok.1)
    subst hx
    by_cases hm : s.length = 0
    · have hn : s = [] := List.eq_nil_of_length_eq_zero hm
      subst hn
      refine ⟨none, 0, w, ?_, ⟨by simp [u8s], .inl ⟨rfl, rfl, rfl⟩⟩, Nat.le_refl _, rfl, rfl, rfl, fun _ _ _ => rfl, (fun p' h => by cases h), fun _ => ⟨rfl, rfl⟩⟩
      have hf := Lib.run_firstCells_string (P := P) w 1 (S [])
      have h0 : (S []).size = 0 := rfl
      rw [h0] at hf
      simp [Builtin.append_, run_underlying ht, run_underlying hu, sizeOf, typeInfo, hi1, hs1, Builtin.lenOf, h0, hf, List.length_nil]
    · have hr := run_append_nil_string (P := P) w t u ty e i (.int .u8 0) ht hu hi1 hi2 (S s) (by rw [hsz]; omega) (by rw [hsz]; omega) (by rw [hby, hsz]; omega)
      have hf := fresh 0 (by omega)
      simp only [Nat.zero_add, List.nil_append, Array.empty_append] at hf ⊢
      have e1 : ((S s).data.map fun b => Value.int .u8 b.toNat) = (u8s s).toArray := by
        apply Array.ext'
        simp [u8s, S]
      rw [e1, hsz] at hr
      exact ⟨_, _, _, hr, hf, by simp, rfl, rfl, rfl, fun b _ hb => keep _ b hb, (fun p' h => by cases h; exact .inr rfl), fun h => absurd (by rw [h]; rfl) hm⟩
  · by_cases hroom : k + s.length ≤ cap
    · have hr := Lib.run_append_room_string (P := P) w t u ty e i ht hu hi1 hs1 g k cap cur hg (S s) (by rw [hsz]; omega) (by rw [hsz]; omega)
      rw [hsz, hsc] at hr
      refine ⟨_, _, _, hr, ⟨hlen, .inr ⟨g, _, rfl, setRow_heap w g cur _ e _ hg, hroom, hcm, ?_, ?_⟩⟩, by simp, rfl, rfl, rfl, fun b hne _ => setRow_other w g b _ (fun e => hne (by simp [e])), (fun p' h => by cases h; exact .inl rfl), fun _ => ⟨rfl, rfl⟩⟩
      · simp only [List.size_toArray, List.length_append, List.length_take, List.length_drop, Array.length_toList, hul]
        omega
      · have ht' : cur.toList.take k = xs := by simpa using htake
        rw [ht', ← hlen]
        exact List.take_left
    · have holds : ∀ j u, xs[j]? = some u → w.cell? ((⟨g, 0, none⟩ : Addr).add j) = some u := hok.owns.cells (g := g) rfl
      have hr := Lib.run_append_grow_string (P := P) w t u ty e i (.int .u8 0) ht hu hi1 hi2 ⟨g, 0, none⟩ k cap xs (by rw [hs1]; exact hok.1) holds (S s) (by rw [hsz]; omega) (by rw [hsz]; omega) (by rw [hby, hsz]; exact growslice_fits (by omega) (by omega))
      rw [hsz, hsc] at hr
      exact ⟨_, _, _, hr, fresh cap (by omega), by simp, rfl, rfl, rfl, fun b _ hb => keep _ b hb, (fun p' h => by cases h; exact .inr rfl), fun h => absurd (by have := hok.2; rw [h]; simp only [List.length_nil]; omega) hroom⟩

/-- 'append(b, s...)', b bytes of the call's own, s a string. -/
theorem G_appendStr {s x : Operand} {t u e : TypeId} {d : Nat} {sz' szu : Nat} {ag' agu : Bool} [ht : Ty P t (.slice e) sz' ag'] [hu : Ty P u .string szu agu] [hi : Inf P e (.int .u8 0) 1 1] {a : Option Addr} {k cap : Nat} {xs : List Value} {l : List UInt8} {L' : Option Addr → Nat → List Res}
    (ho : o.op = .call { callee := .builtin .append, args := #[s, x], argTypes := #[t, u] }) (hs : ev fs s = some (.slice a k cap)) (hx : ev fs x = some (.string (S l)))
    (hb : k + l.length ≤ 140737488355328) (hd : o.dst = some d) (hn : Nat.blt d n = true) (hg : Goes ops fs o)
    (up : ∀ a' c', Upd L (.sl e 1 a k cap xs) (.sl e 1 a' (k + l.length) c' (xs ++ u8s l)) (L' a' c'))
    (h : ∀ a' c', (l = [] → a' = a ∧ c' = cap) → G n ds ((d, .slice a' (k + l.length) c') :: fs) E (L' a' c') (wpListIn (Wd ro) 0 P ops Q rest)) : G n ds fs E L (wpListIn (Wd ro) 0 P ops Q (o :: rest)) :=
  G_any hg (by rw [ho]; intro c h; cases h) fun a0 w ha hw => by
    have hok : slOk e 1 a k cap xs (fun b => w.heap[b]?) := hw.own _ (up none 0).mem
    obtain ⟨a', c', w', hrun, hok', hsz, hos, hout, htape, hkeep, hnew, hnil⟩ := run_append_str (ty := o.type) ht.und hu.und hi rfl hok l rfl hb
    have e1 : (execOp a0.eval o).run P w = .ok (.value (.slice a' (k + l.length) c')) w' := by
      simp [execOp, ho, resolve, invoke, builtin, ha.eval hs, ha.eval hx, hrun, Result.andThen]
    rw [e1]
    simp only [Oper.uponIn_value, hd]
    refine h a' c' hnil _ _ (ha.put hn _) (hw.update (up a' c') hsz (fun b hb' hlt => hkeep b (fun he => hb' ?_) hlt) hok' (fun b hb' => ?_) ?_ hos hout htape)
    · cases a with
      | none => simp at he
      | some p => simp at he; subst he; simp [Res.sl]
    · cases a' with
      | none => simp [Res.sl] at hb'
      | some p' =>
        simp [Res.sl] at hb'
        subst hb'
        have hlt : p'.block < w'.heap.size := by
          rcases hok'.2 with ⟨h, _⟩ | ⟨g, cur, h, hg', _⟩
          · cases h
          · cases h; exact (Array.getElem?_eq_some_iff.1 hg').1
        rcases hnew _ rfl with h' | h'
        · left
          cases a with
          | none => simp at h'
          | some p => simp at h'; exact ⟨by simp [Res.sl, h'], hlt⟩
        · exact .inr ⟨by omega, hlt⟩
    · cases a' <;> simp [Res.sl]

/-! ### Entries without a body -/
theorem V_extern {k : FuncId} {fn : Func} {e : Array Value → Sem Value} {args : Array Value} {v : Value} (hf : P.funcs[k]? = some fn) (hname : (fn.name == "runtime.NumGoroutine") = false) (hb : fn.body.isNone = true) (hn : Extern.findNext fn = none) (he : Extern.find fn = some e)
    (hrun : ∀ w, (e args).run P w = .ok v w) (ht : Goesto fs o k args) : Val P o fs E L v := by
  obtain ⟨f, xs, ts, vs, cap, ho, hfv, hx, rfl⟩ := ht
  refine ⟨(by rw [ho]; intro c h; cases h), fun n ds a w ha _ => ?_⟩
  have e1 := evs_args ha hx
  simp only [Array.toArray_toList] at e1
  have e2 := ha.eval hfv
  simp only [execOp, ho, resolve, e2, Deferred.ofValue, e1]
  simp [invoke, run_callFunc_extern hf hname hb hn he, hrun, Result.andThen]
/-! ### Pointers -/
theorem V_peqN {t u te : TypeId} {sz : Nat} {ag : Bool} [ht : Ty P t (.pointer te) sz ag] {x y : Operand} {p : Option Addr} (ho : o.op = .binOp .eql t x y u) (hx : ev fs x = some (.pointer p)) (hy : ev fs y = some (.pointer none)) : Val P o fs E L (.bool p.isNone) :=
  V_bin ho hx hy fun w => ⟨by simp [eqGuard], by
    have h : ∀ d : Nat, (Op.equalIn (d + 1) t (.pointer p) (.pointer none)).run P w = .ok p.isNone w := fun d => by
      cases p <;> simp [Op.equalIn, ht.run, sameAddr]
    simp only [binOp]
    simp [Op.equal, Op.maxDepth, h 9999]⟩
theorem V_pneqS {t u te : TypeId} {sz sz2 : Nat} {ag : Bool} {z : Value} {bytes : Nat} [ht : Ty P t (.pointer te) sz ag] [hi : Inf P te z sz2 bytes] {x y : Operand} {p : Addr} (ho : o.op = .binOp .neq t x y u) (hx : ev fs x = some (.pointer (some p))) (hy : ev fs y = some (.pointer (some p))) : Val P o fs E L (.bool false) := by
  obtain ⟨i, hi1, _⟩ := hi.inf
  exact V_bin ho hx hy fun w => ⟨by simp [eqGuard], Lib.run_neq_ptr_same w p ht.und hi1⟩
theorem V_toUnsafe {src dst te : TypeId} {sz sz' sz2 : Nat} {ag ag' : Bool} {z : Value} {bytes : Nat} [hs : Ty P src (.pointer te) sz ag] [hd : Ty P dst .unsafePointer sz' ag'] [hi : Inf P te z sz2 bytes] {x : Operand} {b off : Nat} {cs : Array Value} {T : TypeId} {fz : Nat × Nat}
    (ho : o.op = .convert src dst x) (hx : ev fs x = some (.pointer (some ⟨b, off, none⟩))) (hm : Res.blk b (.cells cs T fz) ∈ L) (hoff : off < cs.size) (h0 : sz2 ≠ 0) : Val P o fs E L (.pointer (some ⟨b, off, none⟩)) := by
  obtain ⟨i, hi1, _, hi3, _⟩ := hi.inf
  refine ⟨(by rw [ho]; intro c h; cases h), fun n ds a w ha hw => ?_⟩
  have hb : w.heap[b]? = some (.cells cs T fz) := hw.own _ hm
  have := Lib.run_to_unsafe (P := P) w (src := src) (dst := dst) (e := T) (cells := cs.size) ⟨b, off, none⟩ hs.und hd.und hi1 (by omega) (by simp [World.shape?, hb]) hoff
  simp [execOp, ho, ha.eval hx, Result.andThen, this]
theorem V_fromUnsafe {src dst te : TypeId} {sz sz' sz2 : Nat} {ag ag' : Bool} {z : Value} {bytes : Nat} [hs : Ty P src .unsafePointer sz ag] [hd : Ty P dst (.pointer te) sz' ag'] [hi : Inf P te z sz2 bytes] {x : Operand} {b off : Nat} {cs : Array Value} {T : TypeId} {fz : Nat × Nat}
    (ho : o.op = .convert src dst x) (hx : ev fs x = some (.pointer (some ⟨b, off, none⟩))) (hm : Res.blk b (.cells cs T fz) ∈ L) (hl : liesAt P P.depth T (cs.size / P.cellsOf T) off te 1 = true) : Val P o fs E L (.pointer (some ⟨b, off, none⟩)) := by
  obtain ⟨i, hi1, _⟩ := hi.inf
  refine ⟨(by rw [ho]; intro c h; cases h), fun n ds a w ha hw => ?_⟩
  have hb : w.heap[b]? = some (.cells cs T fz) := hw.own _ hm
  have := Lib.run_from_unsafe (P := P) w (src := src) (dst := dst) (e := T) (cells := cs.size) ⟨b, off, none⟩ hs.und hd.und hi1 (by simp [World.shape?, hb]) hl
  simp [execOp, ho, ha.eval hx, Result.andThen, this]
end rules
end Go.Proofs.YtjhehanknkonnaaGreatDoor
namespace Go.Proofs.YtjhehanknkonnaaGreatDoor
open Go.RowKit

section rules
variable {P : Program} {ro : Option Nat} {n : Nat} {ds : List Deferred} {fs : List (Nat × Value)} {E : Env} {L : List Res} {ops : Array Oper} {Q : Exit → Act → World → Prop} {rest : List Oper} {o : Oper}
/-- '[]byte(s)', shut at once. -/
theorem G_s2b {src dst e : TypeId} {sz sz' sze : Nat} {ag ag' age : Bool} [hs : Ty P src .string sz ag] [ht : Ty P dst (.slice e) sz' ag'] [he : Ty P e (.int .u8) sze age] {x : Operand} {l : List UInt8} {d : Nat}
    (ho : o.op = .convert src dst x) (hx : ev fs x = some (.string (S l))) (hd : o.dst = some d) (hn : Nat.blt d n = true) (hg : Goes ops fs o)
    (h : ∀ b c E', E.Le E' → SlE E' 1 (some ⟨b, 0, none⟩) l.length (u8s l) → G n ds ((d, .slice (some ⟨b, 0, none⟩) l.length c) :: fs) E' L (wpListIn (Wd ro) 0 P ops Q rest)) : G n ds fs E L (wpListIn (Wd ro) 0 P ops Q (o :: rest)) :=
  G_any hg (by rw [ho]; intro c h; cases h) fun a w ha hw => by
    have hrun := Lib.run_convert_string_bytes (P := P) w src dst e (S l) hs.und ht.und he.und
    have e1 : (execOp a.eval o).run P w = .ok (.value (.slice (some ⟨w.heap.size, 0, none⟩) l.length (grownCap w l.length 0 e))) (Lib.bytesWorld w e (S l)) := by
      simp [execOp, ho, ha.eval hx, Result.andThen, hrun, S_size]
    rw [e1]
    simp only [Oper.uponIn_value, hd]
    have hnew := Lib.bytesWorld_at_new w e (S l)
    have hE : E.heap w.heap.size = none := by
      cases hE : E.heap w.heap.size with
      | none => rfl
      | some o' => have := (Array.getElem?_eq_some_iff.1 (hw.env _ _ hE)).1; omega
    have hlt : ∀ b, b ∈ L.flatMap Res.ids → b < w.heap.size := fun b hb => (hw.apart b hb).2
    have hst : St E (.blk w.heap.size (.cells (Lib.bytesCells w e (S l)) e ((Lib.bytesCells w e (S l)).size, (Lib.bytesCells w e (S l)).size + 1)) :: L) (Lib.bytesWorld w e (S l)) := by
      refine ⟨fun b o' hb => ?_, fun r hr => ?_, ?_, fun b hb => ?_, hw.os, hw.out, hw.tape⟩
      · have h1 := hw.env b o' hb
        have h2 := (Array.getElem?_eq_some_iff.1 h1).1
        rw [Lib.bytesWorld_at_old w e _ b h2]; exact h1
      · rcases List.mem_cons.1 hr with rfl | hr
        · exact hnew
        · exact r.loc _ _ (fun b hb => (Lib.bytesWorld_at_old w e _ b (hlt b (List.mem_flatMap.2 ⟨r, hr, hb⟩))).symm) (hw.own r hr)
      · simp only [List.flatMap_cons, Res.blk, List.singleton_append, List.nodup_cons]
        exact ⟨fun hm => by have := hlt _ hm; omega, hw.nodup⟩
      · simp only [List.flatMap_cons, Res.blk, List.singleton_append, List.mem_cons] at hb
        have hsz := Lib.bytesWorld_size w e (S l)
        rcases hb with rfl | hb
        · exact ⟨hE, by omega⟩
        · exact ⟨(hw.apart b hb).1, by have := hlt b hb; omega⟩
    refine h _ _ _ (Env.blk_le hE) ?_ _ _ (ha.put hn _) ((St.shut hE).1 hst)
    have hul : (u8s l).length = l.length := List.length_map _
    have hcl : Lib.bytesCells w e (S l) = (u8s l).toArray ++ Array.replicate (grownCap w l.length 0 e - l.length) (.int .u8 0) := by
      unfold Lib.bytesCells
      congr 1
      apply Array.ext'
      simp [u8s, S]
    refine SlE.pre (l := u8s l) (r := List.replicate (grownCap w l.length 0 e - l.length) (.int .u8 0)) (T := e) (fz := ((Lib.bytesCells w e (S l)).size, (Lib.bytesCells w e (S l)).size + 1)) ?_ (by rw [hul, Nat.mul_one])
    show (E.blk _ _).heap w.heap.size = some _
    simp only [Env.blk, if_true]
    rw [hcl]
    simp

/-! ### unsafe.SliceData, unsafe.String -/
theorem V_sliceData {x : Operand} {ts : Array TypeId} {a : Option Addr} {m c : Nat} (ho : o.op = .call { callee := .builtin .unsafeSliceData, args := #[x], argTypes := ts }) (hx : ev fs x = some (.slice a m c)) (hc : a = none ∨ c ≠ 0) : Val P o fs E L (.pointer a) :=
  ⟨(by rw [ho]; intro c h; cases h), fun n ds a0 w ha _ => by
    have e : (Builtin.unsafeSliceData_ ts o.type #[.slice a m c]).run P w = .ok (.pointer a) w := by
      cases a with
      | none => rfl
      | some p => exact Lib.run_unsafeSliceData_row _ _ _ _ _ _ (hc.resolve_left (fun h => by cases h))
    simp [execOp, ho, resolve, invoke, builtin, ha.eval hx, Result.andThen, e]⟩
/-- unsafe.String over bytes of the call's own: they are given away. -/
theorem G_unsafeString {x y : Operand} {pt it e : TypeId} {d szp : Nat} {agp : Bool} [hp : Ty P pt (.pointer e) szp agp] {a : Option Addr} {c : Nat} {l : List UInt8} {L' : List Res}
    (ho : o.op = .call { callee := .builtin .unsafeString, args := #[x, y], argTypes := #[pt, it] }) (hx : ev fs x = some (.pointer a)) (hy : ev fs y = some (.int .i64 l.length)) (hl : l.length ≤ 9223372036854775807) (hce : P.cellsOf e = 1)
    (hd : o.dst = some d) (hn : Nat.blt d n = true) (hg : Goes ops fs o) (hdel : Del L (.sl e 1 a l.length c (u8s l)) L')
    (h : G n ds ((d, .string (S l)) :: fs) E L' (wpListIn (Wd ro) 0 P ops Q rest)) : G n ds fs E L (wpListIn (Wd ro) 0 P ops Q (o :: rest)) :=
  G_any hg (by rw [ho]; intro c h; cases h) fun a0 w ha hw => by
    have hw1 := hw.perm hdel.perm
    have hok : slOk e 1 a l.length c (u8s l) (fun b => w.heap[b]?) := hw1.own _ (.head _)
    have fin : ∀ w', (Builtin.unsafeString_ #[pt, it] o.type #[.pointer a, .int .i64 l.length]).run P w = .ok (.string (S l)) w' → St E L' w' → o.uponIn (Wd ro) 0 P a0 (wpListIn (Wd ro) 0 P ops Q rest) Q ((execOp a0.eval o).run P w) := fun w' hrun hw' => by
      have e1 : (execOp a0.eval o).run P w = .ok (.value (.string (S l))) w' := by
        simp [execOp, ho, resolve, invoke, builtin, ha.eval hx, ha.eval hy, hrun, Result.andThen]
      rw [e1]
      simp only [Oper.uponIn_value, hd]
      exact h _ _ (ha.put hn _) hw'
    by_cases h0 : l = []
    · subst h0
      exact fin w (Lib.run_unsafeString_none (P := P) w pt it o.type a) hw1.drop
    · rcases hok.2 with ⟨_, _, h1⟩ | ⟨g, cur, rfl, hgb, hnc, hcm, hcs, htake⟩
      · exact absurd (List.eq_nil_of_length_eq_zero h1) h0
      · have hcell := hok.owns.cells (g := g) rfl
        have hus := Lib.run_unsafeString_row (P := P) w pt it o.type e hp.und hce g cur.size (by simp [World.shape?, hgb]) l h0 (by omega) hl (fun j x hx => hcell j (.int .u8 x.toNat) (by simp [u8s, hx]))
        refine fin _ hus ?_
        refine St.drop (r := .blk g (.cells cur e (0, 0 + l.length))) (hw1.update (r := .sl e 1 (some ⟨g, 0, none⟩) l.length c (u8s l)) (.head _ _ _) ?_ (fun b hb _ => ?_) ?_ (fun b hb => ?_) (by simp [Res.blk]) ?_ ?_ ?_)
        · unfold World.freeze; split <;> simp
        · have : b ≠ g := fun e => hb (by subst e; simp [Res.sl])
          unfold World.freeze
          split
          · rfl
          · simp [Array.getElem?_modify, Ne.symm this]
        · show (w.freeze ⟨g, 0, none⟩ l.length).heap[g]? = _
          unfold World.freeze
          rw [if_neg (by simpa using h0)]
          simp only [Array.getElem?_modify, if_true]
          have hgb' : w.heap[g]? = some (.cells cur e (0, 0)) := hgb
          rw [hgb']
          rfl
        · simp only [Res.blk, List.mem_singleton] at hb
          subst hb
          refine .inl ⟨by simp [Res.sl], ?_⟩
          have hlt := (Array.getElem?_eq_some_iff.1 hgb).1
          unfold World.freeze
          split <;> simpa using hlt
        · unfold World.freeze; split <;> rfl
        · unfold World.freeze; split <;> rfl
        · unfold World.freeze; split <;> rfl
end rules
end Go.Proofs.YtjhehanknkonnaaGreatDoor
set_option linter.unusedSimpArgs false
set_option linter.unusedVariables false
set_option maxHeartbeats 2000000
set_option maxRecDepth 20000
namespace Go.Proofs.YtjhehanknkonnaaGreatDoor
open Go.RowKit

/-- What a strings.Builder holds: whether it was used, its buffer's place and room, its bytes. -/
structure Bld where
  used : Bool
  a : Option Addr
  c : Nat
  xs : List UInt8
  some' : a = none ∨ c ≠ 0
def Bld.new : Bld := ⟨false, none, 0, [], .inl rfl⟩
def Bld.obj (b : Nat) (u : Bool) (a : Option Addr) (n c : Nat) : Obj := .cells #[.pointer (if u then some ⟨b, 0, none⟩ else none), .slice a n c] 80 (0, 0)
/-- A strings.Builder of the call's own. -/
def Res.bld (b : Nat) (s : Bld) : Res := .both (.blk b (Bld.obj b s.used s.a s.xs.length s.c)) (.sl 5 1 s.a s.xs.length s.c (u8s s.xs))

section
variable {n : Nat} {ds : List Deferred} {fs : List (Nat × Value)} (E : Env) (L : List Res)
theorem G.bldNew {E : Env} {L : List Res} {X : Act → World → Prop} {b : Nat} (h : G n ds fs E (.bld b Bld.new :: L) X) : G n ds fs E (.blk b (.cells #[.pointer none, .slice none 0 0] 80 (0, 0)) :: L) X := by
  refine G.nilSl 5 1 ?_
  refine G.front (.tail _ (.head _ _)) ?_
  exact G.both h

theorem NoEscape_val {fs : List (Nat × Value)} {E : Env} {L : List Res} {o : Oper} {p : Option Addr} (ht : Goesto fs o 122 #[.pointer p]) : Val Tryz.prog o fs E L (.pointer p) :=
  V_extern Tryz.func122 (by kernel_rfl) (by kernel_rfl) (by kernel_rfl) (e := Extern.AbiNoEscape.same) (by kernel_rfl) (fun w => Lib.run_noEscape w (.pointer p)) ht

theorem copyCheck_call (b : Nat) (u : Bool) (a : Option Addr) (k c : Nat) :
    CallS Tryz.prog 94 #[.pointer (some ⟨b, 0, none⟩)] E (.blk b (Bld.obj b u a k c) :: L) (fun r E' L' => r = .tuple #[] ∧ E' = E ∧ L' = .blk b (Bld.obj b true a k c) :: L) := by
  refine CallS.intro (l := [_]) _ Tryz.func94 rfl Tryz.ntmps94 rfl ?_
  cases u with
  | true =>
    simp only [Bld.obj, if_true]
    refine G_seq (G_region ?_)
    refine Gm ?_
    refine Gv (V_nilCheck rfl rfl) ?_
    refine Gv (V_fieldAddr rfl rfl (by decide)) ?_
    refine Gv (V_load rfl rfl (Cell.own (.head _) rfl)) ?_
    refine Gv (V_peqN rfl rfl rfl) ?_
    refine G_end (X_then ?_)
    refine G_cond_f rfl (by simp [*]; done) ?_
    refine G_seq (G_region ?_)
    refine Gm ?_
    refine Gv (V_nilCheck rfl rfl) ?_
    refine Gv (V_fieldAddr rfl rfl (by decide)) ?_
    refine Gv (V_load rfl rfl (Cell.own (.head _) rfl)) ?_
    refine Gm ?_
    refine Gv (V_pneqS rfl rfl rfl) ?_
    refine G_end (X_then ?_)
    refine G_cond_f rfl rfl ?_
    refine G_skip ?_
    refine G_leaveS_n (.keep _ (.nil _)) (by exact (.nil)) rfl ?_ ?_
    · exact (.refl _)
    exact ⟨(by kernel_rfl), ⟨rfl, rfl⟩⟩
  | false =>
    simp only [Bld.obj, if_true, Bool.false_eq_true, if_false]
    refine G_seq (G_region ?_)
    refine Gm ?_
    refine Gv (V_nilCheck rfl rfl) ?_
    refine Gv (V_fieldAddr rfl rfl (by decide)) ?_
    refine Gv (V_load rfl rfl (Cell.own (.head _) rfl)) ?_
    refine Gv (V_peqN rfl rfl rfl) ?_
    refine G_end (X_then ?_)
    refine G_cond_t rfl (by kernel_rfl) ?_
    refine G_region ?_
    refine Gm ?_
    refine Gm ?_
    refine Gv (V_toUnsafe rfl rfl (.head _) (Nat.le_of_ble_eq_true rfl) (by decide)) ?_
    refine Gv (NoEscape_val (.mk rfl rfl rfl rfl)) ?_
    refine Gv (V_fromUnsafe rfl rfl (.head _) (by kernel_rfl)) ?_
    refine Gv (V_nilCheck rfl rfl) ?_
    refine Gv (V_fieldAddr rfl rfl (by decide)) ?_
    refine G_storeAt rfl rfl rfl rfl rfl rfl (.none rfl) (.head _ _ _) (Nat.le_of_ble_eq_true rfl) (by simp only [putAll, Nat.zero_add, Nat.reduceAdd, List.setIfInBounds_toArray, List.set_cons_succ, List.set_cons_zero]; rfl) ?_
    refine G_end ?_
    refine G_leaveS_n (.keep _ (.nil _)) (by exact (.nil)) rfl ?_ ?_
    · exact (.refl _)
    exact ⟨(by kernel_rfl), ⟨rfl, rfl⟩⟩
end
end Go.Proofs.YtjhehanknkonnaaGreatDoor
set_option linter.unusedSimpArgs false
set_option linter.unusedVariables false
set_option maxHeartbeats 2000000
set_option maxRecDepth 20000
namespace Go.Proofs.YtjhehanknkonnaaGreatDoor
open Go.RowKit
theorem u8s_app (a b : List UInt8) : u8s (a ++ b) = u8s a ++ u8s b := List.map_append
section
variable (E : Env) (L : List Res)
theorem WriteString_parts (b : Nat) (u : Bool) (a : Option Addr) (c : Nat) (xs x : List UInt8) (h : xs.length + x.length ≤ 140737488355328) :
    CallS Tryz.prog 57 #[.pointer (some ⟨b, 0, none⟩), .string (S x)] E (.blk b (Bld.obj b u a xs.length c) :: .sl 5 1 a xs.length c (u8s xs) :: L)
      (fun r E' L' => ∃ a' c', r = .tuple #[.int .i64 x.length, .nilIface] ∧ E' = E ∧ (x = [] → a' = a ∧ c' = c) ∧ L' = .blk b (Bld.obj b true a' (xs.length + x.length) c') :: .sl 5 1 a' (xs.length + x.length) c' (u8s xs ++ u8s x) :: L) := by
  refine CallS.intro (l := [_, _]) _ Tryz.func57 rfl Tryz.ntmps57 rfl ?_
  refine G_seq (G_region ?_)
  refine Ga ?_
  refine Ga ?_
  refine G_end (X_then (G_seq (G_region ?_)))
  refine Gm ?_
  refine G_call (k := 94) (.mk rfl rfl rfl rfl) rfl rfl (.none rfl) (copyCheck_call _ _ _ _ _ _ _) ?_
  rintro r1 E2 L3 hE4 ⟨rfl, ⟨rfl, rfl⟩⟩
  refine G_end (X_then (G_seq (G_region ?_)))
  refine Gm ?_
  refine Gm ?_
  refine Gv (V_nilCheck rfl rfl) ?_
  refine Gv (V_fieldAddr rfl rfl (by decide)) ?_
  refine Gv (V_load rfl rfl (Cell.own (.head _) rfl)) ?_
  refine Gm ?_
  (refine G_appendStr rfl rfl rfl (by omega) rfl rfl (.none rfl) (fun _ _ => (.tail _ (.head _ _ _))) ?_; intro a14 c14 ha14)
  refine Gv (V_nilCheck rfl rfl) ?_
  refine Gv (V_fieldAddr rfl rfl (by decide)) ?_
  refine G_storeAt rfl rfl rfl rfl rfl rfl (.none rfl) (.head _ _ _) (Nat.le_of_ble_eq_true rfl) (by simp only [putAll, Nat.zero_add, Nat.reduceAdd, List.setIfInBounds_toArray, List.set_cons_succ, List.set_cons_zero]; rfl) ?_
  refine G_end (X_then (G_seq (G_region ?_)))
  refine Gm ?_
  refine Gv (V_len rfl rfl) ?_
  refine Ga ?_
  refine Ga ?_
  refine G_end (X_then (G_ret ?_))
  refine G_leaveS (.keep _ (.keep _ (.nil _))) (by exact (.cons (.tmp rfl) (.cons (.tmp rfl) (.nil)))) rfl ?_ ?_
  · exact (.refl _)
  exact ⟨_, ⟨_, ⟨rfl, ⟨rfl, ⟨(by assumption), rfl⟩⟩⟩⟩⟩
theorem WriteString_call (b : Nat) (s : Bld) (x : List UInt8) (h : s.xs.length + x.length ≤ 140737488355328) :
    CallS Tryz.prog 57 #[.pointer (some ⟨b, 0, none⟩), .string (S x)] E (.bld b s :: L) (fun r E' L' => ∃ t, r = .tuple #[.int .i64 x.length, .nilIface] ∧ E' = E ∧ t.xs = s.xs ++ x ∧ t.xs.length = s.xs.length + x.length ∧ L' = .bld b t :: L) := fun w hw =>
  (WriteString_parts E L b s.used s.a s.c s.xs x h w (St.both.1 hw)).mono fun e w' ⟨r, E', L', he, hE, hs, a', c', hr, hE', hn, hL⟩ => by
    subst hL
    have hok : slOk _ 1 a' (s.xs.length + x.length) c' (u8s s.xs ++ u8s x) _ := hs.own _ (.tail _ (.head _))
    refine ⟨r, E', _, he, hE, St.both.2 hs, ⟨true, a', c', s.xs ++ x, ?_⟩, hr, hE', rfl, List.length_append, ?_⟩
    · by_cases h0 : x = []
      · obtain ⟨h1, h2⟩ := hn h0
        rw [h1, h2]
        exact s.some'
      · rcases hok.2 with ⟨h1, _⟩ | ⟨_, _, _, _, h1, _⟩
        · exact .inl h1
        · have := List.length_pos_iff.2 h0
          exact .inr (by omega)
    · simp only [Res.bld, List.length_append, u8s_app, Bld.obj, if_true]
theorem BLen_call (b : Nat) (s : Bld) (h : s.xs.length ≤ 9223372036854775807) : CallV Tryz.prog 58 #[.pointer (some ⟨b, 0, none⟩)] E (.bld b s :: L) (.int .i64 s.xs.length) := by
  refine CallV.both ?_
  refine CallS.toV (CallS.intro (l := [_]) _ Tryz.func58 rfl Tryz.ntmps58 rfl ?_)
  simp only [Bld.obj]
  refine G_seq (G_region ?_)
  refine Ga ?_
  refine G_end (X_then (G_seq (G_region ?_)))
  refine Gm ?_
  refine Gv (V_nilCheck rfl rfl) ?_
  refine Gv (V_fieldAddr rfl rfl (by decide)) ?_
  refine Gv (V_load rfl rfl (Cell.own (.head _) rfl)) ?_
  refine Gv (V_lenS rfl rfl) ?_
  refine Ga ?_
  refine G_end (X_then (G_ret ?_))
  refine G_leaveS (.keep _ (.keep _ (.nil _))) (by exact (.cons (.tmp rfl) (.nil))) rfl ?_ ?_
  · exact (.refl _)
  exact ⟨rfl, rfl⟩
theorem BString_parts (b : Nat) (u : Bool) (a : Option Addr) (c : Nat) (xs : List UInt8) (h : xs.length ≤ 9223372036854775807) (hc : a = none ∨ c ≠ 0) :
    CallS Tryz.prog 59 #[.pointer (some ⟨b, 0, none⟩)] E (.blk b (Bld.obj b u a xs.length c) :: .sl 5 1 a xs.length c (u8s xs) :: L)
      (fun r E' L' => r = .string (S xs) ∧ E' = E ∧ L' = L) := by
  refine CallS.intro (l := [_]) _ Tryz.func59 rfl Tryz.ntmps59 rfl ?_
  simp only [Bld.obj]
  refine G_seq (G_region ?_)
  refine Ga ?_
  refine G_end (X_then (G_seq ?_))
  refine G_drawT 10 mixed (by kernel_rfl) ?_; dsimp only [List.take, List.drop]
  refine Q_val (V_move rfl rfl) rfl rfl (.none rfl) ?_
  refine Q_val (V_nilCheck rfl rfl) rfl rfl (.none rfl) ?_
  refine Q_val (V_fieldAddr rfl rfl (by decide)) rfl rfl (.none rfl) ?_
  refine Q_val (V_load rfl rfl (Cell.own (.head _) rfl)) rfl rfl (.none rfl) ?_
  refine Q_val (V_sliceData rfl rfl (by assumption)) rfl rfl (.none rfl) ?_
  refine Q_val (V_move rfl rfl) rfl rfl (.none rfl) ?_
  refine Q_val (V_nilCheck rfl rfl) rfl rfl (.none rfl) ?_
  refine Q_val (V_fieldAddr rfl rfl (by decide)) rfl rfl (.none rfl) ?_
  refine Q_val (V_load rfl rfl (Cell.own (.head _) rfl)) rfl rfl (.none rfl) ?_
  refine Q_val (V_lenS rfl rfl) rfl rfl (.none rfl) ?_
  refine Q_endT ?_
  refine G_unsafeString rfl rfl rfl h (by kernel_rfl) rfl rfl (.none rfl) (.tail _ (.head _ _)) ?_
  refine Ga ?_
  refine G_end (X_then (G_ret ?_))
  refine G_leaveS (.drop _ (.nil _)) (by exact (.cons (.tmp rfl) (.nil))) rfl ?_ ?_
  · exact (.refl _)
  exact ⟨rfl, ⟨rfl, rfl⟩⟩
theorem BString_call (b : Nat) (s : Bld) (h : s.xs.length ≤ 9223372036854775807) :
    CallS Tryz.prog 59 #[.pointer (some ⟨b, 0, none⟩)] E (.bld b s :: L) (fun r E' L' => r = .string (S s.xs) ∧ E' = E ∧ L' = L) := fun w hw => by
  exact BString_parts E L b s.used s.a s.c s.xs h s.some' w (St.both.1 hw)
end
end Go.Proofs.YtjhehanknkonnaaGreatDoor
namespace Go.Proofs.YtjhehanknkonnaaGreatDoor
open Go.RowKit

section rules
variable {P : Program} {ro : Option Nat} {n : Nat} {ds : List Deferred} {fs : List (Nat × Value)} {E : Env} {L : List Res} {ops : Array Oper} {Q : Exit → Act → World → Prop} {rest : List Oper} {o : Oper}
theorem Rd.more {sz m : Nat} {a : Option Addr} {vals : List Value} (r : Res) (h : Rd E L sz a m vals) : Rd E (r :: L) sz a m vals := ⟨h.1, fun w hw => h.2 w hw.drop⟩
theorem Rd.env {E' : Env} {sz m : Nat} {a : Option Addr} {vals : List Value} (h : Rd E L sz a m vals) (hE : E.Le E') : Rd E' L sz a m vals := ⟨h.1, fun w hw => h.2 w (hw.weaken hE)⟩
theorem V_cap {t e : TypeId} {sz : Nat} {ag : Bool} [ht : Ty P t (.slice e) sz ag] {x : Operand} {a : Option Addr} {m c : Nat} (ho : o.op = .call { callee := .builtin .cap, args := #[x], argTypes := #[t] }) (hx : ev fs x = some (.slice a m c)) : Val P o fs E L (.int .i64 c) :=
  ⟨(by rw [ho]; intro c h; cases h), fun n ds a' w ha _ => by simp [execOp, ho, ha.eval hx, resolve, invoke, builtin, Builtin.cap_, ht.run, goInt]⟩
end rules
end Go.Proofs.YtjhehanknkonnaaGreatDoor
namespace Go.Proofs.YtjhehanknkonnaaGreatDoor
open Go.RowKit
section rules
variable {P : Program} {ro : Option Nat} {n : Nat} {ds : List Deferred} {fs : List (Nat × Value)} {E : Env} {L : List Res} {ops : Array Oper} {Q : Exit → Act → World → Prop} {rest : List Oper} {o : Oper}
variable {T : Act → Fam → Prop} {J : Nat → World → Prop} {π : List (Nat × Nat)} {i : Nat}
end rules
end Go.Proofs.YtjhehanknkonnaaGreatDoor
namespace Go.Proofs.YtjhehanknkonnaaGreatDoor
open Go.RowKit
section rules
variable {P : Program} {n : Nat} {ds : List Deferred} {fs : List (Nat × Value)} {E : Env} {L : List Res} {o : Oper}
theorem V_copy0 {x y : Operand} {t u e : TypeId} {sz' : Nat} {ag' : Bool} {z : Value} {bytes : Nat} [ht : Ty P t (.slice e) sz' ag'] [hi : Inf P e z 1 bytes] {p a : Option Addr} {dl dc m c : Nat}
    (ho : o.op = .call { callee := .builtin .copy, args := #[x, y], argTypes := #[t, u] }) (hx : ev fs x = some (.slice p dl dc)) (hy : ev fs y = some (.slice a m c)) (h0 : min m dl = 0) : Val P o fs E L (.int .i64 0) :=
  ⟨(by rw [ho]; intro c h; cases h), fun n ds a' w ha _ => by
    obtain ⟨i, hi1, _, hs1, _⟩ := hi.inf
    have hs : (P.info? e).map (·.size) = some 1 := by rw [hi1]; simp [hs1]
    have hrun := run_copy_none (P := P) w t u o.type e p a dl dc m c ht.und hs h0
    simp only [execOp, ho, resolve, invoke, builtin, Sem.run_bind, Sem.run_pure, Result.andThen_ok, List.map_toArray, List.map_cons, List.map_nil, ha.eval hx, ha.eval hy, hrun]; rfl⟩
variable {ops : Array Oper} {T : Act → Fam → Prop} {J : Nat → World → Prop} {π : List (Nat × Nat)} {i : Nat}
theorem F_makeNoZero {k : FuncId} {fn : Func} {t e : TypeId} {ps : Array TypeId} {m d : Nat} (hf : P.funcs[k]? = some fn) (hname : (fn.name == "runtime.NumGoroutine") = false) (hb : fn.body.isNone = true) (hfn : Extern.findNext fn = none)
    (he : Extern.find fn = some (Extern.BytealgMakeNoZero.makeNoZero ps #[t])) (hte : P.underlying t = some (.slice e)) (h0 : ops[i]? = some o) (ht : Goesto fs o k #[.int .i64 m]) (hm : m ≤ 140737488355328) (hd : o.dst = some d) (hn : Nat.blt d n = true) (hg : Goes ops fs o)
    (h : ∀ b c, m ≤ c → GF n ds ((d, .slice (some ⟨b, 0, none⟩) m c) :: fs) E (.sl e 1 (some ⟨b, 0, none⟩) 0 c [] :: L) (wpF P ops T J π)) : GF n ds fs E L (wpF P ops T J ((i, 3) :: π)) := fun a ha =>
  ⟨o, h0, by
    rw [if_pos (hg.wanted ha)]
    intro M w hw
    unfold Steps
    obtain ⟨f, xs, ts, vs, cap, ho, hfv, hx, hargs⟩ := ht
    have e1 := evs_args ha hx
    simp only [Array.toArray_toList] at e1
    have e2 := ha.eval hfv
    obtain ⟨cs, hrun, hc1, hc2⟩ := Lib.run_makeNoZero (P := P) w ps t e hte m (by omega)
    have e3 : (execOp a.eval o).run P w = .ok (.value (.slice (some ⟨w.heap.size, 0, none⟩) m cs.size)) (w.drew.drew.alloc (.cells cs e)) := by
      simp only [execOp, ho, resolve, e2, Deferred.ofValue, e1]
      simp [invoke, ← hargs, run_callFunc_extern hf hname hb hfn he, hrun, Result.andThen]
    rw [e3]
    have hst := ((hw.drew (w.drawn + 1)).drew (w.drawn + 2)).alloc (.cells cs e)
    have hst2 : St E (.blk w.heap.size (.cells cs e) :: (M ++ L)) (w.drew.drew.alloc (.cells cs e)) := hst
    have s2 : St E (.sl e 1 (some ⟨w.heap.size, 0, none⟩) 0 cs.size [] :: (M ++ L)) (w.drew.drew.alloc (.cells cs e)) := by
      refine hst2.conv (r' := .sl e 1 (some ⟨w.heap.size, 0, none⟩) 0 cs.size []) (by simp [Res.sl, Res.blk]) ?_
      exact ⟨rfl, .inr ⟨w.heap.size, cs, rfl, hst2.own _ (.head _), Nat.zero_le _, hc2 (by simp only [maxLen]; omega), by simp, by simp⟩⟩
    refine ⟨Fam.st E (.sl e 1 (some ⟨w.heap.size, 0, none⟩) 0 cs.size [] :: L), fun w' ⟨M', h'⟩ => ⟨M' ++ [_], by show St E ((M' ++ [_]) ++ L) w'; rw [List.append_assoc]; exact h'⟩, s2.perm List.perm_middle.symm, ?_⟩
    rw [hd]
    exact h _ _ hc1 _ (ha.put hn _)⟩
end rules
end Go.Proofs.YtjhehanknkonnaaGreatDoor
set_option linter.unusedSimpArgs false
set_option linter.unusedVariables false
set_option maxHeartbeats 2000000
set_option maxRecDepth 20000
namespace Go.Proofs.YtjhehanknkonnaaGreatDoor
open Go.RowKit
/-! strings.Builder's Grow, for texts that do without the looks. -/
section
variable (E : Env) (L : List Res)
theorem grow_parts (b : Nat) (n : Nat) (hn : n ≤ 1000000) (u : Bool) :
    CallS Tryz.prog 138 #[.pointer (some ⟨b, 0, none⟩), .int .i64 n] E (.blk b (Bld.obj b u none 0 0) :: L)
      (fun r E' L' => ∃ a c, n ≤ c ∧ r = .tuple #[] ∧ E = E' ∧ L' = .blk b (Bld.obj b u (some ⟨a, 0, none⟩) 0 c) :: .sl 5 1 (some ⟨a, 0, none⟩) 0 c [] :: L) := by
  refine CallS.intro (l := [_, _]) _ Tryz.func138 rfl Tryz.ntmps138 rfl ?_
  simp only [Bld.obj]
  refine G_seq ?_
  refine G_drawX 16 [(0, 0), (1, 0), (2, 0), (3, 1), (4, 0), (5, 0), (6, 0), (7, 0), (9, 0), (10, 0), (11, 0), (12, 1), (8, 3), (13, 0), (14, 0), (15, 0)] mixed (by kernel_rfl) ?_
  refine F_pure rfl (fun _ _ => V_move rfl rfl) rfl rfl (.none rfl) ?_
  refine F_pure rfl (fun _ _ => V_nilCheck rfl rfl) rfl rfl (.none rfl) ?_
  refine F_pure rfl (fun _ _ => V_fieldAddr rfl rfl (by decide)) rfl rfl (.none rfl) ?_
  refine F_load rfl (.head _) (V_load rfl rfl (Cell.own (.head _) rfl)) rfl rfl (.none rfl) ?_
  refine F_pure rfl (fun _ _ => V_cap rfl rfl) rfl rfl (.none rfl) ?_
  refine F_pure rfl (fun _ _ => V_mul_i64 rfl rfl rfl (by omega) (by omega)) rfl rfl (.none rfl) ?_
  refine F_pure rfl (fun _ _ => V_move rfl rfl) rfl rfl (.none rfl) ?_
  refine F_pure rfl (fun _ _ => V_add_i64 rfl rfl rfl (by omega) (by omega)) rfl rfl (.none rfl) ?_
  refine F_pure rfl (fun _ _ => V_move rfl rfl) rfl rfl (.none rfl) ?_
  refine F_pure rfl (fun _ _ => V_nilCheck rfl rfl) rfl rfl (.none rfl) ?_
  refine F_pure rfl (fun _ _ => V_fieldAddr rfl rfl (by decide)) rfl rfl (.none rfl) ?_
  refine F_load rfl (.head _) (V_load rfl rfl (Cell.own (.head _) rfl)) rfl rfl (.none rfl) ?_
  have e12 : (2 * ((0 : Nat) : Int) + (n : Int)) = ((n : Nat) : Int) := by omega
  rw [e12]
  refine F_makeNoZero (t := 78) (e := 5) (ps := #[3]) Tryz.func160 (by kernel_rfl) (by kernel_rfl) (by kernel_rfl) (by kernel_rfl) Tryz.underlying78 rfl (.mk rfl rfl rfl rfl) (by omega) rfl rfl (.none rfl) ?_
  intro a13 c13 hc13
  refine F_pure rfl (fun _ _ => V_lenS rfl rfl) rfl rfl (.none rfl) ?_
  refine F_pure rfl (fun _ _ => V_slHead rfl rfl rfl (by omega) (by omega)) rfl rfl (.none rfl) ?_
  refine F_pure rfl (fun _ _ => V_assign rfl rfl) rfl rfl (.none rfl) ?_
  (refine F_end (.nil _) ?_; dsimp only [List.drop])
  refine G_end (X_then (G_seq (G_region ?_)))
  refine Gm ?_
  refine Gm ?_
  refine Gv (V_nilCheck rfl rfl) ?_
  refine Gv (V_fieldAddr rfl rfl (by decide)) ?_
  refine Gv (V_load rfl rfl (Cell.own (.tail _ (.head _)) rfl)) ?_
  refine Gv (V_copy0 rfl rfl rfl rfl) ?_
  refine G.front (.tail _ (.head _ _)) ?_
  refine G_end (X_then (G_region ?_))
  refine Gm ?_
  refine Gm ?_
  refine Gv (V_nilCheck rfl rfl) ?_
  refine Gv (V_fieldAddr rfl rfl (by decide)) ?_
  refine G_storeAt rfl rfl rfl rfl rfl rfl (.none rfl) (.head _ _ _) (Nat.le_of_ble_eq_true rfl) (by simp only [putAll, Nat.zero_add, Nat.reduceAdd, List.setIfInBounds_toArray, List.set_cons_succ, List.set_cons_zero]; rfl) ?_
  refine G_end ?_
  refine G_leaveS_n (.keep _ (.keep _ (.nil _))) (by exact (.nil)) rfl ?_ ?_
  · exact (.refl _)
  exact ⟨_, ⟨_, ⟨(by assumption), ⟨(by kernel_rfl), ⟨rfl, rfl⟩⟩⟩⟩⟩
theorem Grow_parts (b : Nat) (n : Nat) (hn : n ≤ 1000000) (h1 : 1 ≤ n) :
    CallS Tryz.prog 121 #[.pointer (some ⟨b, 0, none⟩), .int .i64 n] E (.blk b (Bld.obj b false none 0 0) :: L)
      (fun r E' L' => ∃ a c, n ≤ c ∧ r = .tuple #[] ∧ E = E' ∧ L' = .blk b (Bld.obj b true (some ⟨a, 0, none⟩) 0 c) :: .sl 5 1 (some ⟨a, 0, none⟩) 0 c [] :: L) := by
  refine CallS.intro (l := [_, _]) _ Tryz.func121 rfl Tryz.ntmps121 rfl ?_
  refine G_seq (G_region ?_)
  refine Gm ?_
  refine G_call (k := 94) (.mk rfl rfl rfl rfl) rfl rfl (.none rfl) (copyCheck_call _ _ b false none 0 0) ?_
  rintro r1 E1 L1 hE1 ⟨rfl, rfl, rfl⟩
  simp only [Bld.obj]
  refine G_end (X_then (G_seq (G_seq (G_region ?_))))
  refine Gm ?_
  refine Gv (V_lss rfl rfl rfl) ?_
  refine G_end (X_then ?_)
  refine G_cond_f rfl (decide_eq_false (by omega)) ?_
  refine G_skip (X_then (G_seq ?_))
  refine G_draw mixed (by kernel_rfl) ?_
  refine Q_val (V_move rfl rfl) rfl rfl (.none rfl) ?_
  refine Q_val (V_nilCheck rfl rfl) rfl rfl (.none rfl) ?_
  refine Q_val (V_fieldAddr rfl rfl (by decide)) rfl rfl (.none rfl) ?_
  refine Q_val (V_load rfl rfl (Cell.own (.head _) rfl)) rfl rfl (.none rfl) ?_
  refine Q_val (V_cap rfl rfl) rfl rfl (.none rfl) ?_
  refine Q_val (V_move rfl rfl) rfl rfl (.none rfl) ?_
  refine Q_val (V_nilCheck rfl rfl) rfl rfl (.none rfl) ?_
  refine Q_val (V_fieldAddr rfl rfl (by decide)) rfl rfl (.none rfl) ?_
  refine Q_val (V_load rfl rfl (Cell.own (.head _) rfl)) rfl rfl (.none rfl) ?_
  refine Q_val (V_lenS rfl rfl) rfl rfl (.none rfl) ?_
  refine Q_val (V_sub_i64 rfl rfl rfl (by omega) (by omega)) rfl rfl (.none rfl) ?_
  refine Q_val (V_move rfl rfl) rfl rfl (.none rfl) ?_
  refine Q_val (V_lss rfl rfl rfl) rfl rfl (.none rfl) ?_
  refine Q_end ?_
  refine X_then ?_
  refine G_cond_t rfl (decide_eq_true (by omega)) ?_
  refine G_region ?_
  refine Gm ?_
  refine Gm ?_
  refine G_call (k := 138) (.mk rfl rfl rfl rfl) rfl rfl (.none rfl) (grow_parts _ _ b n hn true) ?_
  rintro r2 E2 L2 hE2 ⟨a, c, hc, rfl, rfl, rfl⟩
  refine G_end ?_
  refine G_leaveS_n (.keep _ (.keep _ (.nil _))) (by exact (.nil)) rfl ?_ ?_
  · exact (.refl _)
  exact ⟨_, ⟨_, ⟨(by assumption), ⟨(by kernel_rfl), ⟨rfl, rfl⟩⟩⟩⟩⟩
theorem Grow_call (b : Nat) (n : Nat) (hn : n ≤ 1000000) (h1 : 1 ≤ n) :
    CallS Tryz.prog 121 #[.pointer (some ⟨b, 0, none⟩), .int .i64 n] E (.bld b Bld.new :: L)
      (fun r E' L' => ∃ t, r = .tuple #[] ∧ E = E' ∧ t.xs = [] ∧ t.xs.length = 0 ∧ L' = .bld b t :: L) := fun w hw => by
  have hw2 := St.both.1 hw
  have hw3 : St E (.blk b (Bld.obj b false none 0 0) :: .sl 5 1 none 0 0 [] :: L) w := hw2
  have hw4 := (hw3.perm (List.Perm.swap _ _ _)).drop
  refine (Grow_parts E L b n hn h1 w hw4).mono ?_
  rintro e w' ⟨r, E', L', he, hE, hs, a', c', hc, hr, hE', hL⟩
  subst hL
  exact ⟨r, E', .bld b ⟨true, some ⟨a', 0, none⟩, c', [], .inr (by omega)⟩ :: L, he, hE, St.both.2 hs, _, hr, hE', rfl, rfl, rfl⟩
end
end Go.Proofs.YtjhehanknkonnaaGreatDoor
set_option linter.unusedSimpArgs false
set_option linter.unusedVariables false
set_option maxHeartbeats 2000000
set_option maxRecDepth 20000
namespace Go.Proofs.YtjhehanknkonnaaGreatDoor
open Go.RowKit
/-! strings.Join with one blank, any texts. -/
def jnS : List (List UInt8) → List UInt8
  | [] => []
  | x :: l => x ++ l.flatMap fun y => 32 :: y
theorem jnS_snoc (xs : List (List UInt8)) (v : List UInt8) (h : xs ≠ []) : jnS (xs ++ [v]) = (jnS xs ++ [32]) ++ v := by
  rcases xs with _ | ⟨x, xs⟩
  · exact absurd rfl h
  · simp [jnS]
/-- The bytes of the first texts. -/
def sumL (xs : List (List UInt8)) (i : Nat) : Nat := ((xs.take i).map List.length).sum
theorem sumL_succ {xs : List (List UInt8)} {i : Nat} (h : i < xs.length) : sumL xs (i + 1) = sumL xs i + xs[i].length := by
  rw [sumL, List.take_succ_eq_append_getElem h, List.map_append, List.sum_append]
  simp [sumL]
theorem sumL_le {xs : List (List UInt8)} (h1 : ∀ i (h : i < xs.length), xs[i].length ≤ 1000) : ∀ i, i ≤ xs.length → sumL xs i ≤ 1000 * i
  | 0, _ => by simp [sumL]
  | i + 1, h => by rw [sumL_succ h]; have := sumL_le h1 i (by omega); have := h1 i h; omega
section
variable (E : Env) (L : List Res)
theorem JoinN_call (p : Option Addr) (n c : Nat) (xs : List (List UInt8)) (hx : SlE E 1 p n (strs xs)) (hc : n ≤ c) (h2 : 2 ≤ n) (h64 : n ≤ 64) (h1 : ∀ i (h : i < xs.length), xs[i].length ≤ 1000) : CallV Tryz.prog 91 #[.slice p n c, .string (S [32])] E L (.string (S (jnS xs))) := by
  have e := hx.nS
  subst e
  have hq : ¬ (IntKind.i64.wrap ((9223372036854775807 : Int).tdiv (xs.length - 1)) ≤ ((([32] : List UInt8).length : Nat) : Int)) := by
    have h5 : (9223372036854775807 : Int).tdiv ((xs.length : Int) - 1) = 9223372036854775807 / ((xs.length : Int) - 1) := Int.tdiv_eq_ediv_of_nonneg (by omega)
    have h6 : (100 : Int) ≤ 9223372036854775807 / ((xs.length : Int) - 1) := (Int.le_ediv_iff_mul_le (by omega)).2 (by omega)
    have h7 : 9223372036854775807 / ((xs.length : Int) - 1) ≤ 9223372036854775807 := Int.ediv_le_self _ (by omega)
    rw [h5, wrap_i64 (by omega) h7]
    simp only [List.length_singleton]
    omega
  have e5 : IntKind.i64.wrap (0 + IntKind.i64.wrap (((([32] : List UInt8).length : Nat) : Int) * (xs.length - 1))) = ((xs.length - 1 + sumL xs 0 : Nat) : Int) := by
    have h8 : ((([32] : List UInt8).length : Nat) : Int) * ((xs.length : Int) - 1) = (xs.length : Int) - 1 := by simp
    have h9 : sumL xs 0 = 0 := rfl
    rw [h8, h9, wrap_i64 (a := (xs.length : Int) - 1) (by omega) (by omega), wrap_i64 (by omega) (by omega)]
    omega
  refine CallS.toV (CallS.intro (l := [_, _]) _ Tryz.func91 rfl Tryz.ntmps91 rfl ?_)
  refine G_seq (G_region ?_)
  refine Ga ?_
  refine G_end (X_then (G_seq (G_seq (G_region ?_))))
  refine Gm ?_
  refine Gv (V_lenS rfl rfl) ?_
  refine G_end (X_then (G_block (G_seq (G_region ?_))))
  refine Gv (V_eql rfl rfl rfl) ?_
  refine Ga ?_
  refine G_end (X_then ?_)
  refine G_cond_f rfl (decide_eq_false (by omega)) ?_
  refine G_seq (G_region ?_)
  refine Gv (V_eql rfl rfl rfl) ?_
  refine Ga ?_
  refine G_end (X_then ?_)
  refine G_cond_f rfl (decide_eq_false (by omega)) ?_
  refine G_skip (X_block (X_then (G_seq (G_region ?_))))
  refine Ga ?_
  refine G_end (X_then (G_seq (G_seq (G_region ?_))))
  refine Gm ?_
  refine Gv (V_len rfl rfl) ?_
  refine Gv (V_gtr rfl rfl rfl) ?_
  refine G_end (X_then ?_)
  refine G_cond_t rfl (by kernel_rfl) ?_
  refine G_seq (G_seq (G_region ?_))
  refine Gm ?_
  refine Gv (V_len rfl rfl) ?_
  refine Gm ?_
  refine Gv (V_lenS rfl rfl) ?_
  refine Gv (V_sub_i64 rfl rfl rfl (by omega) (by omega)) ?_
  refine Gv (V_quo rfl rfl rfl (by omega)) ?_
  refine Gv (V_geq rfl rfl rfl) ?_
  refine G_end (X_then ?_)
  refine G_cond_f rfl (decide_eq_false (by omega)) ?_
  refine G_skip (X_then (G_region ?_))
  refine Gm ?_
  refine Gm ?_
  refine Gv (V_len rfl rfl) ?_
  refine Gm ?_
  refine Gv (V_lenS rfl rfl) ?_
  refine Gv (V_sub_i64 rfl rfl rfl (by omega) (by omega)) ?_
  refine Gv (V_mul rfl rfl rfl) ?_
  refine Gv (V_add rfl rfl rfl) ?_
  refine Ga ?_
  refine G_end (X_then (G_seq (G_seq (G_region ?_))))
  refine Gm ?_
  refine Gv (V_lenS rfl rfl) ?_
  refine Gm ?_
  refine G_end (X_then (G_block ?_))
  rw [e5]
  refine G_loop (α := Nat) (fun i => [(0, .slice p xs.length c), (1, .string (S [32])), (5, .int .i64 ((xs.length - 1 + sumL xs i : Nat) : Int)), (39, .slice p xs.length c), (40, .int .i64 xs.length), (41, .int .i64 (i : Nat))]) (fun _ => E) (fun _ => L)
    (fun i => i ≤ xs.length) (fun i => xs.length - i) 0 (Nat.zero_le _) ⟨rfl, rfl, rfl, rfl, rfl, rfl, trivial⟩ rfl rfl ?_
  rintro i hi
  have hsi := sumL_le h1 i hi
  by_cases hlt : i < xs.length
  · have h0 := strs_get (List.getElem?_eq_getElem hlt)
    have h5 := h1 i hlt
    refine G_seq (G_region ?_)
    refine Gv (V_lss rfl rfl rfl) ?_
    refine G_end (X_then (G_seq ?_))
    refine G_cond_t rfl (decide_eq_true (by omega)) ?_
    refine G_skip (X_then (G_seq (G_block (G_seq (G_region ?_)))))
    refine Gv (V_idxAddr rfl rfl rfl (SlE.rd (by assumption)) (by omega) (by omega)) ?_
    refine Gv (V_loadS rfl rfl (SlE.rd (by assumption)) (by assumption) (by simp)) ?_
    refine Ga ?_
    refine G_end (X_then (G_seq (G_seq (G_region ?_))))
    refine Gm ?_
    refine Gv (V_len rfl rfl) ?_
    refine Gm ?_
    refine Gv (V_sub_i64 rfl rfl rfl (by omega) (by omega)) ?_
    refine Gv (V_gtr rfl rfl rfl) ?_
    refine G_end (X_then ?_)
    refine G_cond_f rfl (decide_eq_false (by omega)) ?_
    refine G_skip (X_then (G_region ?_))
    refine Gm ?_
    refine Gm ?_
    refine Gv (V_len rfl rfl) ?_
    refine Gv (V_add_i64 rfl rfl rfl (by omega) (by omega)) ?_
    refine Ga ?_
    refine G_end (X_block (X_then (G_region ?_)))
    refine Gv (V_add_i64 rfl rfl rfl (by omega) (by omega)) ?_
    refine Gm ?_
    refine G_end (X_then ?_)
    rw [show ((xs.length - 1 + sumL xs i : Nat) : Int) + (xs[i].length : Nat) = ((xs.length - 1 + sumL xs (i + 1) : Nat) : Int) by rw [sumL_succ hlt]; omega]
    exact G_again (i + 1) hlt (by omega) ⟨rfl, rfl, rfl, rfl, rfl, rfl, trivial⟩ rfl rfl
  · obtain rfl : i = xs.length := by omega
    have h0 := strs_get (List.getElem?_eq_getElem (l := xs) (i := 0) (by omega))
    have h5 := h1 0 (by omega)
    have htl : SlE E 1 (tailAt p 1 c 1) (xs.length - 1) (strs (xs.drop 1)) := by
      have := hx.tail (l := 1) (c := c) (by omega) hc
      simpa [strs] using this
    refine G_seq (G_region ?_)
    refine Gv (V_lss rfl rfl rfl) ?_
    refine G_end (X_then (G_seq ?_))
    refine G_cond_f rfl (decide_eq_false (by omega)) ?_
    refine G_exit (X_then_exit (X_then_exit (X_block_hit (X_then (G_seq (G_region ?_))))))
    (refine G_alloc rfl rfl rfl (.none rfl) ?_; intro b8)
    refine G_end (X_then (G_seq (G_region ?_)))
    refine Gm ?_
    refine G.bldNew ?_
    refine G_call (k := 121) (.mk rfl rfl rfl rfl) rfl rfl (.none rfl) (Grow_call _ _ _ _ (by omega) (by omega)) ?_
    rintro r1 E2 L3 hE4 ⟨z5, ⟨rfl, ⟨rfl, ⟨Z6, ⟨Z7, rfl⟩⟩⟩⟩⟩
    replace hx := hx.mono hE4
    replace htl := htl.mono hE4
    refine G_end (X_then (G_seq (G_region ?_)))
    refine Gm ?_
    refine Gv (V_idxAddr rfl rfl rfl (SlE.rd (by assumption)) (by omega) (by omega)) ?_
    refine Gv (V_loadS rfl rfl (SlE.rd (by assumption)) (by assumption) (by simp)) ?_
    refine G_call (k := 57) (.mk rfl rfl rfl rfl) rfl rfl (.none rfl) (WriteString_call _ _ _ _ _ (by omega)) ?_
    rintro r8 E9 L10 hE11 ⟨z12, ⟨rfl, ⟨rfl, ⟨Z13, ⟨Z14, rfl⟩⟩⟩⟩⟩
    replace hx := hx.mono hE11
    replace htl := htl.mono hE11
    refine G_end (X_then (G_seq (G_seq (G_region ?_))))
    refine Gm ?_
    refine Gv (V_slTail1 rfl rfl rfl (by omega)) ?_
    refine Gv (V_lenS rfl rfl) ?_
    refine Gm ?_
    refine G_end (X_then (G_block ?_))
    have hs1 : jnS (xs.take (0 + 1)) = xs[0] := by
      rw [List.take_succ_eq_append_getElem (by omega)]; simp [jnS]
    rw [Z6, List.nil_append, ← hs1] at Z13
    rw [Z7] at Z14
    refine G_loop (α := Nat × Bld) (fun x => [(1, .string (S [32])), (8, .pointer (some ⟨b8, 0, none⟩)), (63, .slice (tailAt p 1 c 1) (xs.length - 1) (c - 1)), (64, .int .i64 (xs.length - 1 : Nat)), (65, .int .i64 (x.1 : Nat))]) (fun _ => E9)
      (fun x => .bld b8 x.2 :: L) (fun x => x.1 ≤ xs.length - 1 ∧ x.2.xs = jnS (xs.take (x.1 + 1)) ∧ x.2.xs.length ≤ 1001 * x.1 + 1000) (fun x => xs.length - x.1) (0, z12) ⟨Nat.zero_le _, Z13, by show z12.xs.length ≤ _; omega⟩ ⟨rfl, rfl, rfl, rfl, rfl, trivial⟩ rfl rfl ?_
    rintro ⟨j, t⟩ ⟨hj, ht, htl2⟩
    simp only at hj ht htl2 ⊢
    by_cases hltj : j < xs.length - 1
    · have hg : (strs (xs.drop 1))[j]? = some (.string (S (xs[1 + j]'(by omega)))) := strs_get (by rw [List.getElem?_drop, List.getElem?_eq_getElem (by omega)])
      have h6 := h1 (1 + j) (by omega)
      have hsn : jnS (xs.take (j + 1 + 1)) = (jnS (xs.take (j + 1)) ++ [32]) ++ xs[1 + j]'(by omega) := by
        rw [List.take_succ_eq_append_getElem (by omega), jnS_snoc _ _ (fun h => by have := congrArg List.length h; rw [List.length_take, List.length_nil] at this; omega)]
        congr 2
        omega
      have h32 : ([32] : List UInt8).length = 1 := rfl
      clear hx h0
      refine G_seq (G_region ?_)
      refine Gv (V_lss rfl rfl rfl) ?_
      refine G_end (X_then (G_seq ?_))
      refine G_cond_t rfl (decide_eq_true (by omega)) ?_
      refine G_skip (X_then (G_seq (G_block (G_seq (G_region ?_)))))
      refine Gv (V_idxAddr rfl rfl rfl (SlE.rd (by assumption)) (by omega) (by omega)) ?_
      refine Gv (V_loadS rfl rfl (SlE.rd (by assumption)) (by assumption) (by simp)) ?_
      refine Ga ?_
      refine G_end (X_then (G_seq (G_region ?_)))
      refine Gm ?_
      refine G_call (k := 57) (.mk rfl rfl rfl rfl) rfl rfl (.none rfl) (WriteString_call _ _ _ _ _ (by omega)) ?_
      rintro r1 E2 L3 hE5 ⟨z6, ⟨rfl, ⟨rfl, ⟨Z8, ⟨Z9, rfl⟩⟩⟩⟩⟩
      replace htl := htl.mono hE5
      refine G_end (X_then (G_region ?_))
      refine Gm ?_
      refine G_call (k := 57) (.mk rfl rfl rfl rfl) rfl rfl (.none rfl) (WriteString_call _ _ _ _ _ (by omega)) ?_
      rintro r10 E11 L12 hE13 ⟨z14, ⟨rfl, ⟨rfl, ⟨Z15, ⟨Z16, rfl⟩⟩⟩⟩⟩
      replace htl := htl.mono hE13
      refine G_end (X_block (X_then (G_region ?_)))
      refine Gv (V_add_i64 rfl rfl rfl (by omega) (by omega)) ?_
      refine Gm ?_
      refine G_end (X_then ?_)
      exact G_again (j + 1, z14) ⟨by show j + 1 ≤ _; omega, by show z14.xs = _; rw [Z15, Z8, ht, hsn], by show z14.xs.length ≤ 1001 * (j + 1) + 1000; omega⟩ (by show xs.length - (j + 1) < xs.length - j; omega) ⟨rfl, rfl, rfl, rfl, rfl, trivial⟩ rfl rfl
    · obtain rfl : j = xs.length - 1 := by omega
      rw [show xs.length - 1 + 1 = xs.length by omega, List.take_length] at ht
      rw [← ht]
      refine G_seq (G_region ?_)
      refine Gv (V_lss rfl rfl rfl) ?_
      refine G_end (X_then (G_seq ?_))
      refine G_cond_f rfl (decide_eq_false (by omega)) ?_
      refine G_exit (X_then_exit (X_then_exit (X_block_hit (X_then (G_seq (G_region ?_))))))
      refine G_call (k := 59) (.mk rfl rfl rfl rfl) rfl rfl (.none rfl) (BString_call _ _ _ _ (by omega)) ?_
      rintro r1 E2 L3 hE5 ⟨rfl, ⟨rfl, rfl⟩⟩
      replace hx := hx.mono hE5
      replace htl := htl.mono hE5
      refine Ga ?_
      refine G_end (X_then (G_ret ?_))
      refine G_leaveS (.nil _) (by exact (.cons (.tmp rfl) (.nil))) rfl ?_ ?_
      · exact (.refl _)
      exact ⟨rfl, rfl⟩
end
end Go.Proofs.YtjhehanknkonnaaGreatDoor
set_option linter.unusedSimpArgs false
set_option linter.unusedVariables false
set_option maxHeartbeats 2000000
set_option maxRecDepth 20000
namespace Go.Proofs.YtjhehanknkonnaaGreatDoor
open Go.RowKit
/-! stack.Text. -/
def dgb (x : Int) : UInt8 := UInt8.ofNat (48 + x.toNat)
section
variable (E : Env) (L : List Res)
end
end Go.Proofs.YtjhehanknkonnaaGreatDoor
set_option linter.unusedSimpArgs false
set_option linter.unusedVariables false
set_option maxHeartbeats 2000000
set_option maxRecDepth 20000
namespace Go.Proofs.YtjhehanknkonnaaGreatDoor
open Go.RowKit
/-! strconv.Itoa of numbers below 10. -/
section
variable (E : Env) (L : List Res)
theorem small1_call (x : Int) (h : 0 ≤ x ∧ x < 10) : CallV Tryz.prog 134 #[.int .i64 x] E L (.string (S [dgb x])) := by
  refine CallS.toV (CallS.intro (l := [_]) _ Tryz.func134 rfl Tryz.ntmps134 rfl ?_)
  have : x = 0 ∨ x = 1 ∨ x = 2 ∨ x = 3 ∨ x = 4 ∨ x = 5 ∨ x = 6 ∨ x = 7 ∨ x = 8 ∨ x = 9 := by omega
  rcases this with rfl | rfl | rfl | rfl | rfl | rfl | rfl | rfl | rfl | rfl
  · refine G_seq ?_
    refine G_region ?_
    refine Ga ?_
    refine G_end (X_then (G_seq (G_seq (G_region ?_))))
    refine Gm ?_
    refine Gv (V_lss rfl rfl rfl) ?_
    refine G_end (X_then ?_)
    refine G_cond_t rfl (by kernel_rfl) ?_
    refine G_seq (G_region ?_)
    refine Gm ?_
    refine Gm ?_
    refine Gv (V_add_i64 rfl rfl rfl (by omega) (by omega)) ?_
    refine Gv (V_cut rfl rfl rfl rfl (by omega) (by omega) (by simp only [List.length_cons, List.length_nil]; omega)) ?_
    refine Ga ?_
    refine G_end (X_then (G_ret (X_then_ret ?_)))
    refine G_leaveS (.nil _) (by exact (.cons (.tmp rfl) (.nil))) rfl ?_ ?_
    · exact (.refl _)
    exact ⟨(by kernel_rfl), rfl⟩
  · refine G_seq ?_
    refine G_region ?_
    refine Ga ?_
    refine G_end (X_then (G_seq (G_seq (G_region ?_))))
    refine Gm ?_
    refine Gv (V_lss rfl rfl rfl) ?_
    refine G_end (X_then ?_)
    refine G_cond_t rfl (by kernel_rfl) ?_
    refine G_seq (G_region ?_)
    refine Gm ?_
    refine Gm ?_
    refine Gv (V_add_i64 rfl rfl rfl (by omega) (by omega)) ?_
    refine Gv (V_cut rfl rfl rfl rfl (by omega) (by omega) (by simp only [List.length_cons, List.length_nil]; omega)) ?_
    refine Ga ?_
    refine G_end (X_then (G_ret (X_then_ret ?_)))
    refine G_leaveS (.nil _) (by exact (.cons (.tmp rfl) (.nil))) rfl ?_ ?_
    · exact (.refl _)
    exact ⟨(by kernel_rfl), rfl⟩
  · refine G_seq ?_
    refine G_region ?_
    refine Ga ?_
    refine G_end (X_then (G_seq (G_seq (G_region ?_))))
    refine Gm ?_
    refine Gv (V_lss rfl rfl rfl) ?_
    refine G_end (X_then ?_)
    refine G_cond_t rfl (by kernel_rfl) ?_
    refine G_seq (G_region ?_)
    refine Gm ?_
    refine Gm ?_
    refine Gv (V_add_i64 rfl rfl rfl (by omega) (by omega)) ?_
    refine Gv (V_cut rfl rfl rfl rfl (by omega) (by omega) (by simp only [List.length_cons, List.length_nil]; omega)) ?_
    refine Ga ?_
    refine G_end (X_then (G_ret (X_then_ret ?_)))
    refine G_leaveS (.nil _) (by exact (.cons (.tmp rfl) (.nil))) rfl ?_ ?_
    · exact (.refl _)
    exact ⟨(by kernel_rfl), rfl⟩
  · refine G_seq ?_
    refine G_region ?_
    refine Ga ?_
    refine G_end (X_then (G_seq (G_seq (G_region ?_))))
    refine Gm ?_
    refine Gv (V_lss rfl rfl rfl) ?_
    refine G_end (X_then ?_)
    refine G_cond_t rfl (by kernel_rfl) ?_
    refine G_seq (G_region ?_)
    refine Gm ?_
    refine Gm ?_
    refine Gv (V_add_i64 rfl rfl rfl (by omega) (by omega)) ?_
    refine Gv (V_cut rfl rfl rfl rfl (by omega) (by omega) (by simp only [List.length_cons, List.length_nil]; omega)) ?_
    refine Ga ?_
    refine G_end (X_then (G_ret (X_then_ret ?_)))
    refine G_leaveS (.nil _) (by exact (.cons (.tmp rfl) (.nil))) rfl ?_ ?_
    · exact (.refl _)
    exact ⟨(by kernel_rfl), rfl⟩
  · refine G_seq ?_
    refine G_region ?_
    refine Ga ?_
    refine G_end (X_then (G_seq (G_seq (G_region ?_))))
    refine Gm ?_
    refine Gv (V_lss rfl rfl rfl) ?_
    refine G_end (X_then ?_)
    refine G_cond_t rfl (by kernel_rfl) ?_
    refine G_seq (G_region ?_)
    refine Gm ?_
    refine Gm ?_
    refine Gv (V_add_i64 rfl rfl rfl (by omega) (by omega)) ?_
    refine Gv (V_cut rfl rfl rfl rfl (by omega) (by omega) (by simp only [List.length_cons, List.length_nil]; omega)) ?_
    refine Ga ?_
    refine G_end (X_then (G_ret (X_then_ret ?_)))
    refine G_leaveS (.nil _) (by exact (.cons (.tmp rfl) (.nil))) rfl ?_ ?_
    · exact (.refl _)
    exact ⟨(by kernel_rfl), rfl⟩
  · refine G_seq ?_
    refine G_region ?_
    refine Ga ?_
    refine G_end (X_then (G_seq (G_seq (G_region ?_))))
    refine Gm ?_
    refine Gv (V_lss rfl rfl rfl) ?_
    refine G_end (X_then ?_)
    refine G_cond_t rfl (by kernel_rfl) ?_
    refine G_seq (G_region ?_)
    refine Gm ?_
    refine Gm ?_
    refine Gv (V_add_i64 rfl rfl rfl (by omega) (by omega)) ?_
    refine Gv (V_cut rfl rfl rfl rfl (by omega) (by omega) (by simp only [List.length_cons, List.length_nil]; omega)) ?_
    refine Ga ?_
    refine G_end (X_then (G_ret (X_then_ret ?_)))
    refine G_leaveS (.nil _) (by exact (.cons (.tmp rfl) (.nil))) rfl ?_ ?_
    · exact (.refl _)
    exact ⟨(by kernel_rfl), rfl⟩
  · refine G_seq ?_
    refine G_region ?_
    refine Ga ?_
    refine G_end (X_then (G_seq (G_seq (G_region ?_))))
    refine Gm ?_
    refine Gv (V_lss rfl rfl rfl) ?_
    refine G_end (X_then ?_)
    refine G_cond_t rfl (by kernel_rfl) ?_
    refine G_seq (G_region ?_)
    refine Gm ?_
    refine Gm ?_
    refine Gv (V_add_i64 rfl rfl rfl (by omega) (by omega)) ?_
    refine Gv (V_cut rfl rfl rfl rfl (by omega) (by omega) (by simp only [List.length_cons, List.length_nil]; omega)) ?_
    refine Ga ?_
    refine G_end (X_then (G_ret (X_then_ret ?_)))
    refine G_leaveS (.nil _) (by exact (.cons (.tmp rfl) (.nil))) rfl ?_ ?_
    · exact (.refl _)
    exact ⟨(by kernel_rfl), rfl⟩
  · refine G_seq ?_
    refine G_region ?_
    refine Ga ?_
    refine G_end (X_then (G_seq (G_seq (G_region ?_))))
    refine Gm ?_
    refine Gv (V_lss rfl rfl rfl) ?_
    refine G_end (X_then ?_)
    refine G_cond_t rfl (by kernel_rfl) ?_
    refine G_seq (G_region ?_)
    refine Gm ?_
    refine Gm ?_
    refine Gv (V_add_i64 rfl rfl rfl (by omega) (by omega)) ?_
    refine Gv (V_cut rfl rfl rfl rfl (by omega) (by omega) (by simp only [List.length_cons, List.length_nil]; omega)) ?_
    refine Ga ?_
    refine G_end (X_then (G_ret (X_then_ret ?_)))
    refine G_leaveS (.nil _) (by exact (.cons (.tmp rfl) (.nil))) rfl ?_ ?_
    · exact (.refl _)
    exact ⟨(by kernel_rfl), rfl⟩
  · refine G_seq ?_
    refine G_region ?_
    refine Ga ?_
    refine G_end (X_then (G_seq (G_seq (G_region ?_))))
    refine Gm ?_
    refine Gv (V_lss rfl rfl rfl) ?_
    refine G_end (X_then ?_)
    refine G_cond_t rfl (by kernel_rfl) ?_
    refine G_seq (G_region ?_)
    refine Gm ?_
    refine Gm ?_
    refine Gv (V_add_i64 rfl rfl rfl (by omega) (by omega)) ?_
    refine Gv (V_cut rfl rfl rfl rfl (by omega) (by omega) (by simp only [List.length_cons, List.length_nil]; omega)) ?_
    refine Ga ?_
    refine G_end (X_then (G_ret (X_then_ret ?_)))
    refine G_leaveS (.nil _) (by exact (.cons (.tmp rfl) (.nil))) rfl ?_ ?_
    · exact (.refl _)
    exact ⟨(by kernel_rfl), rfl⟩
  · refine G_seq ?_
    refine G_region ?_
    refine Ga ?_
    refine G_end (X_then (G_seq (G_seq (G_region ?_))))
    refine Gm ?_
    refine Gv (V_lss rfl rfl rfl) ?_
    refine G_end (X_then ?_)
    refine G_cond_t rfl (by kernel_rfl) ?_
    refine G_seq (G_region ?_)
    refine Gm ?_
    refine Gm ?_
    refine Gv (V_add_i64 rfl rfl rfl (by omega) (by omega)) ?_
    refine Gv (V_cut rfl rfl rfl rfl (by omega) (by omega) (by simp only [List.length_cons, List.length_nil]; omega)) ?_
    refine Ga ?_
    refine G_end (X_then (G_ret (X_then_ret ?_)))
    refine G_leaveS (.nil _) (by exact (.cons (.tmp rfl) (.nil))) rfl ?_ ?_
    · exact (.refl _)
    exact ⟨(by kernel_rfl), rfl⟩
theorem FormatInt1_call (x : Int) (h : 0 ≤ x ∧ x < 10) : CallV Tryz.prog 120 #[.int .i64 x, .int .i64 10] E L (.string (S [dgb x])) := by
  refine CallS.toV (CallS.intro (l := [_, _]) _ Tryz.func120 rfl Tryz.ntmps120 rfl ?_)
  refine G_seq (G_region ?_)
  refine Ga ?_
  refine G_end (X_then (G_seq (G_seq (G_region ?_))))
  refine Gm ?_
  refine Gv (V_eql rfl rfl rfl) ?_
  refine G_end (X_then ?_)
  refine G_cond_t rfl (by kernel_rfl) ?_
  refine G_seq (G_seq (G_region ?_))
  refine Gm ?_
  refine Gv (V_leq rfl rfl rfl) ?_
  refine Gm ?_
  refine G.bool_t 14 rfl (decide_eq_true (by omega)) ?_
  refine Gy (V_move rfl rfl) ?_
  refine Gy (V_lss rfl rfl rfl) ?_
  refine Gv (V_pick_t rfl rfl rfl) ?_
  refine G_end (X_then ?_)
  refine G_cond_t rfl (decide_eq_true (by omega)) ?_
  refine G_seq (G_region ?_)
  refine Gm ?_
  refine G_callv (k := 134) (.mk rfl rfl rfl rfl) rfl rfl (.none rfl) (small1_call _ _ _ (by assumption)) ?_
  refine Ga ?_
  refine G_end (X_then (G_ret (X_then_ret (X_then_ret ?_))))
  refine G_leaveS (.nil _) (by exact (.cons (.tmp rfl) (.nil))) rfl ?_ ?_
  · exact (.refl _)
  exact ⟨rfl, rfl⟩
end
end Go.Proofs.YtjhehanknkonnaaGreatDoor
set_option linter.unusedSimpArgs false
set_option linter.unusedVariables false
set_option maxHeartbeats 2000000
set_option maxRecDepth 20000
namespace Go.Proofs.YtjhehanknkonnaaGreatDoor
open Go.RowKit
/-! strconv.Itoa of numbers below 1,000: the parts. -/
def smls : List UInt8 := (List.range 100).flatMap fun i => [UInt8.ofNat (48 + i / 10), UInt8.ofNat (48 + i % 10)]
theorem smls_len : smls.length = 200 := by decide +kernel
theorem smls_cut {k : Nat} (h : k < 100) : (smls.take (2 * k + 2)).drop (2 * k) = [UInt8.ofNat (48 + k / 10), UInt8.ofNat (48 + k % 10)] := by
  have : ∀ i : Fin 100, (smls.take (2 * i.val + 2)).drop (2 * i.val) = [UInt8.ofNat (48 + i.val / 10), UInt8.ofNat (48 + i.val % 10)] := by decide +kernel
  exact this ⟨k, h⟩
theorem log10_shr {k : Nat} (h : k < 64) : shrI .i64 ((k : Int) * 78913) 18 = ((k * 78913 / 262144 : Nat) : Int) := by
  have : ∀ i : Fin 64, shrI .i64 ((i.val : Int) * 78913) 18 = ((i.val * 78913 / 262144 : Nat) : Int) := by decide +kernel
  exact this ⟨k, h⟩
section
variable (E : Env) (L : List Res)
theorem small2_call (k : Nat) (h : 10 ≤ k ∧ k < 100) : CallV Tryz.prog 134 #[.int .i64 (k : Nat)] E L (.string (S [UInt8.ofNat (48 + k / 10), UInt8.ofNat (48 + k % 10)])) := by
  have hl := smls_len
  have hc := smls_cut h.2
  refine CallS.toV (CallS.intro (l := [_]) _ Tryz.func134 rfl Tryz.ntmps134 rfl ?_)
  refine G_seq (G_region ?_)
  refine Ga ?_
  refine G_end (X_then (G_seq (G_seq (G_region ?_))))
  refine Gm ?_
  refine Gv (V_lss rfl rfl rfl) ?_
  refine G_end (X_then ?_)
  refine G_cond_f rfl (decide_eq_false (by omega)) ?_
  refine G_skip (X_then (G_seq (G_region ?_)))
  refine Gm ?_
  refine Gv (V_mul_i64 rfl rfl rfl (by omega) (by omega)) ?_
  refine Gm ?_
  refine Gv (V_mul_i64 rfl rfl rfl (by omega) (by omega)) ?_
  refine Gv (V_add_i64 rfl rfl rfl (by omega) (by omega)) ?_
  refine Gv (V_cut (s := smls) rfl (by kernel_rfl) rfl rfl (by omega) (by omega) (by omega)) ?_
  rw [show ((k : Int) * 2 + 2).toNat = 2 * k + 2 by omega, show ((k : Int) * 2).toNat = 2 * k by omega, hc]
  refine Ga ?_
  refine G_end (X_then (G_ret ?_))
  refine G_leaveS (.nil _) (by exact (.cons (.tmp rfl) (.nil))) rfl ?_ ?_
  · exact (.refl _)
  exact ⟨rfl, rfl⟩
theorem log10_call (k : Nat) (h : k < 64) : CallV Tryz.prog 155 #[.int .i64 (k : Nat)] E L (.int .i64 ((k * 78913 / 262144 : Nat) : Int)) := by
  rw [← log10_shr h]
  refine CallS.toV (CallS.intro (l := [_]) _ Tryz.func155 rfl Tryz.ntmps155 rfl ?_)
  refine G_seq (G_region ?_)
  refine Ga ?_
  refine G_end (X_then (G_seq (G_region ?_)))
  refine Gm ?_
  refine Gv (V_mul_i64 rfl rfl rfl (by omega) (by omega)) ?_
  refine Gv (V_shr rfl rfl rfl (by omega)) ?_
  refine Ga ?_
  refine G_end (X_then (G_ret ?_))
  refine G_leaveS (.nil _) (by exact (.cons (.tmp rfl) (.nil))) rfl ?_ ?_
  · exact (.refl _)
  exact ⟨rfl, rfl⟩
theorem bool2_call (b : Bool) : CallV Tryz.prog 157 #[.bool b] E L (.int .i64 (if b then 1 else 0)) := by
  refine CallS.toV (CallS.intro (l := [_]) _ Tryz.func157 rfl Tryz.ntmps157 rfl ?_)
  cases b
  · refine G_seq ?_
    refine G_region ?_
    refine Ga ?_
    refine G_end (X_then (G_seq (G_seq (G_region ?_))))
    refine Gm ?_
    refine G_end (X_then ?_)
    refine G_cond_f rfl rfl ?_
    refine G_skip (X_then (G_seq (G_region ?_)))
    refine Ga ?_
    refine G_end (X_then (G_ret ?_))
    refine G_leaveS (.nil _) (by exact (.cons (.tmp rfl) (.nil))) rfl ?_ ?_
    · exact (.refl _)
    exact ⟨(by kernel_rfl), rfl⟩
  · refine G_seq ?_
    refine G_region ?_
    refine Ga ?_
    refine G_end (X_then (G_seq (G_seq (G_region ?_))))
    refine Gm ?_
    refine G_end (X_then ?_)
    refine G_cond_t rfl rfl ?_
    refine G_seq (G_region ?_)
    refine Ga ?_
    refine G_end (X_then (G_ret (X_then_ret ?_)))
    refine G_leaveS (.nil _) (by exact (.cons (.tmp rfl) (.nil))) rfl ?_ ?_
    · exact (.refl _)
    exact ⟨(by kernel_rfl), rfl⟩
end
end Go.Proofs.YtjhehanknkonnaaGreatDoor
set_option linter.unusedSimpArgs false
set_option linter.unusedVariables false
set_option maxHeartbeats 2000000
set_option maxRecDepth 20000
namespace Go.Proofs.YtjhehanknkonnaaGreatDoor
open Go.RowKit
/-! The number of digits of numbers from 100 to 999. -/
def len8 : List UInt8 := (List.range 256).map fun i => UInt8.ofNat (if i = 0 then 0 else Nat.log2 i + 1)
section
variable (E : Env) (L : List Res)
end
end Go.Proofs.YtjhehanknkonnaaGreatDoor
set_option linter.unusedSimpArgs false
set_option linter.unusedVariables false
set_option maxHeartbeats 2000000
set_option maxRecDepth 20000
namespace Go.Proofs.YtjhehanknkonnaaGreatDoor
open Go.RowKit
/-! numDigits of numbers from 100 to 999. Two cells of the laid table of powers of ten are asked for. -/
theorem SlE.cellAt {E : Env} {L : List Res} {b k n i : Nat} {vals : List Value} {v : Value} (h : SlE E 1 (some ⟨b, k, none⟩) n vals) (hv : vals[i]? = some v) : Cell E L ⟨b, k + i, none⟩ v := fun w hw => by
  obtain ⟨_, h | ⟨p, h1, h2, h3⟩⟩ := h
  · cases h.1
  · cases h1
    have := Env.cell_st (h3 i v hv) hw
    have e : (⟨b, k, none⟩ : Addr).add i = ⟨b, k + i, none⟩ := by unfold Addr.add; split <;> simp_all
    rwa [e] at this
section
variable (E : Env) (L : List Res)
end
end Go.Proofs.YtjhehanknkonnaaGreatDoor
namespace Go.Proofs.YtjhehanknkonnaaGreatDoor
open Go.RowKit
section
variable {P : Program} {fs : List (Nat × Value)} {E : Env} {L : List Res} {o : Oper}
theorem V_idxBo {x y : Operand} {t e : TypeId} {d : TypeDesc} {sz sz' : Nat} {ag ag' : Bool} [ht : Ty P t (.slice e) sz' ag'] [he : Ty P e d sz ag] {b off m c : Nat} {k : IntKind} {i : Int}
    (ho : o.op = .indexAddr t x y) (hx : ev fs x = some (.slice (some ⟨b, off, none⟩) m c)) (hy : ev fs y = some (.int k i)) (h0 : 0 ≤ i) (h1 : i < m) : Val P o fs E L (.pointer (some ⟨b, off + i.toNat * sz, none⟩)) :=
  ⟨(by rw [ho]; intro c h; cases h), fun n ds a' w ha hw => by
    have hl : i.toNat < m := by omega
    have hni : ¬ i < 0 := by omega
    have e2 := addr_add b off (i.toNat * sz)
    simp [execOp, ho, ha.eval hx, ha.eval hy, Instr.indexAt, asIntOf, ht.run, h0, h1, he.size, e2]⟩
/-- An array in memory, from an element on to another. -/
theorem V_slArrMid {t e : TypeId} {m sz szt : Nat} {ag ag' : Bool} {td : TypeDesc} [ht : Ty P t (.array m e) szt ag] [he : Ty P e td sz ag'] {x y z : Operand} {p : Addr} {k k' : IntKind} {i j : Int}
    (ho : o.op = .slice t x (some y) (some z) none) (hx : ev fs x = some (.pointer (some p))) (hy : ev fs y = some (.int k i)) (hz : ev fs z = some (.int k' j)) (h0 : 0 ≤ i) (h1 : i ≤ j) (h2 : j ≤ m) (h3 : i < m) : Val P o fs E L (.slice (some (p.add (i.toNat * sz))) (j.toNat - i.toNat) (m - i.toNat)) :=
  ⟨(by rw [ho]; intro c h; cases h), fun n ds a w ha _ => by
    have e3 : ¬ m = i.toNat := by omega
    have e4 : 0 ≤ j := by omega
    have e6 : max j 0 = j := by omega
    simp [execOp, ho, ha.eval hx, ha.eval hy, ha.eval hz, Instr.sliceAt, Instr.sureAddr, Instr.sliceBounds, Instr.sliceBound, asIntOf, h0, h1, h2, e3, e4, e6, ht.run, he.size, Result.andThen]⟩
/-! ### Values of an interface, compared -/
section
variable {t u : TypeId} {sz : Nat} {ag : Bool} {ms : Array (String × TypeId)} [ht : Ty P t (.interface ms) sz ag] {x y : Operand}
include ht
end
end
end Go.Proofs.YtjhehanknkonnaaGreatDoor
set_option linter.unusedSimpArgs false
set_option linter.unusedVariables false
set_option maxHeartbeats 2000000
set_option maxRecDepth 20000
namespace Go.Proofs.YtjhehanknkonnaaGreatDoor
open Go.RowKit
/-! strconv.Itoa of numbers from 100 to 999. -/
theorem smls_at {k : Nat} (h : k < 100) : smls[2 * k]? = some (UInt8.ofNat (48 + k / 10)) ∧ smls[2 * k + 1]? = some (UInt8.ofNat (48 + k % 10)) := by
  have : ∀ i : Fin 100, smls[2 * i.val]? = some (UInt8.ofNat (48 + i.val / 10)) ∧ smls[2 * i.val + 1]? = some (UInt8.ofNat (48 + i.val % 10)) := by decide +kernel
  exact this ⟨k, h⟩
section
variable (E : Env) (L : List Res)
end
end Go.Proofs.YtjhehanknkonnaaGreatDoor
set_option linter.unusedSimpArgs false
set_option linter.unusedVariables false
set_option maxHeartbeats 2000000
set_option maxRecDepth 20000
namespace Go.Proofs.YtjhehanknkonnaaGreatDoor
open Go.RowKit
/-! strconv.Itoa of numbers below 1,000. -/
section
variable (E : Env) (L : List Res)
theorem FormatInt2_call (d : Nat) (h : 10 ≤ d ∧ d < 100) : CallV Tryz.prog 120 #[.int .i64 (d : Nat), .int .i64 10] E L (.string (S [UInt8.ofNat (48 + d / 10), UInt8.ofNat (48 + d % 10)])) := by
  have hs := small2_call E L d h
  refine CallS.toV (CallS.intro (l := [_, _]) _ Tryz.func120 rfl Tryz.ntmps120 rfl ?_)
  refine G_seq (G_region ?_)
  refine Ga ?_
  refine G_end (X_then (G_seq (G_seq (G_region ?_))))
  refine Gm ?_
  refine Gv (V_eql rfl rfl rfl) ?_
  refine G_end (X_then ?_)
  refine G_cond_t rfl (by kernel_rfl) ?_
  refine G_seq (G_seq (G_region ?_))
  refine Gm ?_
  refine Gv (V_leq rfl rfl rfl) ?_
  refine Gm ?_
  refine G.bool_t 14 rfl (decide_eq_true (by omega)) ?_
  refine Gy (V_move rfl rfl) ?_
  refine Gy (V_lss rfl rfl rfl) ?_
  refine Gv (V_pick_t rfl rfl rfl) ?_
  refine G_end (X_then ?_)
  refine G_cond_t rfl (decide_eq_true (by omega)) ?_
  refine G_seq (G_region ?_)
  refine Gm ?_
  refine G_callv (k := 134) (.mk rfl rfl rfl rfl) rfl rfl (.none rfl) hs ?_
  refine Ga ?_
  refine G_end (X_then (G_ret (X_then_ret (X_then_ret ?_))))
  refine G_leaveS (.nil _) (by exact (.cons (.tmp rfl) (.nil))) rfl ?_ ?_
  · exact (.refl _)
  exact ⟨rfl, rfl⟩
end
end Go.Proofs.YtjhehanknkonnaaGreatDoor
set_option linter.unusedSimpArgs false
set_option linter.unusedVariables false
set_option maxHeartbeats 2000000
set_option maxRecDepth 20000
namespace Go.Proofs.YtjhehanknkonnaaGreatDoor
open Go.RowKit
/-! internal/strconv.Atoi of texts of 1 to 18 bytes. -/
theorem u8s_at {l : List UInt8} {k : Nat} {b : UInt8} (h : l[k]? = some b) : (u8s l)[k]? = some (.int .u8 b.toNat) := by simp [u8s, h]
section
variable (E : Env) (L : List Res)
end
end Go.Proofs.YtjhehanknkonnaaGreatDoor
namespace Go.Proofs.YtjhehanknkonnaaGreatDoor
open Go.RowKit
/-! Decimal digits of any number. -/
theorem log_lt {n : Nat} (h : ¬ n < 10) : n / 10 < n := by omega
/-- The decimal digits of a number. -/
def digN (n : Nat) : List UInt8 := if h : n < 10 then [UInt8.ofNat (48 + n)] else digN (n / 10) ++ [UInt8.ofNat (48 + n % 10)]
termination_by n
decreasing_by exact log_lt h
theorem digN_lt {n : Nat} (h : n < 10) : digN n = [UInt8.ofNat (48 + n)] := by rw [digN]; simp [h]
theorem digN_ge {n : Nat} (h : ¬ n < 10) : digN n = digN (n / 10) ++ [UInt8.ofNat (48 + n % 10)] := by conv => lhs; rw [digN, dif_neg h]
/-- So many digits of a number, with zeros ahead. -/
def digF : Nat → Nat → List UInt8
  | 0, _ => []
  | n + 1, u => digF n (u / 10) ++ [UInt8.ofNat (48 + u % 10)]
theorem digF_len : ∀ n u : Nat, (digF n u).length = n := by
  intro n
  induction n with
  | zero => intro u; rfl
  | succ n ih => intro u; simp [digF, ih]
theorem digF_one (u : Nat) (h : u < 10) : digF 1 u = [UInt8.ofNat (48 + u)] := by simp [digF, Nat.mod_eq_of_lt h]
theorem digF_eq : ∀ n u : Nat, 10 ^ n ≤ u → u < 10 ^ (n + 1) → digF (n + 1) u = digN u := by
  intro n
  induction n with
  | zero =>
    intro u _ h
    have hu : u < 10 := by simpa using h
    rw [digF_one u hu, digN_lt hu]
  | succ n ih =>
    intro u h1 h2
    have h3 : ¬ u < 10 := by
      have : 10 ^ 1 ≤ 10 ^ (n + 1) := Nat.pow_le_pow_right (by omega) (by omega)
      omega
    rw [digN_ge h3, ← ih (u / 10) (by rw [Nat.le_div_iff_mul_le (by omega), ← Nat.pow_succ]; exact h1) (by rw [Nat.div_lt_iff_lt_mul (by omega), ← Nat.pow_succ]; exact h2)]
    rfl
theorem toNat_of (k : Nat) (h : k < 10) : (UInt8.ofNat (48 + k)).toNat = 48 + k := by
  have : ∀ i : Fin 10, (UInt8.ofNat (48 + i.val)).toNat = 48 + i.val := by decide +kernel
  exact this ⟨k, h⟩
theorem digN_len (k : Nat) : ∀ n : Nat, n < 10 ^ (k + 1) → (digN n).length ≤ k + 1 := by
  induction k with
  | zero =>
    intro n h
    have hn : n < 10 := by simpa using h
    rw [digN_lt hn]; simp
  | succ k ih =>
    intro n h
    by_cases h3 : n < 10
    · rw [digN_lt h3]; simp
    · rw [digN_ge h3, List.length_append]
      have := ih (n / 10) (by rw [Nat.div_lt_iff_lt_mul (by omega), ← Nat.pow_succ]; exact h)
      simp; omega
/-- A number's decimal text. -/
def decI (x : Int) : List UInt8 := if x < 0 then 45 :: digN (-x).toNat else digN x.toNat
theorem decI_nat (n : Nat) : decI (n : Int) = digN n := by unfold decI; rw [if_neg (by omega), Int.toNat_natCast]
end Go.Proofs.YtjhehanknkonnaaGreatDoor
set_option linter.unusedSimpArgs false
set_option linter.unusedVariables false
set_option maxHeartbeats 2000000
set_option maxRecDepth 20000
namespace Go.Proofs.YtjhehanknkonnaaGreatDoor
open Go.RowKit
/-! The names of errors. -/
def errTab : List UInt8 := [111, 107, 32, 32, 32, 32, 32, 32, 32, 32, 110, 105, 108, 32, 32, 32, 32, 32, 32, 32, 114, 97, 110, 103, 101, 32, 32, 32, 32, 32, 102, 111, 114, 109, 32, 32, 32, 32, 32, 32, 108, 111, 110, 103, 32, 32, 32, 32, 32, 32, 115, 104, 111, 114, 116, 32, 32, 32, 32, 32, 102, 117, 108, 108, 32, 32, 32, 32, 32, 32, 109, 105, 115, 115, 105, 110, 103, 32, 32, 32, 101, 120, 105, 115, 116, 115, 32, 32, 32, 32, 111, 114, 100, 101, 114, 32, 32, 32, 32, 32, 115, 116, 97, 116, 101, 32, 32, 32, 32, 32, 107, 105, 110, 100, 32, 32, 32, 32, 32, 32, 110, 97, 109, 101, 32, 32, 32, 32, 32, 32, 115, 117, 109, 32, 32, 32, 32, 32, 32, 32, 115, 121, 109, 98, 111, 108, 32, 32, 32, 32, 114, 101, 97, 99, 104, 32, 32, 32, 32, 32, 121, 105, 101, 108, 100, 32, 32, 32, 32, 32, 108, 101, 102, 116, 32, 32, 32, 32, 32, 32, 99, 111, 110, 102, 108, 105, 99, 116, 32, 32, 115, 116, 114, 105, 110, 103, 115, 32, 32, 32, 101, 109, 112, 116, 121, 32, 32, 32, 32, 32, 100, 101, 112, 116, 104, 32, 32, 32, 32, 32, 116, 111, 107, 101, 110, 32, 32, 32, 32, 32, 101, 120, 116, 114, 97, 32, 32, 32, 32, 32, 114, 117, 108, 101, 32, 32, 32, 32, 32, 32, 114, 101, 99, 111, 114, 100, 32, 32, 32, 32, 118, 97, 114, 105, 110, 116, 32, 32, 32, 32, 103, 114, 97, 109, 109, 97, 114, 32, 32, 32, 99, 111, 110, 102, 105, 103, 32, 32, 32, 32, 112, 101, 110, 100, 105, 110, 103, 32, 32, 32, 115, 116, 111, 112, 112, 101, 100, 32, 32, 32, 118, 101, 114, 115, 105, 111, 110, 32, 32, 32]
theorem errTab_len : errTab.length = 320 := by decide +kernel
def chunkE (e : Nat) : List UInt8 := (errTab.take (10 * e + 10)).drop (10 * e)
/-- Without the blanks at the end. -/
def rtrim (c : List UInt8) : List UInt8 := (c.reverse.dropWhile fun x => x == 32).reverse
def errName (e : Int) : List UInt8 := if 0 ≤ e ∧ e < 32 then rtrim (chunkE e.toNat) else [117, 110, 107, 110, 111, 119, 110]
theorem rtrim_blank (l : List UInt8) : rtrim (l ++ [32]) = rtrim l := by simp [rtrim]
theorem rtrim_end (l : List UInt8) {x : UInt8} (h : x ≠ 32) : rtrim (l ++ [x]) = l ++ [x] := by simp [rtrim, List.dropWhile_cons, h]
theorem chunkE_len : ∀ e : Fin 32, (chunkE e.val).length = 10 ∧ (chunkE e.val)[0]? ≠ some 32 := by decide +kernel
section
variable (E : Env) (L : List Res)
theorem ErrName_call (e : Int) (he : -9223372036854775808 ≤ e ∧ e ≤ 9223372036854775807) : CallV Tryz.prog 54 #[.int .i64 e] E L (.string (S (errName e))) := by
  unfold errName
  by_cases h : 0 ≤ e ∧ e < 32
  · rw [if_pos h]
    obtain ⟨n, rfl⟩ : ∃ n : Nat, e = n := ⟨e.toNat, by omega⟩
    have hn : n < 32 := by omega
    rw [Int.toNat_natCast]
    obtain ⟨hcl, hc0⟩ := chunkE_len ⟨n, hn⟩
    simp only at hcl hc0
    have hl := errTab_len
    refine CallS.toV (CallS.intro (l := [_]) _ Tryz.func54 rfl Tryz.ntmps54 rfl ?_)
    refine G_seq (G_region ?_)
    refine Ga ?_
    refine G_end (X_then (G_seq (G_seq (G_region ?_))))
    refine Gm ?_
    refine Gv (V_lss rfl rfl rfl) ?_
    refine Gm ?_
    refine G.bool_f 6 rfl (decide_eq_false (by omega)) ?_
    refine Gy (V_move rfl rfl) ?_
    refine Gy (V_geq rfl rfl rfl) ?_
    refine Gv (V_pick_f rfl rfl rfl) ?_
    refine G_end (X_then ?_)
    refine G_cond_f rfl (decide_eq_false (by omega)) ?_
    refine G_skip (X_then (G_seq (G_region ?_)))
    refine Gm ?_
    refine Gv (V_mul_i64 rfl rfl rfl (by omega) (by omega)) ?_
    refine Gm ?_
    refine Gv (V_mul_i64 rfl rfl rfl (by omega) (by omega)) ?_
    refine Gv (V_add_i64 rfl rfl rfl (by omega) (by omega)) ?_
    refine Gv (V_cut (s := errTab) rfl (by kernel_rfl) rfl rfl (by omega) (by omega) (by omega)) ?_
    rw [show (10 * (n : Int) + 10).toNat = 10 * n + 10 by omega, show (10 * (n : Int)).toNat = 10 * n by omega]
    have hck : (errTab.take (10 * n + 10)).drop (10 * n) = (chunkE n).take 10 := (List.take_of_length_le (l := chunkE n) (by omega)).symm
    rw [hck]
    generalize chunkE n = c at *
    refine Ga ?_
    refine G_end (X_then (G_seq (G_block ?_)))
    refine G_loop (α := Nat) (fun k => [(3, .string (S (c.take k)))]) (fun _ => E) (fun _ => L) (fun k => 1 ≤ k ∧ k ≤ 10 ∧ rtrim (c.take k) = rtrim c) (fun k => k) 10 ⟨by omega, by omega, by rw [List.take_of_length_le (by omega)]⟩ ⟨rfl, trivial⟩ rfl rfl ?_
    rintro k ⟨k1, k2, k3⟩
    have htl : (c.take k).length = k := by rw [List.length_take]; omega
    obtain ⟨j, rfl⟩ : ∃ j, k = j + 1 := ⟨k - 1, by omega⟩
    have hj : j < c.length := by omega
    have hx : (c.take (j + 1))[((((c.take (j + 1)).length : Nat) : Int) - 1).toNat]? = some c[j] := by
      rw [htl, show (((j + 1 : Nat) : Int) - 1).toNat = j by omega, List.getElem?_take_of_lt (by omega), List.getElem?_eq_getElem hj]
    have htk : c.take (j + 1) = c.take j ++ [c[j]] := List.take_succ_eq_append_getElem hj
    have ht2 : (c.take (j + 1)).take ((((c.take (j + 1)).length : Nat) : Int) - 1).toNat = c.take j := by
      rw [htl, show (((j + 1 : Nat) : Int) - 1).toNat = j by omega, List.take_take, Nat.min_eq_left (by omega)]
    have hcj := List.getElem?_eq_getElem hj
    generalize c[j] = x at *
    by_cases hb : x = 32
    · subst hb
      have hj0 : 1 ≤ j := by
        rcases Nat.eq_zero_or_pos j with rfl | h4
        · exact absurd hcj hc0
        · exact h4
      rw [htk, rtrim_blank] at k3
      have hx32 : (32 : UInt8).toNat = 32 := rfl
      refine G_seq (G_seq (G_region ?_))
      refine Gm ?_
      refine Gm ?_
      refine Gv (V_len rfl rfl) ?_
      refine Gv (V_sub_i64 rfl rfl rfl (by omega) (by omega)) ?_
      refine Gv (V_sidx rfl rfl rfl (by omega) (by assumption)) ?_
      refine Gv (V_eql rfl rfl rfl) ?_
      refine G_end (X_then ?_)
      refine G_cond_t rfl (by kernel_rfl) ?_
      refine G_skip (X_then (G_block (G_region ?_)))
      refine Gm ?_
      refine Gm ?_
      refine Gv (V_len rfl rfl) ?_
      refine Gv (V_sub_i64 rfl rfl rfl (by omega) (by omega)) ?_
      refine Gv (V_front rfl rfl rfl (by omega) (by omega)) ?_
      refine Ga ?_
      refine G_end (X_block (X_then ?_))
      rw [ht2]
      exact G_again j ⟨hj0, by omega, k3⟩ (by omega) ⟨rfl, trivial⟩ rfl rfl
    · have hxn : x.toNat ≠ 32 := fun h => hb (by rw [← UInt8.toNat_inj]; exact h)
      have hr : rtrim c = c.take (j + 1) := by rw [← k3, htk, rtrim_end _ hb]
      rw [hr]
      refine G_seq (G_seq (G_region ?_))
      refine Gm ?_
      refine Gm ?_
      refine Gv (V_len rfl rfl) ?_
      refine Gv (V_sub_i64 rfl rfl rfl (by omega) (by omega)) ?_
      refine Gv (V_sidx rfl rfl rfl (by omega) (by assumption)) ?_
      refine Gv (V_eql rfl rfl rfl) ?_
      refine G_end (X_then ?_)
      refine G_cond_f rfl (decide_eq_false (by omega)) ?_
      refine G_exit (X_then_exit (X_then_exit (X_block_hit (X_then (G_seq (G_region ?_))))))
      refine Gm ?_
      refine Ga ?_
      refine G_end (X_then (G_ret ?_))
      refine G_leaveS (.nil _) (by exact (.cons (.tmp rfl) (.nil))) rfl ?_ ?_
      · exact (.refl _)
      exact ⟨rfl, rfl⟩
  · rw [if_neg h]
    refine CallS.toV (CallS.intro (l := [_]) _ Tryz.func54 rfl Tryz.ntmps54 rfl ?_)
    by_cases h0 : e < 0
    · refine G_seq ?_
      refine G_region ?_
      refine Ga ?_
      refine G_end (X_then (G_seq (G_seq (G_region ?_))))
      refine Gm ?_
      refine Gv (V_lss rfl rfl rfl) ?_
      refine Gm ?_
      refine G.bool_t 6 rfl (decide_eq_true (by omega)) ?_
      refine Gn ?_
      refine Gn ?_
      refine Gv (V_pick_t rfl rfl rfl) ?_
      refine G_end (X_then ?_)
      refine G_cond_t rfl rfl ?_
      refine G_seq (G_region ?_)
      refine Ga ?_
      refine G_end (X_then (G_ret (X_then_ret ?_)))
      refine G_leaveS (.nil _) (by exact (.cons (.tmp rfl) (.nil))) rfl ?_ ?_
      · exact (.refl _)
      exact ⟨(by kernel_rfl), rfl⟩
    · refine G_seq ?_
      refine G_region ?_
      refine Ga ?_
      refine G_end (X_then (G_seq (G_seq (G_region ?_))))
      refine Gm ?_
      refine Gv (V_lss rfl rfl rfl) ?_
      refine Gm ?_
      refine G.bool_f 6 rfl (decide_eq_false (by omega)) ?_
      refine Gy (V_move rfl rfl) ?_
      refine Gy (V_geq rfl rfl rfl) ?_
      refine Gv (V_pick_f rfl rfl rfl) ?_
      refine G_end (X_then ?_)
      refine G_cond_t rfl (decide_eq_true (by omega)) ?_
      refine G_seq (G_region ?_)
      refine Ga ?_
      refine G_end (X_then (G_ret (X_then_ret ?_)))
      refine G_leaveS (.nil _) (by exact (.cons (.tmp rfl) (.nil))) rfl ?_ ?_
      · exact (.refl _)
      exact ⟨(by kernel_rfl), rfl⟩
end
end Go.Proofs.YtjhehanknkonnaaGreatDoor
set_option linter.unusedSimpArgs false
set_option linter.unusedVariables false
set_option maxHeartbeats 2000000
set_option maxRecDepth 20000
namespace Go.Proofs.YtjhehanknkonnaaGreatDoor
open Go.RowKit
section
variable (E : Env) (L : List Res)
end
end Go.Proofs.YtjhehanknkonnaaGreatDoor
set_option linter.unusedSimpArgs false
set_option linter.unusedVariables false
set_option maxHeartbeats 2000000
set_option maxRecDepth 20000
namespace Go.Proofs.YtjhehanknkonnaaGreatDoor
open Go.RowKit
/-! strings.SplitSeq at one byte. -/
section
variable (E : Env) (L : List Res)
end
end Go.Proofs.YtjhehanknkonnaaGreatDoor
namespace Go.Proofs.YtjhehanknkonnaaGreatDoor
open Go.RowKit
/-! Plain: the texts of events. -/
def hexD (n : Nat) : UInt8 := if n < 10 then UInt8.ofNat (48 + n) else UInt8.ofNat (87 + n)
def hexL (s : List UInt8) : List UInt8 := s.flatMap fun b => [hexD (b.toNat / 16), hexD (b.toNat % 16)]
def hexT (s : List UInt8) : List UInt8 := if s = [] then [45] else hexL s
abbrev kindN : List (List UInt8) := [[114, 101, 99, 111, 114, 100], [101, 110, 116, 101, 114], [116, 111, 107, 101, 110], [101, 120, 105, 116], [101, 114, 114, 111, 114], [101, 110, 100], [98, 97, 100]]
def evN (k : Int) : List UInt8 := kindN.getD (k - 1).toNat []
def fieldT (e : Ev) (f : Int) : List UInt8 := if f = 0 then decI e.rc else if f = 1 then decI e.sy else if f = 2 then decI e.pr else if f = 3 then hexT e.tx else if f = 4 then errName e.er else decI e.pl
def wordsE (e : Ev) : List (List UInt8) := evN e.k :: (fieldsK e.k).map (fieldT e)
def evT (e : Ev) : List UInt8 := jnS (wordsE e)
theorem hexL_cons (b : UInt8) (s : List UInt8) : hexL (b :: s) = [hexD (b.toNat / 16), hexD (b.toNat % 16)] ++ hexL s := rfl
theorem hexL_len (s : List UInt8) : (hexL s).length = 2 * s.length := by
  induction s with
  | nil => rfl
  | cons b s ih => rw [hexL_cons, List.length_append, ih]; simp; omega
theorem hexL_snoc (s : List UInt8) (b : UInt8) : hexL (s ++ [b]) = hexL s ++ [hexD (b.toNat / 16), hexD (b.toNat % 16)] := by simp [hexL]
theorem hexT_len (s : List UInt8) : (hexT s).length ≤ 2 * s.length + 1 := by
  unfold hexT
  split
  · simp
  · rw [hexL_len]; omega
theorem errName_fact : ∀ i : Fin 32, (∀ c, c ∈ errName (i.val : Int) → c ≠ 32 ∧ c ≠ 10) ∧ (errName (i.val : Int)).length ≤ 10 := by decide +kernel
theorem decI_len {x : Int} (h : -1 ≤ x ∧ x ≤ 1099511627776) : (decI x).length ≤ 13 := by
  unfold decI
  split
  · have : x = -1 := by omega
    subst this
    decide +kernel
  · exact digN_len 12 _ (by omega)
/-- What a right event is. -/
structure EvOk (e : Ev) : Prop where
  k1 : 1 ≤ e.k
  k7 : e.k ≤ 7
  s0 : -1 ≤ e.sy
  s1 : e.sy < 24
  p0 : 0 ≤ e.pr
  p1 : e.pr < 24
  r0 : 0 ≤ e.rc
  r1 : e.rc ≤ 1099511627776
  l0 : 0 ≤ e.pl
  l1 : e.pl ≤ 1099511627776
  t : e.tx.length ≤ 24
  e0 : 0 ≤ e.er
  e1 : e.er ≤ 26
  fold : (fieldsK e.k).foldl (keepF e) (e.k, 0, 0, 0, 0, [], 0) = e
theorem fieldsK_k {k : Int} (h : fieldsK k ≠ []) : k = 1 ∨ k = 2 ∨ k = 3 ∨ k = 4 ∨ k = 5 ∨ k = 6 ∨ k = 7 := by
  unfold fieldsK at h
  repeat' split at h
  all_goals first | omega | exact absurd rfl h
theorem bad0 {e : Ev} (h : badF e 0 = 0) : cntP e.rc := by
  simp only [badF, if_pos] at h; split at h
  · assumption
  · cases h
theorem bad5 {e : Ev} (h : badF e 5 = 0) : cntP e.pl := by
  have : badF e 5 = if cntP e.pl then 0 else 2 := rfl
  rw [this] at h; split at h
  · assumption
  · cases h
theorem bad1 {e : Ev} (h : badF e 1 = 0) : symP e = true := by
  have : badF e 1 = if symP e = true then 0 else 14 := rfl
  rw [this] at h; split at h
  · assumption
  · cases h
theorem bad2 {e : Ev} (h : badF e 2 = 0) : 0 ≤ e.pr ∧ e.pr < 24 := by
  have : badF e 2 = if 0 ≤ e.pr ∧ e.pr < 24 then 0 else 2 := rfl
  rw [this] at h; split at h
  · assumption
  · cases h
theorem bad3 {e : Ev} (h : badF e 3 = 0) : e.tx.length ≤ 24 := by
  have : badF e 3 = if e.tx.length ≤ 24 then 0 else 4 := rfl
  rw [this] at h; split at h
  · assumption
  · cases h
theorem bad4 {e : Ev} (h : badF e 4 = 0) : errP e = true := by
  have : badF e 4 = if errP e = true then 0 else 11 := rfl
  rw [this] at h; split at h
  · assumption
  · cases h
theorem symP_le {e : Ev} (h : symP e = true) : -1 ≤ e.sy ∧ e.sy < 24 := by
  unfold symP at h
  split at h
  · have := of_decide_eq_true h; simp only [termP] at this; omega
  · split at h
    · have := of_decide_eq_true h; simp only [termP, nontP] at this; omega
    · have := of_decide_eq_true h; simp only [nontP] at this; omega
theorem errP_le {e : Ev} (h : errP e = true) : 0 ≤ e.er ∧ e.er ≤ 26 := by
  unfold errP at h
  repeat' split at h
  all_goals
    have := of_decide_eq_true h
    omega
theorem evOk_mk {k sy pr rc pl : Int} {tx : List UInt8} {er : Int} (k1 : 1 ≤ k) (k7 : k ≤ 7) (s0 : -1 ≤ sy) (s1 : sy < 24) (p0 : 0 ≤ pr) (p1 : pr < 24) (r0 : 0 ≤ rc) (r1 : rc ≤ 1099511627776) (l0 : 0 ≤ pl) (l1 : pl ≤ 1099511627776) (t : tx.length ≤ 24) (e0 : 0 ≤ er) (e1 : er ≤ 26)
    (fold : (fieldsK k).foldl (keepF (k, sy, pr, rc, pl, tx, er)) (k, 0, 0, 0, 0, [], 0) = (k, sy, pr, rc, pl, tx, er)) : EvOk (k, sy, pr, rc, pl, tx, er) := ⟨k1, k7, s0, s1, p0, p1, r0, r1, l0, l1, t, e0, e1, fold⟩
theorem ev_ok {e : Ev} (h : chkE e = 0) : EvOk e := by
  obtain ⟨h1, h2, h3⟩ := chkE_ok.1 h
  obtain ⟨k, sy, pr, rc, pl, tx, er⟩ := e
  have hk : k = 1 ∨ k = 2 ∨ k = 3 ∨ k = 4 ∨ k = 5 ∨ k = 6 ∨ k = 7 := fieldsK_k h1
  rcases hk with rfl | rfl | rfl | rfl | rfl | rfl | rfl
  · have a := bad0 (h2 0 (by show (0 : Int) ∈ fieldsK 1; decide))
    have b := bad5 (h2 5 (by show (5 : Int) ∈ fieldsK 1; decide))
    have e3 : onlyE (1, sy, pr, rc, pl, tx, er) = (1, 0, 0, rc, pl, [], 0) := rfl
    rw [e3] at h3
    simp only [Prod.mk.injEq] at h3
    obtain ⟨_, rfl, rfl, _, _, rfl, rfl⟩ := h3
    exact evOk_mk (by decide) (by decide) (by decide) (by decide) (by decide) (by decide) (a.1) (a.2) (b.1) (b.2) (by decide) (by decide) (by decide) (rfl)
  · have a := symP_le (bad1 (h2 1 (by show (1 : Int) ∈ fieldsK 2; decide)))
    have b := bad2 (h2 2 (by show (2 : Int) ∈ fieldsK 2; decide))
    have c := bad5 (h2 5 (by show (5 : Int) ∈ fieldsK 2; decide))
    have e3 : onlyE (2, sy, pr, rc, pl, tx, er) = (2, sy, pr, 0, pl, [], 0) := rfl
    rw [e3] at h3
    simp only [Prod.mk.injEq] at h3
    obtain ⟨_, _, _, rfl, _, rfl, rfl⟩ := h3
    exact evOk_mk (by decide) (by decide) (a.1) (a.2) (b.1) (b.2) (by decide) (by decide) (c.1) (c.2) (by decide) (by decide) (by decide) (rfl)
  · have a := symP_le (bad1 (h2 1 (by show (1 : Int) ∈ fieldsK 3; decide)))
    have b := bad3 (h2 3 (by show (3 : Int) ∈ fieldsK 3; decide))
    have c := bad5 (h2 5 (by show (5 : Int) ∈ fieldsK 3; decide))
    have e3 : onlyE (3, sy, pr, rc, pl, tx, er) = (3, sy, 0, 0, pl, tx, 0) := rfl
    rw [e3] at h3
    simp only [Prod.mk.injEq] at h3
    obtain ⟨_, _, rfl, rfl, _, _, rfl⟩ := h3
    exact evOk_mk (by decide) (by decide) (a.1) (a.2) (by decide) (by decide) (by decide) (by decide) (c.1) (c.2) (b) (by decide) (by decide) (rfl)
  · have a := symP_le (bad1 (h2 1 (by show (1 : Int) ∈ fieldsK 4; decide)))
    have b := bad2 (h2 2 (by show (2 : Int) ∈ fieldsK 4; decide))
    have e3 : onlyE (4, sy, pr, rc, pl, tx, er) = (4, sy, pr, 0, 0, [], 0) := rfl
    rw [e3] at h3
    simp only [Prod.mk.injEq] at h3
    obtain ⟨_, _, _, rfl, rfl, rfl, rfl⟩ := h3
    exact evOk_mk (by decide) (by decide) (a.1) (a.2) (b.1) (b.2) (by decide) (by decide) (by decide) (by decide) (by decide) (by decide) (by decide) (rfl)
  · have a := symP_le (bad1 (h2 1 (by show (1 : Int) ∈ fieldsK 5; decide)))
    have b := errP_le (bad4 (h2 4 (by show (4 : Int) ∈ fieldsK 5; decide)))
    have c := bad5 (h2 5 (by show (5 : Int) ∈ fieldsK 5; decide))
    have e3 : onlyE (5, sy, pr, rc, pl, tx, er) = (5, sy, 0, 0, pl, [], er) := rfl
    rw [e3] at h3
    simp only [Prod.mk.injEq] at h3
    obtain ⟨_, _, rfl, rfl, _, rfl, _⟩ := h3
    exact evOk_mk (by decide) (by decide) (a.1) (a.2) (by decide) (by decide) (by decide) (by decide) (c.1) (c.2) (by decide) (b.1) (b.2) (rfl)
  · have a := bad0 (h2 0 (by show (0 : Int) ∈ fieldsK 6; decide))
    have b := errP_le (bad4 (h2 4 (by show (4 : Int) ∈ fieldsK 6; decide)))
    have c := bad5 (h2 5 (by show (5 : Int) ∈ fieldsK 6; decide))
    have e3 : onlyE (6, sy, pr, rc, pl, tx, er) = (6, 0, 0, rc, pl, [], er) := rfl
    rw [e3] at h3
    simp only [Prod.mk.injEq] at h3
    obtain ⟨_, rfl, rfl, _, _, rfl, _⟩ := h3
    exact evOk_mk (by decide) (by decide) (by decide) (by decide) (by decide) (by decide) (a.1) (a.2) (c.1) (c.2) (by decide) (b.1) (b.2) (rfl)
  · have b := errP_le (bad4 (h2 4 (by show (4 : Int) ∈ fieldsK 7; decide)))
    have c := bad5 (h2 5 (by show (5 : Int) ∈ fieldsK 7; decide))
    have e3 : onlyE (7, sy, pr, rc, pl, tx, er) = (7, 0, 0, 0, pl, [], er) := rfl
    rw [e3] at h3
    simp only [Prod.mk.injEq] at h3
    obtain ⟨_, rfl, rfl, rfl, _, rfl, _⟩ := h3
    exact evOk_mk (by decide) (by decide) (by decide) (by decide) (by decide) (by decide) (by decide) (by decide) (c.1) (c.2) (by decide) (b.1) (b.2) (rfl)
theorem fieldT_len {e : Ev} (he : EvOk e) (f : Int) : (fieldT e f).length ≤ 49 := by
  have h1 := he.s0
  have h2 := he.s1
  have h3 := he.p0
  have h4 := he.p1
  have h5 := he.r0
  have h6 := he.r1
  have h7 := he.l0
  have h8 := he.l1
  have h9 := he.t
  have h10 := he.e0
  have h11 := he.e1
  unfold fieldT
  split
  · have := decI_len (x := e.rc) (by omega); omega
  split
  · have := decI_len (x := e.sy) (by omega); omega
  split
  · have := decI_len (x := e.pr) (by omega); omega
  split
  · have := hexT_len e.tx; omega
  split
  · obtain ⟨n, hn⟩ : ∃ n : Nat, e.er = n := ⟨e.er.toNat, by omega⟩
    rw [hn]
    have := (errName_fact ⟨n, by omega⟩).2
    simp only at this
    omega
  · have := decI_len (x := e.pl) (by omega); omega
theorem evN_fact : ∀ i : Fin 8, 1 ≤ i.val → (∀ c, c ∈ evN (i.val : Int) → c ≠ 32 ∧ c ≠ 10) ∧ (evN (i.val : Int)).length ≤ 6 := by decide +kernel
theorem evN_no {k : Int} (h : 1 ≤ k ∧ k ≤ 7) : (∀ c, c ∈ evN k → c ≠ 32 ∧ c ≠ 10) ∧ (evN k).length ≤ 6 := by
  obtain ⟨n, rfl⟩ : ∃ n : Nat, k = n := ⟨k.toNat, by omega⟩
  exact evN_fact ⟨n, by omega⟩ (by simp only; omega)
theorem jnS_cons (x y : List UInt8) (l : List (List UInt8)) : jnS (x :: y :: l) = x ++ 32 :: jnS (y :: l) := by simp [jnS]
theorem fieldsK_len (k : Int) : (fieldsK k).length ≤ 3 := by
  unfold fieldsK
  repeat' split
  all_goals simp
theorem jnS_len : ∀ (l : List (List UInt8)) (m : Nat), (∀ w, w ∈ l → w.length ≤ m) → (jnS l).length ≤ (m + 1) * l.length := by
  intro l
  induction l with
  | nil => intro m _; simp [jnS]
  | cons x l ih =>
    intro m h
    have hx := h x (.head _)
    have hi := ih m (fun w hw => h w (.tail _ hw))
    cases l with
    | nil => simp [jnS]; omega
    | cons y l =>
      rw [jnS_cons]
      simp only [List.length_append, List.length_cons] at hi ⊢
      rw [Nat.mul_add (m + 1) (l.length + 1) 1]
      omega
theorem evT_len {e : Ev} (he : EvOk e) : (evT e).length ≤ 200 := by
  have h1 := jnS_len (wordsE e) 49 (fun w hw => by
    rcases List.mem_cons.1 hw with rfl | hw
    · have := (evN_no ⟨he.k1, he.k7⟩).2; omega
    · obtain ⟨f, _, rfl⟩ := List.mem_map.1 hw
      exact fieldT_len he f)
  have h2 : (wordsE e).length ≤ 4 := by
    unfold wordsE
    have := fieldsK_len e.k
    simp; omega
  unfold evT
  omega
theorem fieldsK_mem {k f : Int} (h : f ∈ fieldsK k) : 0 ≤ f ∧ f ≤ 5 := by
  unfold fieldsK at h
  repeat' split at h
  all_goals simp at h
  all_goals omega
end Go.Proofs.YtjhehanknkonnaaGreatDoor
