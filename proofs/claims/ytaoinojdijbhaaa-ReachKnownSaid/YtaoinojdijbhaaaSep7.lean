/-
  The layer's rules for structs.
-/
import Derived.Test.YtaoinojdijbhaaaSep6
namespace Go.Proofs.Ytaoinojdijbhaaa
open Go.RowKit

/-- Where a struct's fields lie: first cell, number of cells. -/
class Places (P : Program) (t : TypeId) (pl : outParam (List (Nat × Nat))) : Prop where
  pl : ∃ fields, P.underlying t = some (.struct fields) ∧ ∀ w, (fields.mapM (m := Sem) fun f => do pure (f.offset, ← sizeOf f.type)).run P w = .ok pl.toArray w
/-- A struct's field i. -/
class Fld (P : Program) (t : TypeId) (i : Nat) (off : outParam Nat) (ft : outParam TypeId) : Prop where
  fld : ∃ fields f, P.underlying t = some (.struct fields) ∧ fields[i]? = some f ∧ f.offset = off ∧ f.type = ft

def setL : List Value → Nat → Value → List Value
  | [], _, _ => []
  | _ :: l, 0, v => v :: l
  | x :: l, n + 1, v => x :: setL l n v
def setLs : List Value → Nat → List Value → List Value
  | l, _, [] => l
  | l, off, v :: vs => setLs (setL l off v) (off + 1) vs
def fillV (pl : List (Nat × Nat)) : List Value → List (Nat × Value) → Option (List Value)
  | l, [] => some l
  | l, (i, v) :: r => match pl[i]? with
    | some (off, sz) => if v.cells.size = sz ∧ off + sz ≤ l.length then fillV pl (setLs l off v.cells.toList) r else none
    | none => none

theorem setL_eq (l : List Value) (n : Nat) (v : Value) : setL l n v = l.set n v := by
  induction l generalizing n with
  | nil => rfl
  | cons x l ih => cases n with
    | zero => rfl
    | succ n => simp [setL, ih]

theorem foldl_set (vs : List Value) : ∀ (l : List Value) (off k : Nat), ((vs.zipIdx k).foldl (fun (cs : Array Value) (p : Value × Nat) => cs.setIfInBounds (off + p.2) p.1) l.toArray) = (setLs l (off + k) vs).toArray := by
  induction vs with
  | nil => intro l off k; rfl
  | cons v vs ih =>
    intro l off k
    simp only [List.zipIdx_cons, List.foldl_cons, setLs]
    rw [show (l.toArray.setIfInBounds (off + k) v) = (setL l (off + k) v).toArray by rw [setL_eq]; simp, ih]
    rw [Nat.add_assoc]

theorem fill_of {pl : List (Nat × Nat)} : ∀ (ps : List (Nat × Value)) (l cells : List Value), fillV pl l ps = some cells → Instr.fill (pl.toArray[·]?) l.toArray ps = some cells.toArray := by
  intro ps
  induction ps with
  | nil => intro l cells h; simp only [fillV, Option.some.injEq] at h; subst h; rfl
  | cons p ps ih =>
    obtain ⟨i, v⟩ := p
    intro l cells h
    simp only [fillV] at h
    split at h
    · rename_i off sz hp
      split at h
      · rename_i hc
        simp only [Instr.fill, List.getElem?_toArray, hp]
        have : ¬ ((decide (v.cells.size ≠ sz) || decide (off + v.cells.size > l.toArray.size)) = true) := by
          simp; omega
        rw [if_neg (by simpa using this)]
        have e := foldl_set v.cells.toList l off 0
        have h2 : (v.cells.zipIdx.foldl (fun cs (p : Value × Nat) => cs.setIfInBounds (off + p.2) p.1) l.toArray) = (setLs l off v.cells.toList).toArray := by
          rw [← Array.foldl_toList, Array.toList_zipIdx]; exact e
        rw [show (Array.foldl (fun cs x => match x with | (c, j) => cs.setIfInBounds (off + j) c) l.toArray v.cells.zipIdx) = (setLs l off v.cells.toList).toArray from h2]
        have := ih _ _ h
        simpa only [List.getElem?_toArray] using this
      · cases h
    · cases h

section rules
variable {P : Program} {ro : Option Nat} {n : Nat} {ds : List Deferred} {fs : List (Nat × Value)} {E : Env} {L : List Res} {ops : Array Oper} {Q : Exit → Act → World → Prop} {rest : List Oper} {o : Oper}

def evps (fs : List (Nat × Value)) : List (Nat × Operand) → Option (List (Nat × Value))
  | [] => some []
  | (i, x) :: r => match ev fs x, evps fs r with
    | some v, some vs => some ((i, v) :: vs)
    | _, _ => none
theorem evps_eval {a : Act} (ha : Fr n ds fs a) : ∀ (ps : List (Nat × Operand)) (vs : List (Nat × Value)), evps fs ps = some vs → ps.map (fun p => (p.1, a.eval p.2)) = vs := by
  intro ps
  induction ps with
  | nil => intro vs h; simp [evps] at h; subst h; rfl
  | cons p ps ih =>
    obtain ⟨i, x⟩ := p
    intro vs h
    simp only [evps] at h
    split at h
    · rename_i v vs' h1 h2
      cases h
      simp [ha.eval h1, ih _ h2]
    · cases h

theorem V_build {t : TypeId} {pl : List (Nat × Nat)} {zc : List Value} [hp : Places P t pl] [hz : Zero P t (.agg zc.toArray) zc.toArray] {ps : List (Nat × Operand)} {vs : List (Nat × Value)} {cells : List Value} (ho : o.op = .build t ps.toArray)
    (hx : evps fs ps = some vs) (hf : fillV pl zc vs = some cells) : Val P o fs E L (.agg cells.toArray) :=
  ⟨(by rw [ho]; intro c h; cases h), fun n ds a w ha _ => by
    obtain ⟨fields, h1, h2⟩ := hp.pl
    have e1 := evps_eval ha ps vs hx
    have e2 := fill_of vs zc cells hf
    have e3 : ((ps.toArray.map fun (i, x) => (i, a.eval x)) : Array (Nat × Value)) = vs.toArray := by
      rw [← e1]; simp
    simp only [execOp, ho, e3]
    simp only [Instr.build, Sem.run_bind, hz.zv, Result.andThen, run_underlying h1, h2, hz.zc, e2, Sem.run_pure]⟩

theorem V_field {t ft : TypeId} {x : Operand} {i off : Nat} {d : TypeDesc} {sz : Nat} [hf : Fld P t i off ft] [hft : Ty P ft d sz false] {cs : Array Value} {v : Value} (ho : o.op = .field t x i) (hx : ev fs x = some (.agg cs)) (hv : cs.toList[off]? = some v) : Val P o fs E L v :=
  ⟨(by rw [ho]; intro c h; cases h), fun n ds a w ha _ => by
    have hv' : cs[off]? = some v := by simpa using hv
    obtain ⟨fields, f, h1, h2, rfl, rfl⟩ := hf.fld
    simp only [execOp, ho, ha.eval hx]
    simp [Instr.field, run_underlying h1, h2, part, hft.agg', asAgg, hv']⟩
theorem V_fieldA {t ft : TypeId} {x : Operand} {i off : Nat} {d : TypeDesc} {sz : Nat} [hf : Fld P t i off ft] [hft : Ty P ft d sz true] {cs : Array Value} {vs : List Value} (ho : o.op = .field t x i) (hx : ev fs x = some (.agg cs)) (hv : (cs.toList.drop off).take sz = vs) : Val P o fs E L (.agg vs.toArray) :=
  ⟨(by rw [ho]; intro c h; cases h), fun n ds a w ha _ => by
    obtain ⟨fields, f, h1, h2, rfl, rfl⟩ := hf.fld
    simp only [execOp, ho, ha.eval hx]
    have e : cs.extract f.offset (f.offset + sz) = vs.toArray := by
      apply Array.toList_inj.1
      rw [Array.toList_extract, List.extract_eq_take_drop, ← hv]; simp
    simp [Instr.field, run_underlying h1, h2, part, hft.agg', asAgg, hft.size, e]⟩
theorem V_fieldAddr {t ft : TypeId} {x : Operand} {i off b o' : Nat} {d : TypeDesc} {sz : Nat} {ag : Bool} [hf : Fld P t i off ft] [hft : Ty P ft d sz ag] (ho : o.op = .fieldAddr t x i) (hx : ev fs x = some (.pointer (some ⟨b, o', none⟩))) (hs : sz ≠ 0) : Val P o fs E L (.pointer (some ⟨b, o' + off, none⟩)) :=
  ⟨(by rw [ho]; intro c h; cases h), fun n ds a w ha _ => by
    obtain ⟨fields, f, h1, h2, rfl, rfl⟩ := hf.fld
    simp only [execOp, ho, ha.eval hx]
    simp [Instr.fieldAt, run_underlying h1, h2, Instr.sureAddr, fieldPlace, hft.size, hs, addr_add]⟩
theorem V_nilCheck {x : Operand} {p : Addr} (ho : o.op = .nilCheck x) (hx : ev fs x = some (.pointer (some p))) : Val P o fs E L (.pointer (some p)) :=
  ⟨(by rw [ho]; intro c h; cases h), fun n ds a w ha _ => by simp [execOp, ho, ha.eval hx]⟩
end rules

/-! A test, decided. -/
section
variable {P : Program} {ro : Option Nat} {n : Nat} {ds : List Deferred} {fs : List (Nat × Value)} {E : Env} {L : List Res} {X : Act → World → Prop}
theorem G.bool_t (i : Nat) {b : Bool} (hi : look fs i = some (.bool b)) (hb : b = true) (h : G n ds ((i, .bool true) :: fs) E L X) : G n ds fs E L X := G.bool i hi (fun _ => h) (fun e => by rw [hb] at e; cases e)
theorem G.bool_f (i : Nat) {b : Bool} (hi : look fs i = some (.bool b)) (hb : b = false) (h : G n ds ((i, .bool false) :: fs) E L X) : G n ds fs E L X := G.bool i hi (fun e => by rw [hb] at e; cases e) (fun _ => h)
theorem Q_bool_t (i : Nat) {Y : Act → Prop} {b : Bool} (hi : look fs i = some (.bool b)) (hb : b = true) (h : GQ n ds ((i, .bool true) :: fs) Y) : GQ n ds fs Y := Q_bool i hi (fun _ => h) (fun e => by rw [hb] at e; cases e)
theorem Q_bool_f (i : Nat) {Y : Act → Prop} {b : Bool} (hi : look fs i = some (.bool b)) (hb : b = false) (h : GQ n ds ((i, .bool false) :: fs) Y) : GQ n ds fs Y := Q_bool i hi (fun e => by rw [hb] at e; cases e) (fun _ => h)
end
end Go.Proofs.Ytaoinojdijbhaaa
