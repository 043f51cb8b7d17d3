import Derived.Test.YtaoinojdijbhaaaSep19
import Derived.Test.YtaoinojdijbhaaaSep20
import Derived.Test.YtaoinojdijbhaaaSep21
import Derived.Test.YtaoinojdijbhaaaSep22
import Derived.Test.YtaoinojdijbhaaaSep23
import Derived.Test.YtaoinojdijbhaaaSep24
import Derived.Test.YtaoinojdijbhaaaInst
import Derived.Test.YtaoinojdijbhaaaD7
import Derived.Test.YtaoinojdijbhaaaD8
set_option linter.unusedSimpArgs false
set_option linter.unusedVariables false
set_option maxHeartbeats 2000000
set_option maxRecDepth 20000
namespace Go.Proofs.Ytaoinojdijbhaaa
open Go.RowKit
theorem gcheck_ok {g : Gr} (h : gcheck g = 0) : (1 ≤ g.k ∧ g.k ≤ 4) ∧ fullB g = false ∧ shortB g = false ∧ smallsB g = true ∧ dupB (g.toks ++ [g.sep] ++ g.names) = false ∧ symB g = true ∧ ordsB g.prods = true ∧ compB g = true := by
  have h4 : ¬ (12 : Int) = 0 := by decide
  simp only [gcheck, gc0, gc1, gc2, gc3, gc4, gc5] at h
  split at h
  · omega
  split at h
  · omega
  split at h
  · omega
  split at h
  · split at h
    · omega
    split at h
    · split at h
      · split at h
        · simp_all
        · omega
      · omega
    · omega
  · omega
structure Valid (g : Gr) : Prop where
  wf : Wf g.prods g.names.length
  start : 16 ≤ g.start ∧ g.start < 16 + g.names.length
  syms : ∀ p, p ∈ g.prods → ∀ s, s ∈ p.2 → (0 ≤ s ∧ s < g.toks.length) ∨ (16 ≤ s ∧ s < 16 + g.names.length)
  toks : 1 ≤ g.toks.length ∧ g.toks.length ≤ 8
  names : 1 ≤ g.names.length ∧ g.names.length ≤ 8
  prods : g.prods.length ≤ 24
  right : ∀ p, p ∈ g.prods → p.2.length ≤ 6
theorem valid_of {g : Gr} (h : gcheck g = 0) : Valid g := by
  obtain ⟨_, h1, h2, _, _, h5, _, _⟩ := gcheck_ok h
  simp only [fullB, Bool.or_eq_false_iff, decide_eq_false_iff_not, List.any_eq_false, decide_eq_true_eq] at h1
  simp only [shortB, Bool.or_eq_false_iff, decide_eq_false_iff_not] at h2
  simp only [symB, ntB, termB, Bool.and_eq_true, decide_eq_true_eq, List.all_eq_true, Bool.not_eq_true', List.any_eq_false, Bool.and_eq_false_iff] at h5
  obtain ⟨hs, hp⟩ := h5
  have hsy : ∀ p, p ∈ g.prods → ∀ s, s ∈ p.2 → (0 ≤ s ∧ s < g.toks.length) ∨ (16 ≤ s ∧ s < 16 + (g.names.length : Int)) := by
    intro p hp1 s hs1
    have := (hp p hp1).2 s hs1
    simp at this
    omega
  have hn : g.names.length ≠ 0 := fun e => h2.2 (by simpa using e)
  have ht : g.toks.length ≠ 0 := fun e => h2.1 (by simpa using e)
  refine ⟨⟨by omega, fun p h => (hp p h).1, fun p h => ?_, fun p h s hs => ?_⟩, hs, hsy, by omega, by omega, by omega, fun p h => ?_⟩
  · have := h1.2 p h; omega
  · have := hsy p h s hs; omega
  · have := h1.2 p h; omega
def okL {α : Type} (g : Gr) (l : List α) : List α := if gcheck g = 0 then l else []
theorem okL_pos {α : Type} {g : Gr} (h : gcheck g = 0) (l : List α) : okL g l = l := if_pos h
theorem okL_neg {α : Type} {g : Gr} (h : gcheck g ≠ 0) (l : List α) : okL g l = [] := if_neg h
def encR (o : Int) : Option Nat → Int
  | none => o
  | some c => c
def yieldsM (g : Gr) : List Bool := gen g.prods g.names.length true
def nullM (g : Gr) : List Bool := gen g.prods g.names.length false
def reachM (g : Gr) : List Bool := reachL g.prods g.names.length g.start
def lengthsM (g : Gr) : List Int := (best g.prods g.names.length (some 1) 0).map (encR (-1))
def treesM (g : Gr) : List Int := (best g.prods g.names.length none 1).map (encR 0)
theorem small_none (own : Nat) (h : own ≤ 1) : Small none own := ⟨fun k hk => (by cases hk), h⟩
theorem small_one (k own : Nat) (hk : k ≤ 1) (h : own ≤ 1) : Small (some k) own := ⟨fun j hj => by rw [Option.some.inj hj.symm]; exact hk, h⟩
theorem which_enc {f : Tab} (hf : ∀ c, some c ∈ f → c ≤ 1099511627776) : (f.map encC).map (fun c => decide (c ≠ 9223372036854775807)) = f.map Option.isSome := by
  rw [List.map_map]
  refine List.map_congr_left fun x hx => ?_
  cases x with
  | none => rfl
  | some c =>
    have := hf c hx
    show decide ((c : Int) ≠ 9223372036854775807) = true
    exact decide_eq_true (by omega)
theorem chosen_enc {f : Tab} (o : Int) (hf : ∀ c, some c ∈ f → c ≤ 1099511627776) : (f.map encC).map (fun c => if c = 9223372036854775807 then o else c) = f.map (encR o) := by
  rw [List.map_map]
  refine List.map_congr_left fun x hx => ?_
  cases x with
  | none => rfl
  | some c =>
    have := hf c hx
    show (if (c : Int) = 9223372036854775807 then o else (c : Int)) = c
    rw [if_neg (by omega)]
theorem best_mem {ps : List Pr} {n : Nat} {t : Option Nat} {own : Nat} (hw : Wf ps n) (hs : Small t own) {c : Nat} (h : some c ∈ best ps n t own) : c ≤ 1099511627776 := by
  obtain ⟨i, hi, he⟩ := List.getElem_of_mem h
  refine best_le hw hs (s := 16 + i) ?_
  have e : ((16 : Int) + i - 16).toNat = i := by omega
  rw [tget, e, List.getElem?_eq_getElem hi, he]; rfl
theorem yieldsM_len {g : Gr} (h : Valid g) : (yieldsM g).length = g.names.length := gen_len h.wf
theorem nullM_len {g : Gr} (h : Valid g) : (nullM g).length = g.names.length := gen_len h.wf
theorem lengthsM_len {g : Gr} (h : Valid g) : (lengthsM g).length = g.names.length := by rw [lengthsM, List.length_map, (best_least h.wf (small_one 1 0 (by decide) (by decide))).len]
theorem treesM_len {g : Gr} (h : Valid g) : (treesM g).length = g.names.length := by rw [treesM, List.length_map, (best_least h.wf (small_none 1 (by decide))).len]
theorem reachM_len {g : Gr} (h : Valid g) : (reachM g).length = g.names.length := reachL_len h.wf h.start.1 h.start.2
theorem yields_which {g : Gr} (h : Valid g) : ((best g.prods g.names.length (some 0) 0).map encC).map (fun c => decide (c ≠ 9223372036854775807)) = yieldsM g :=
  which_enc fun _ hc => best_mem h.wf (small_one 0 0 (by decide) (by decide)) hc
theorem null_which {g : Gr} (h : Valid g) : ((best g.prods g.names.length none 1).map encC).map (fun c => decide (c ≠ 9223372036854775807)) = nullM g := by
  rw [which_enc fun _ hc => best_mem h.wf (small_none 1 (by decide)) hc]
  exact best_some h.wf (small_none 1 (by decide)) (small_none 0 (by decide)) rfl
theorem lengths_chosen {g : Gr} (h : Valid g) : ((best g.prods g.names.length (some 1) 0).map encC).map (fun c => if c = 9223372036854775807 then -1 else c) = lengthsM g :=
  chosen_enc _ fun _ hc => best_mem h.wf (small_one 1 0 (by decide) (by decide)) hc
theorem trees_chosen {g : Gr} (h : Valid g) : ((best g.prods g.names.length none 1).map encC).map (fun c => if c = 9223372036854775807 then 0 else c) = treesM g :=
  chosen_enc _ fun _ hc => best_mem h.wf (small_none 1 (by decide)) hc
section
variable (E : Env) (L : List Res)
theorem costs_call' (gv : Value) (g : Gr) (hg : GrE E gv g) (hl : Light g) (hw : Wf g.prods g.names.length) :
    CallS Try.prog 81 #[gv, .int .i64 0, .int .i64 0] E L (fun r E' L' => ∃ b, r = .slice (some ⟨b, 0, none⟩) g.names.length g.names.length ∧ SlE E' 1 (some ⟨b, 0, none⟩) g.names.length (i64s ((best g.prods g.names.length (some 0) 0).map encC)) ∧ L' = L) :=
  costs_call E L gv g hg hl (some 0) 0 hw (small_one 0 0 (by decide) (by decide))
theorem costs_calln (gv : Value) (g : Gr) (hg : GrE E gv g) (hl : Light g) (hw : Wf g.prods g.names.length) :
    CallS Try.prog 81 #[gv, .int .i64 1, .int .i64 9223372036854775807] E L (fun r E' L' => ∃ b, r = .slice (some ⟨b, 0, none⟩) g.names.length g.names.length ∧ SlE E' 1 (some ⟨b, 0, none⟩) g.names.length (i64s ((best g.prods g.names.length none 1).map encC)) ∧ L' = L) :=
  costs_call E L gv g hg hl none 1 hw (small_none 1 (by decide))
theorem costs_call1 (gv : Value) (g : Gr) (hg : GrE E gv g) (hl : Light g) (hw : Wf g.prods g.names.length) :
    CallS Try.prog 81 #[gv, .int .i64 0, .int .i64 1] E L (fun r E' L' => ∃ b, r = .slice (some ⟨b, 0, none⟩) g.names.length g.names.length ∧ SlE E' 1 (some ⟨b, 0, none⟩) g.names.length (i64s ((best g.prods g.names.length (some 1) 0).map encC)) ∧ L' = L) :=
  costs_call E L gv g hg hl (some 1) 0 hw (small_one 1 0 (by decide) (by decide))
end
end Go.Proofs.Ytaoinojdijbhaaa
