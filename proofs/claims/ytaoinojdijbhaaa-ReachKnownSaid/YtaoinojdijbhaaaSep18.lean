/-
  A slice that came in, opened as a list of models of its elements.
-/
import Derived.Test.YtaoinojdijbhaaaSep11
import Derived.ChangeArms
import Derived.ChangeShapes
import Derived.WideShapes
namespace Go.Proofs.Ytaoinojdijbhaaa
open Go.RowKit Go.WideShapes Go.ChangeShapes

theorem flatMap_one {α β : Type} (f : α → β) (l : List α) : l.flatMap (fun x => [f x]) = l.map f := by
  induction l with
  | nil => rfl
  | cons a l ih => simp [ih]
theorem SlE.snoc {E : Env} {sz n : Nat} {p : Addr} {vs us : List Value} (h : SlE E sz (some p) n vs) (hu : us.length = sz) (hp : p.spot = none) (hc : ∀ j v, us[j]? = some v → E.cell (p.add (n * sz + j)) = some v) : SlE E sz (some p) (n + 1) (vs ++ us) := by
  obtain ⟨hl, h2⟩ := h
  refine ⟨by rw [List.length_append, hl, hu, Nat.succ_mul], .inr ⟨p, rfl, .inl hp, fun j v hj => ?_⟩⟩
  by_cases hj1 : j < vs.length
  · rw [List.getElem?_append_left hj1] at hj
    rcases h2 with ⟨h3, _⟩ | ⟨q, h3, _, h5⟩
    · cases h3
    · cases h3; exact h5 j v hj
  · rw [List.getElem?_append_right (by omega)] at hj
    have := hc (j - vs.length) v hj
    rwa [hl, show n * sz + (j - n * sz) = j by omega] at this

variable {H : Type} {enc : TypeId × Value → H} {P : Program} {W : World} {sp : Nat → Bool} {held : Bool}

theorem open_sl {α : Type} (f : α → List Value) (good : α → Prop) {t e : TypeId} (ht : P.underlying t = some (.slice e)) (hpos : 0 < P.cellsOf e)
    (hf : ∀ m cs y, DataW.trod enc P W 0 sp held m e cs = some y → ∃ x, cs = f x ∧ good x) (hlen : ∀ x, (f x).length = P.cellsOf e)
    {fuel : Nat} {cs : List Value} {x : DataW H × List MemPlace} (hd : DataW.trod enc P W 0 sp held fuel t cs = some x) :
    ∃ a c, ∃ xs : List α, cs = [.slice a xs.length c] ∧ SlE (Env.of W) (P.cellsOf e) a xs.length (xs.flatMap f) ∧ (∀ x, x ∈ xs → good x) ∧ xs.length ≤ c ∧ c ≤ maxLen := by
  rcases DataW.trod_slice ht hd with ⟨h1, _⟩ | ⟨a, len, cap, elems, rest, n, _, rfl, _, _, hl, hm, hlen2, hel, _, _⟩
  · exact ⟨none, 0, [], h1, SlE.nil, by simp, Nat.zero_le _, Nat.zero_le _⟩
  · have each : ∀ k, k < len → ∃ x, good x ∧ ∀ j v, (f x)[j]? = some v → W.cell? (a.add (k * P.cellsOf e + j)) = some v := by
      intro k hk
      have h4 := hel k hk
      rw [List.getElem?_eq_getElem (by omega : k < elems.length), Option.bind_eq_some_iff] at h4
      obtain ⟨cs, h5, h6⟩ := h4
      obtain ⟨x, rfl, hx⟩ := hf _ _ _ h6
      obtain ⟨_, _, h7⟩ := World.cells?_some h5
      refine ⟨x, hx, fun j v hj => ?_⟩
      have hj1 : j < P.cellsOf e := by rw [← hlen x]; exact (List.getElem?_eq_some_iff.1 hj).1
      have := h7 j hj1
      rwa [hj, Addr.add_add] at this
    have hspot : 0 < len → a.spot = none := by
      intro h0
      obtain ⟨x, _, hc⟩ := each 0 h0
      have h8 : 0 < (f x).length := by rw [hlen]; exact hpos
      have := hc 0 _ (List.getElem?_eq_getElem h8)
      rw [Nat.zero_mul, Nat.add_zero] at this
      have := World.cell?_spot this
      simpa [Addr.add] using this
    have key : ∀ k, k ≤ len → ∃ xs : List α, xs.length = k ∧ SlE (Env.of W) (P.cellsOf e) (some a) k (xs.flatMap f) ∧ ∀ x, x ∈ xs → good x := by
      intro k
      induction k with
      | zero => intro _; exact ⟨[], rfl, ⟨by simp, .inr ⟨a, rfl, .inr rfl, fun j v hj => by simp at hj⟩⟩, by simp⟩
      | succ k ih =>
        intro hk
        obtain ⟨xs, h1, h2, h3⟩ := ih (by omega)
        obtain ⟨x, hx, hcell⟩ := each k (by omega)
        refine ⟨xs ++ [x], by simp [h1], ?_, ?_⟩
        · rw [List.flatMap_append]
          exact SlE.snoc h2 (by simp [hlen]) (hspot (by omega)) (fun j v hj => hcell j v (by simpa using hj))
        · intro y hy
          rcases List.mem_append.1 hy with h | h
          · exact h3 y h
          · rw [List.mem_singleton.1 h]; exact hx
    obtain ⟨xs, h1, h2, h3⟩ := key len (Nat.le_refl _)
    subst h1
    exact ⟨some a, cap, xs, rfl, h2, h3, hl, hm⟩

theorem open_i64s {t e : TypeId} {fuel : Nat} {cs : List Value} {x : DataW H × List MemPlace} (ht : P.underlying t = some (.slice e)) (he : P.underlying e = some (.int .i64)) (hc : P.cellsOf e = 1) (hd : DataW.trod enc P W 0 sp held fuel t cs = some x) :
    ∃ a c, ∃ xs : List Int, cs = [.slice a xs.length c] ∧ SlE (Env.of W) 1 a xs.length (xs.map fun n => .int .i64 n) ∧ (∀ n, n ∈ xs → -9223372036854775808 ≤ n ∧ n ≤ 9223372036854775807) ∧ xs.length ≤ 9223372036854775807 := by
  obtain ⟨a, c, xs, h1, h2, h3, h4, h5⟩ := open_sl (fun n : Int => [.int .i64 n]) (fun n => (Lit.int .i64 n).wf = true) ht (by omega)
    (fun m cs y h => by obtain ⟨n, h1, _, h3⟩ := DataW.trod_int he h; exact ⟨n, h1, h3⟩) (fun _ => hc.symm) hd
  rw [hc, show (xs.flatMap fun n : Int => [Value.int .i64 n]) = xs.map fun n => .int .i64 n from flatMap_one _ _] at h2
  exact ⟨a, c, xs, h1, h2, fun n hn => wf_i64 (h3 n hn), by simp only [maxLen] at h5; omega⟩

theorem open_u64s {t e : TypeId} {fuel : Nat} {cs : List Value} {x : DataW H × List MemPlace} (ht : P.underlying t = some (.slice e)) (he : P.underlying e = some (.int .u64)) (hc : P.cellsOf e = 1) (hd : DataW.trod enc P W 0 sp held fuel t cs = some x) :
    ∃ a c, ∃ xs : List Nat, cs = [.slice a xs.length c] ∧ SlE (Env.of W) 1 a xs.length (u64s xs) ∧ (∀ n, n ∈ xs → n < 18446744073709551616) ∧ xs.length ≤ 9223372036854775807 := by
  obtain ⟨a, c, xs, h1, h2, h3, h4, h5⟩ := open_sl (fun n : Nat => [.int .u64 (n : Int)]) (fun n => n < 18446744073709551616) ht (by omega)
    (fun m cs y h => by obtain ⟨n, h1, _, h3⟩ := DataW.trod_int he h; obtain ⟨k, rfl, hk⟩ := wf_u64 h3; exact ⟨k, h1, hk⟩) (fun _ => hc.symm) hd
  rw [hc, show (xs.flatMap fun n : Nat => [Value.int .u64 (n : Int)]) = u64s xs from flatMap_one _ _] at h2
  exact ⟨a, c, xs, h1, h2, h3, by simp only [maxLen] at h5; omega⟩

theorem open_texts {t e : TypeId} {fuel : Nat} {cs : List Value} {x : DataW H × List MemPlace} (ht : P.underlying t = some (.slice e)) (he : P.underlying e = some .string) (hc : P.cellsOf e = 1) (hd : DataW.trod enc P W 0 sp held fuel t cs = some x) :
    ∃ a c, ∃ xs : List (List UInt8), cs = [.slice a xs.length c] ∧ SlE (Env.of W) 1 a xs.length (xs.map fun s => .string (S s)) ∧ (∀ s, s ∈ xs → s.length ≤ 9223372036854775807) ∧ xs.length ≤ 9223372036854775807 := by
  obtain ⟨a, c, xs, h1, h2, h3, h4, h5⟩ := open_sl (fun s : List UInt8 => [.string (S s)]) (fun s => s.length ≤ 9223372036854775807) ht (by omega)
    (fun m cs y h => by obtain ⟨s, h1, _, h3⟩ := DataW.trod_string he h; exact ⟨s.data.toList, h1, by have : s.data.toList.length = s.size := rfl; simp only [maxLen] at h3; omega⟩) (fun _ => hc.symm) hd
  rw [hc, show (xs.flatMap fun s : List UInt8 => [Value.string (S s)]) = xs.map fun s => .string (S s) from flatMap_one _ _] at h2
  exact ⟨a, c, xs, h1, h2, h3, by simp only [maxLen] at h5; omega⟩

/-! A struct that came in, field by field. -/
theorem struct_field {t : TypeId} {fs : Array Field} {fuel : Nat} {cs : List Value} {x : DataW H × List MemPlace} (ht : P.underlying t = some (.struct fs)) (h : DataW.trod enc P W 0 sp held fuel t cs = some x) (i : Nat) (u : TypeId) (o c : Nat) (hf : (fs[i]?).map (fun f => (f.type, f.offset)) = some (u, o)) (hc : P.cellsOf u = c) :
    ∃ n y, DataW.trod enc P W 0 sp held n u ((cs.drop o).take c) = some y := by
  obtain ⟨xs, n, _, _, _, hl, h1⟩ := DataW.trod_struct ht h
  rw [Option.map_eq_some_iff] at hf
  obtain ⟨f, hf, e⟩ := hf
  cases e
  subst hc
  have hi : i < xs.length := by rw [hl]; exact (Array.getElem?_eq_some_iff.1 hf).1
  exact ⟨n, xs[i], by rw [h1 i f hf, List.getElem?_eq_getElem hi]⟩
theorem list_cons {α : Type} {l : List α} {n : Nat} (h : l.length = n + 1) : ∃ a r, l = a :: r ∧ r.length = n := by
  cases l with
  | nil => simp at h
  | cons a r => exact ⟨a, r, rfl, by simpa using h⟩
theorem arr_cells {n : Nat} {cs : Array Value} (h : cs.size = n) : ∃ l : List Value, cs = l.toArray ∧ l.length = n := ⟨cs.toList, by simp, by simpa using h⟩
end Go.Proofs.Ytaoinojdijbhaaa
