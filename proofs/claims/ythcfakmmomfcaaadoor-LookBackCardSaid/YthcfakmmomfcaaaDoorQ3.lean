/-
  Rules and contracts, packed: Sep23, Sep24, Sep30, Inst, K1, Sep25, Sep27, Sep28.
-/
import Derived.ChangeKeysEq
import Derived.Test.YthcfakmmomfcaaaDoorProg
import Derived.Lib.Builder
import Derived.Lib.AppendStr
import Derived.Lib.UnsafeStr
import Derived.Lib.Bytealg
import Derived.Laws.Externs
import Derived.Lib.ConvBytes
import Derived.Laws.Runes
import Derived.Test.YthcfakmmomfcaaaDoorQ2
set_option maxHeartbeats 1000000
set_option linter.unusedSimpArgs false
set_option linter.unusedVariables false
set_option linter.unusedSectionVars false
namespace Go.Proofs.YthcfakmmomfcaaaDoor
open Go.RowKit

theorem St.conv {E : Env} {L : List Res} {r r' : Res} {w : World} (h : St E (r :: L) w) (hi : r'.ids = r.ids) (hok : r'.ok (fun b => w.heap[b]?)) : St E (r' :: L) w :=
  ⟨h.env, fun x hx => by rcases List.mem_cons.1 hx with rfl | hx; exact hok; exact h.own x (.tail _ hx), by simpa [hi] using h.nodup, fun b hb => h.apart b (by simpa [hi] using hb), h.os, h.out, h.tape⟩

theorem slOk.fresh {w : World} {e : TypeId} {sz k c : Nat} {xs r : List Value} (hl : xs.length = k * sz) (hk : k ≤ c) (hc : c ≤ maxLen) (hr : r.length = (c - k) * sz) :
    slOk e sz (some ⟨w.heap.size, 0, none⟩) k c xs (fun b => (w.alloc (.cells (xs ++ r).toArray e)).heap[b]?) :=
  ⟨hl, .inr ⟨w.heap.size, _, rfl, World.alloc_heap_new w _, hk, hc, by simp only [List.size_toArray, List.length_append, hl, hr, ← Nat.add_mul]; congr 1; omega, by simp [← hl]⟩⟩

theorem run_append_own2 {P : Program} {w : World} {t ty e : TypeId} {z : Value} {sz bytes : Nat} (ht : P.underlying t = some (.slice e)) (hi : Inf P e z sz bytes)
    {g k cap : Nat} {xs : List Value} (hok : slOk e sz (some ⟨g, 0, none⟩) k cap xs (fun b => w.heap[b]?)) {a2 : Option Addr} {m c : Nat} {ys : List Value} (hl : ys.length = m * sz)
    (hy : (a2 = none ∧ m = 0) ∨ ∃ p, a2 = some p ∧ ∀ j v, ys[j]? = some v → w.cell? (p.add j) = some v) (h1 : ∀ v, v ∈ ys → v.oneCell' = true) (hb : (k + m) * bytes ≤ 140737488355328) (h63 : k + m ≤ 9223372036854775807) :
    (∃ c' w', (Builtin.append_ #[t, t] ty #[.slice (some ⟨g, 0, none⟩) k cap, .slice a2 m c]).run P w = .ok (.slice (some ⟨g, 0, none⟩) (k + m) c') w' ∧ slOk e sz (some ⟨g, 0, none⟩) (k + m) c' (xs ++ ys) (fun b => w'.heap[b]?) ∧ c' = cap ∧
      w.heap.size ≤ w'.heap.size ∧ w'.os = w.os ∧ w'.output = w.output ∧ w'.tape = w.tape ∧ (∀ b, b ≠ g → b < w.heap.size → w'.heap[b]? = w.heap[b]?)) ∨
    (∃ c' o, (Builtin.append_ #[t, t] ty #[.slice (some ⟨g, 0, none⟩) k cap, .slice a2 m c]).run P w = .ok (.slice (some ⟨w.heap.size, 0, none⟩) (k + m) c') (w.drew.alloc o) ∧
      slOk e sz (some ⟨w.heap.size, 0, none⟩) (k + m) c' (xs ++ ys) (fun b => (w.drew.alloc o).heap[b]?)) := by
  obtain ⟨i, hi1, hi2, rfl, rfl, hi5⟩ := hi.inf
  have hok0 := hok
  obtain ⟨hl0, h | ⟨g', cur, hg', hg, hnc, hcm, hcs, htake⟩⟩ := hok
  · cases h.1
  cases hg'
  have hlen : (xs ++ ys).length = (k + m) * i.size := by rw [List.length_append, hl0, hl, Nat.add_mul]
  rcases hy with ⟨rfl, rfl⟩ | ⟨p, rfl, hy⟩
  · have hys : ys = [] := List.eq_nil_of_length_eq_zero (by simpa using hl)
    subst hys
    refine .inl ⟨cap, w, ?_, by simpa using hok0, rfl, Nat.le_refl _, rfl, rfl, rfl, fun _ _ _ => rfl⟩
    have := run_append_sl0 (P := P) (w := w) (t := t) (ty := ty) (c := c) ht hi hok0
    simpa using this
  · by_cases hroom : k + m ≤ cap
    · left
      have hfit : k * i.size + ys.length ≤ cur.size := by rw [hl, hcs, ← Nat.add_mul]; exact Nat.mul_le_mul_right _ hroom
      have hr := run_append_room (P := P) w t ty e i ht hi1 g k cap cur hg p m c ys hl hy h1 hroom hfit
      refine ⟨cap, _, hr, ⟨hlen, .inr ⟨g, _, rfl, setRow_heap w g cur _ e _ hg, hroom, hcm, ?_, ?_⟩⟩, rfl, by simp, rfl, rfl, rfl, fun b hne _ => setRow_other w g b _ hne⟩
      · simp only [List.size_toArray, List.length_append, List.length_take, List.length_drop, Array.length_toList]
        omega
      · rw [htake, ← hlen]
        exact List.take_left
    · right
      have holds : ∀ j u, xs[j]? = some u → w.cell? ((⟨g, 0, none⟩ : Addr).add j) = some u := hok0.owns.cells (g := g) rfl
      have hr := run_append_grow (P := P) w t ty e i z ht hi1 hi2 ⟨g, 0, none⟩ k cap xs hl0 holds p m c ys hl hy (by omega) (by omega) (growslice_fits (by omega) hb)
      have hge := grownCap_ge w (k + m) cap e
      refine ⟨_, _, hr, ⟨hlen, .inr ⟨_, _, rfl, World.alloc_heap_new w.drew _, hge, grownCap_le_maxLen w (k + m) cap e (by simp only [maxLen]; omega), ?_, ?_⟩⟩⟩
      · simp only [Array.size_append, List.size_toArray, size_zeroCells, hi5, hl0, hl, ← Nat.add_mul]
        congr 1
        omega
      · simp only [Array.toList_append, List.append_assoc]
        rw [← List.append_assoc, ← hlen]
        exact List.take_left
section
variable {P : Program} {ro : Option Nat} {n : Nat} {ds : List Deferred} {fs : List (Nat × Value)} {E : Env} {L : List Res} {ops : Array Oper} {T : Act → Fam → Prop} {π : List (Nat × Nat)} {i : Nat} {o : Oper} {J : World → Prop}
/-- append onto a full slice; what comes out is the call's own. -/
theorem F_appendO {s x : Operand} {t e : TypeId} {d : Nat} {sz' : Nat} {ag' : Bool} {z : Value} {sz bytes : Nat} [ht : Ty P t (.slice e) sz' ag'] [hi : Inf P e z sz bytes] {a a2 : Option Addr} {k m c2 : Nat} {xs ys : List Value}
    (h0 : ops[i]? = some o) (ho : o.op = .call { callee := .builtin .append, args := #[s, x], argTypes := #[t, t] }) (hs : ev fs s = some (.slice a k k)) (hx : ev fs x = some (.slice a2 m c2)) (hr1 : SlE E sz a k xs) (hr2 : SlE E sz a2 m ys)
    (hm : 0 < m) (hb : (k + m) * bytes ≤ 140737488355328) (h63 : k + m ≤ 9223372036854775807) (hd : o.dst = some d) (hn : Nat.blt d n = true) (hg : Goes ops fs o)
    (h : ∀ b c', GF n ds ((d, .slice (some ⟨b, 0, none⟩) (k + m) c') :: fs) E (.sl e sz (some ⟨b, 0, none⟩) (k + m) c' (xs ++ ys) :: L) (wpF P ops T J π)) : GF n ds fs E L (wpF P ops T J ((i, 3) :: π)) := fun a0 ha =>
  ⟨o, h0, by
    rw [if_pos (hg.wanted ha)]
    intro M w hw
    obtain ⟨p, rfl, hy⟩ : ∃ p, a2 = some p ∧ ∀ j v, ys[j]? = some v → w.cell? (p.add j) = some v := by
      rcases hr2.2 with ⟨_, h3⟩ | ⟨p, h3, _, h5⟩
      · omega
      · exact ⟨p, h3, fun j v hj => Env.cell_st (h5 j v hj) hw⟩
    obtain ⟨i', hi1, hi2, rfl, rfl, hi5⟩ := hi.inf
    have key : ∃ c', k + m ≤ c' ∧ c' ≤ maxLen ∧ (Builtin.append_ #[t, t] o.type #[.slice a k k, .slice (some p) m c2]).run P w = .ok (.slice (some ⟨w.heap.size, 0, none⟩) (k + m) c') (w.drew.alloc (.cells ((xs ++ ys) ++ (Builtin.zeroCells z.cells (c' - (k + m))).toList).toArray e)) := by
      rcases hr1.2 with ⟨rfl, rfl⟩ | ⟨q, rfl, _, hq⟩
      · have hx0 : xs = [] := List.eq_nil_of_length_eq_zero (by simpa using hr1.1)
        subst hx0
        have hr := run_append_nil (P := P) w t o.type e i' z ht.und hi1 hi2 p m c2 ys hr2.1 hy (by omega) (by omega) (by simp only [Nat.zero_add] at hb; omega)
        have hge := grownCap_ge w m 0 e
        refine ⟨grownCap w m 0 e, by omega, grownCap_le_maxLen w m 0 e (by simp only [maxLen]; omega), ?_⟩
        rw [hr]
        simp
        congr 2
        apply Array.ext'
        simp
      · have hr := run_append_grow (P := P) w t o.type e i' z ht.und hi1 hi2 q k k xs hr1.1 (fun j v hj => Env.cell_st (hq j v hj) hw) p m c2 ys hr2.1 hy (by omega) (by omega) (growslice_fits (by omega) hb)
        have hge := grownCap_ge w (k + m) k e
        refine ⟨grownCap w (k + m) k e, hge, grownCap_le_maxLen w (k + m) k e (by simp only [maxLen]; omega), ?_⟩
        rw [hr]
        simp
        congr 2
        apply Array.ext'
        simp
    obtain ⟨c', hc1, hc2, hrun⟩ := key
    unfold Steps
    have e1 : (execOp a0.eval o).run P w = .ok (.value (.slice (some ⟨w.heap.size, 0, none⟩) (k + m) c')) (w.drew.alloc (.cells ((xs ++ ys) ++ (Builtin.zeroCells z.cells (c' - (k + m))).toList).toArray e)) := by
      simp only [execOp, ho, resolve, invoke, builtin, ha.eval hs, ha.eval hx, hrun, Result.andThen, Sem.run_bind, Sem.run_pure, List.map_toArray, List.map_cons, List.map_nil]
    rw [e1]
    have s1 := (hw.drew (w.drawn + 1)).alloc (.cells ((xs ++ ys) ++ (Builtin.zeroCells z.cells (c' - (k + m))).toList).toArray e)
    have hok := slOk.fresh (w := w.drew) (e := e) (sz := i'.size) (k := k + m) (c := c') (xs := xs ++ ys) (r := (Builtin.zeroCells z.cells (c' - (k + m))).toList) (by rw [List.length_append, hr1.1, hr2.1, Nat.add_mul]) hc1 hc2 (by simp [size_zeroCells, hi5])
    have s2 : St E (.sl e i'.size (some ⟨w.heap.size, 0, none⟩) (k + m) c' (xs ++ ys) :: (M ++ L)) (w.drew.alloc (.cells ((xs ++ ys) ++ (Builtin.zeroCells z.cells (c' - (k + m))).toList).toArray e)) := s1.conv rfl hok
    refine ⟨Fam.st E (.sl e i'.size (some ⟨w.heap.size, 0, none⟩) (k + m) c' (xs ++ ys) :: L), fun w' ⟨M', h'⟩ => ⟨M' ++ [_], by show St E ((M' ++ [_]) ++ L) w'; rw [List.append_assoc]; exact h'⟩, s2.perm List.perm_middle.symm, ?_⟩
    rw [hd]
    exact h _ c' _ (ha.put hn _)⟩
/-- append onto a slice of the call's own; where it does not grow it is the same block. -/
theorem F_append2 {s x : Operand} {t e : TypeId} {d : Nat} {sz' : Nat} {ag' : Bool} {z : Value} {sz bytes : Nat} [ht : Ty P t (.slice e) sz' ag'] [hi : Inf P e z sz bytes] {g : Nat} {a2 : Option Addr} {k cap m c2 : Nat} {xs ys : List Value} {L' : Nat → Nat → List Res}
    (h0 : ops[i]? = some o) (ho : o.op = .call { callee := .builtin .append, args := #[s, x], argTypes := #[t, t] }) (hs : ev fs s = some (.slice (some ⟨g, 0, none⟩) k cap)) (hx : ev fs x = some (.slice a2 m c2)) (hr2 : SlE E sz a2 m ys) (h1 : ∀ v, v ∈ ys → v.oneCell' = true)
    (hb : (k + m) * bytes ≤ 140737488355328) (h63 : k + m ≤ 9223372036854775807) (hd : o.dst = some d) (hn : Nat.blt d n = true) (hg : Goes ops fs o)
    (u : ∀ b' c', Upd L (.sl e sz (some ⟨g, 0, none⟩) k cap xs) (.sl e sz (some ⟨b', 0, none⟩) (k + m) c' (xs ++ ys)) (L' b' c'))
    (h : ∀ b c' N, GF n ds ((d, .slice (some ⟨b, 0, none⟩) (k + m) c') :: fs) E (L' b c' ++ N) (wpF P ops T J π)) : GF n ds fs E L (wpF P ops T J ((i, 3) :: π)) := fun a0 ha =>
  ⟨o, h0, by
    rw [if_pos (hg.wanted ha)]
    intro M w hw
    have hok : slOk e sz (some ⟨g, 0, none⟩) k cap xs (fun b => w.heap[b]?) := hw.own _ (List.mem_append.2 (.inr (u g cap).mem))
    have hy : (a2 = none ∧ m = 0) ∨ ∃ p, a2 = some p ∧ ∀ j v, ys[j]? = some v → w.cell? (p.add j) = some v := by
      rcases hr2.2 with h3 | ⟨p, h3, _, h5⟩
      · exact .inl h3
      · exact .inr ⟨p, h3, fun j v hj => Env.cell_st (h5 j v hj) hw⟩
    have hruns := run_append_own2 (P := P) (w := w) (ty := o.type) ht.und hi hok (c := c2) hr2.1 hy h1 hb h63
    have hmap : ∀ (r : Value) w', (Builtin.append_ #[t, t] o.type #[.slice (some ⟨g, 0, none⟩) k cap, .slice a2 m c2]).run P w = .ok r w' → (execOp a0.eval o).run P w = .ok (.value r) w' := fun r w' hrun => by
      simp [execOp, ho, resolve, invoke, builtin, ha.eval hs, ha.eval hx, hrun, Result.andThen]
    unfold Steps
    rcases hruns with ⟨c', w', hrun, hok', rfl, hsz, hos, hout, htape, hkeep⟩ | ⟨c', ob, hrun, hok'⟩
    · rw [hmap _ _ hrun]
      obtain ⟨M1, p1, p2⟩ := (u g c').perm
      have hback : ∀ h, slOk e sz (some ⟨g, 0, none⟩) (k + m) c' (xs ++ ys) h → slOk e sz (some ⟨g, 0, none⟩) k c' xs h := by
        rintro hh ⟨q1, q2 | ⟨g', cur, q2, q3, q4, q5, q6, q7⟩⟩
        · cases q2.1
        · cases q2
          refine ⟨hok.1, .inr ⟨g, cur, rfl, q3, by omega, q5, q6, ?_⟩⟩
          have : (cur.toList.take ((k + m) * sz)).take (k * sz) = (xs ++ ys).take (k * sz) := by rw [q7]
          rw [List.take_take, Nat.min_eq_left (Nat.mul_le_mul_right _ (by omega)), ← hok.1, List.take_left] at this
          rw [← hok.1]; exact this
      refine ⟨Fam.st E (L' g c'), fun w2 ⟨M', h'⟩ => ⟨M', ?_⟩, ?_, ?_⟩
      · have h2 : St E (.sl e sz (some ⟨g, 0, none⟩) (k + m) c' (xs ++ ys) :: (M' ++ M1)) w2 := h'.perm ((p2.append_left M').trans List.perm_middle)
        have h3 : St E (.sl e sz (some ⟨g, 0, none⟩) k c' xs :: (M' ++ M1)) w2 := h2.conv rfl (hback _ (h2.own _ (.head _)))
        exact h3.perm (List.perm_middle.symm.trans (p1.symm.append_left M'))
      · refine hw.update (Upd.app M (u g c')) hsz (fun b hb' hlt => hkeep b (fun he => hb' (by simp [Res.sl, he])) hlt) hok' (fun b hb' => ?_) (by simp [Res.sl]) hos hout htape
        simp only [Res.sl, Option.map_some, Option.toList_some, List.mem_singleton] at hb' ⊢
        subst hb'
        refine .inl ⟨rfl, ?_⟩
        obtain ⟨_, q | ⟨g', cur, q2, q3, _⟩⟩ := hok'
        · cases q.1
        · cases q2; exact (Array.getElem?_eq_some_iff.1 q3).1
      · rw [hd]
        have := h g c' [] _ (ha.put hn _)
        rwa [List.append_nil] at this
    · rw [hmap _ _ hrun]
      obtain ⟨M1, p1, p2⟩ := (u w.heap.size c').perm
      have s1 := (hw.drew (w.drawn + 1)).alloc ob
      have s2 : St E (.sl e sz (some ⟨w.heap.size, 0, none⟩) (k + m) c' (xs ++ ys) :: (M ++ L)) (w.drew.alloc ob) := s1.conv rfl hok'
      refine ⟨Fam.st E (L' w.heap.size c' ++ [.sl e sz (some ⟨g, 0, none⟩) k cap xs]), fun w2 ⟨M', h'⟩ => ⟨.sl e sz (some ⟨w.heap.size, 0, none⟩) (k + m) c' (xs ++ ys) :: M', ?_⟩, ?_, ?_⟩
      · show St E ((_ :: M') ++ L) w2
        refine h'.perm ?_
        refine (((p2.append_right _).append_left M').trans ?_)
        refine List.perm_middle.trans ?_
        refine List.Perm.cons _ (List.Perm.append_left M' ?_)
        exact List.perm_append_comm.trans p1.symm
      · show St E (M ++ (L' w.heap.size c' ++ _)) _
        refine s2.perm ?_
        refine (List.Perm.cons _ (p1.append_left M)).trans ?_
        refine List.perm_middle.symm.trans (List.Perm.append_left M ?_)
        have hq : (.sl e sz (some ⟨w.heap.size, 0, none⟩) (k + m) c' (xs ++ ys) :: .sl e sz (some ⟨g, 0, none⟩) k cap xs :: M1 : List Res).Perm (.sl e sz (some ⟨w.heap.size, 0, none⟩) (k + m) c' (xs ++ ys) :: (M1 ++ [.sl e sz (some ⟨g, 0, none⟩) k cap xs])) := List.Perm.cons _ (List.perm_append_comm (l₁ := [_]) (l₂ := M1))
        exact hq.trans (p2.symm.append_right _)
      · rw [hd]
        exact h _ c' _ _ (ha.put hn _)⟩
end
section
variable {P : Program} {ro : Option Nat} {n : Nat} {ds : List Deferred} {fs : List (Nat × Value)} {E : Env} {L : List Res} {ops : Array Oper} {Q : Exit → Act → World → Prop} {rest : List Oper} {o : Oper}
end
end Go.Proofs.YthcfakmmomfcaaaDoor
set_option linter.unusedSimpArgs false
set_option linter.unusedVariables false
set_option linter.unusedSectionVars false
namespace Go.Proofs.YthcfakmmomfcaaaDoor
open Go.RowKit
section
variable {P : Program} {ro : Option Nat} {n : Nat} {ds : List Deferred} {fs : List (Nat × Value)} {E : Env} {L : List Res} {ops : Array Oper} {T : Act → Fam → Prop} {π : List (Nat × Nat)} {i : Nat} {o : Oper} {J : World → Prop}
theorem F_callvM {k : FuncId} [Ent P k] {args : Array Value} {d : Nat} {r : Value} (h0 : ops[i]? = some o) (ht : Goesto fs o k args) (hd : o.dst = some d) (hn : Nat.blt d n = true) (hg : Goes ops fs o)
    (hc : ∀ M, CallV P k args E (M ++ L) r) (h : GF n ds ((d, r) :: fs) E L (wpF P ops T J π)) : GF n ds fs E L (wpF P ops T J ((i, 3) :: π)) := fun a ha =>
  ⟨o, h0, by
    rw [if_pos (hg.wanted ha)]
    exact fun M w hw => by
      unfold Steps
      rw [ht.run ha]
      exact (hc M w hw).mono fun e w' ⟨he, hs⟩ => ⟨r, he, Fam.st E L, fun _ h => h, hs, by rw [hd]; exact h _ (ha.put hn r)⟩⟩
end
section
variable {P : Program} {fs : List (Nat × Value)} {E E0 : Env} {L : List Res} {o : Oper}
end
end Go.Proofs.YthcfakmmomfcaaaDoor
namespace Go.Proofs.YthcfakmmomfcaaaDoor
open Go.RowKit
theorem run_eqArr4 {P : Program} {t e : TypeId} {sz sz' bytes : Nat} {ag : Bool} {k : IntKind} {z : Value} [ht : Ty P t (.array 4 e) sz ag] [he : Ty P e (.int k) sz' false] [hi : Inf P e z 1 bytes] (d : Nat) (a0 a1 a2 a3 b0 b1 b2 b3 : Int) (w : World) :
    (Op.equalIn (d + 2) t (.agg #[.int k a0, .int k a1, .int k a2, .int k a3]) (.agg #[.int k b0, .int k b1, .int k b2, .int k b3])).run P w = .ok (decide (a0 = b0 ∧ a1 = b1 ∧ a2 = b2 ∧ a3 = b3)) w := by
  obtain ⟨i, hi1, _, hs1, _⟩ := hi.inf
  have hc : P.cellsOf e = 1 := by simp [Program.cellsOf, hi1, hs1]
  rw [run_equalIn_array w (d + 1) _ _ ht.und hi1, hc]
  have hp0 : ∀ v0 v1 v2 v3 : Value, (part e #[v0, v1, v2, v3] (0 * 1)).run P w = .ok v0 w := fun v0 v1 v2 v3 => by
    simp [part, he.agg', Result.andThen]
  have hp1 : ∀ v0 v1 v2 v3 : Value, (part e #[v0, v1, v2, v3] (1 * 1)).run P w = .ok v1 w := fun v0 v1 v2 v3 => by
    simp [part, he.agg', Result.andThen]
  have hp2 : ∀ v0 v1 v2 v3 : Value, (part e #[v0, v1, v2, v3] (2 * 1)).run P w = .ok v2 w := fun v0 v1 v2 v3 => by
    simp [part, he.agg', Result.andThen]
  have hp3 : ∀ v0 v1 v2 v3 : Value, (part e #[v0, v1, v2, v3] (3 * 1)).run P w = .ok v3 w := fun v0 v1 v2 v3 => by
    simp [part, he.agg', Result.andThen]
  have hq : ∀ a b : Int, (Op.equalIn (d + 1) e (.int k a) (.int k b)).run P w = .ok (decide (a = b)) w := fun a b => by
    simp [Op.equalIn, he.run]
    rfl
  have hl : List.range 4 = [0, 1, 2, 3] := rfl
  rw [hl]
  simp only [Op.eqItems, Sem.run_bind, hp0, Result.andThen_ok, hq]
  by_cases h0 : a0 = b0 <;> by_cases h1 : a1 = b1 <;> by_cases h2 : a2 = b2 <;> by_cases h3 : a3 = b3 <;> simp [h0, h1, h2, h3, hp1, hp2, hp3, hq]
end Go.Proofs.YthcfakmmomfcaaaDoor
set_option linter.unusedSimpArgs false
set_option linter.unusedVariables false
set_option maxRecDepth 20000
namespace Go.Proofs.YthcfakmmomfcaaaDoor
open Go.Proofs Go.RowKit
instance ty0 : Ty Tryd.prog 0 (Go.TypeDesc.tuple #[]) 1 false := ⟨Tryd.underlying0, Tryd.isAgg0, Tryd.sizeOf0⟩
instance zero0 : Zero Tryd.prog 0 (Go.Value.tuple #[]) #[Go.Value.tuple #[]] := ⟨Tryd.zeroValue0, rfl⟩
instance ty1 : Ty Tryd.prog 1 (Go.TypeDesc.func #[] #[] false) 1 false := ⟨Tryd.underlying1, Tryd.isAgg1, Tryd.sizeOf1⟩
instance zero1 : Zero Tryd.prog 1 (Go.Value.nilFunc) #[Go.Value.nilFunc] := ⟨Tryd.zeroValue1, rfl⟩
instance ty2 : Ty Tryd.prog 2 (Go.TypeDesc.int Go.IntKind.i64) 1 false := ⟨Tryd.underlying2, Tryd.isAgg2, Tryd.sizeOf2⟩
instance zero2 : Zero Tryd.prog 2 (Go.Value.int Go.IntKind.i64 0) #[Go.Value.int Go.IntKind.i64 0] := ⟨Tryd.zeroValue2, rfl⟩
instance ty3 : Ty Tryd.prog 3 (Go.TypeDesc.int Go.IntKind.i64) 1 false := ⟨Tryd.underlying3, Tryd.isAgg3, Tryd.sizeOf3⟩
instance zero3 : Zero Tryd.prog 3 (Go.Value.int Go.IntKind.i64 0) #[Go.Value.int Go.IntKind.i64 0] := ⟨Tryd.zeroValue3, rfl⟩
instance ty4 : Ty Tryd.prog 4 (Go.TypeDesc.bool) 1 false := ⟨Tryd.underlying4, Tryd.isAgg4, Tryd.sizeOf4⟩
instance zero4 : Zero Tryd.prog 4 (Go.Value.bool false) #[Go.Value.bool false] := ⟨Tryd.zeroValue4, rfl⟩
instance ty5 : Ty Tryd.prog 5 (Go.TypeDesc.int Go.IntKind.u8) 1 false := ⟨Tryd.underlying5, Tryd.isAgg5, Tryd.sizeOf5⟩
instance zero5 : Zero Tryd.prog 5 (Go.Value.int Go.IntKind.u8 0) #[Go.Value.int Go.IntKind.u8 0] := ⟨Tryd.zeroValue5, rfl⟩
instance ty6 : Ty Tryd.prog 6 (Go.TypeDesc.int Go.IntKind.u8) 1 false := ⟨Tryd.underlying6, Tryd.isAgg6, Tryd.sizeOf6⟩
instance zero6 : Zero Tryd.prog 6 (Go.Value.int Go.IntKind.u8 0) #[Go.Value.int Go.IntKind.u8 0] := ⟨Tryd.zeroValue6, rfl⟩
instance ty7 : Ty Tryd.prog 7 (Go.TypeDesc.struct #[{ name := "x", type := 2, offset := 0, embedded := false, tag := "", pkgPath := "runtime", byteOffset := 0 }, { name := "y", type := 3, offset := 1, embedded := false, tag := "", pkgPath := "runtime", byteOffset := 8 }, { name := "signed", type := 4, offset := 2, embedded := false, tag := "", pkgPath := "runtime", byteOffset := 16 }, { name := "code", type := 6, offset := 3, embedded := false, tag := "", pkgPath := "runtime", byteOffset := 17 }]) 4 true := ⟨Tryd.underlying7, Tryd.isAgg7, Tryd.sizeOf7⟩
instance zero7 : Zero Tryd.prog 7 (Go.Value.agg #[Go.Value.int Go.IntKind.i64 0, Go.Value.int Go.IntKind.i64 0, Go.Value.bool false, Go.Value.int Go.IntKind.u8 0]) #[Go.Value.int Go.IntKind.i64 0, Go.Value.int Go.IntKind.i64 0, Go.Value.bool false, Go.Value.int Go.IntKind.u8 0] := ⟨Tryd.zeroValue7, rfl⟩
instance ty8 : Ty Tryd.prog 8 (Go.TypeDesc.struct #[{ name := "x", type := 2, offset := 0, embedded := false, tag := "", pkgPath := "runtime", byteOffset := 0 }, { name := "y", type := 3, offset := 1, embedded := false, tag := "", pkgPath := "runtime", byteOffset := 8 }, { name := "signed", type := 4, offset := 2, embedded := false, tag := "", pkgPath := "runtime", byteOffset := 16 }, { name := "code", type := 6, offset := 3, embedded := false, tag := "", pkgPath := "runtime", byteOffset := 17 }]) 4 true := ⟨Tryd.underlying8, Tryd.isAgg8, Tryd.sizeOf8⟩
instance zero8 : Zero Tryd.prog 8 (Go.Value.agg #[Go.Value.int Go.IntKind.i64 0, Go.Value.int Go.IntKind.i64 0, Go.Value.bool false, Go.Value.int Go.IntKind.u8 0]) #[Go.Value.int Go.IntKind.i64 0, Go.Value.int Go.IntKind.i64 0, Go.Value.bool false, Go.Value.int Go.IntKind.u8 0] := ⟨Tryd.zeroValue8, rfl⟩
instance ty9 : Ty Tryd.prog 9 (Go.TypeDesc.string) 1 false := ⟨Tryd.underlying9, Tryd.isAgg9, Tryd.sizeOf9⟩
instance zero9 : Zero Tryd.prog 9 (Go.Value.string { data := #[] }) #[Go.Value.string { data := #[] }] := ⟨Tryd.zeroValue9, rfl⟩
instance ty10 : Ty Tryd.prog 10 (Go.TypeDesc.string) 1 false := ⟨Tryd.underlying10, Tryd.isAgg10, Tryd.sizeOf10⟩
instance zero10 : Zero Tryd.prog 10 (Go.Value.string { data := #[] }) #[Go.Value.string { data := #[] }] := ⟨Tryd.zeroValue10, rfl⟩
instance ty11 : Ty Tryd.prog 11 (Go.TypeDesc.string) 1 false := ⟨Tryd.underlying11, Tryd.isAgg11, Tryd.sizeOf11⟩
instance zero11 : Zero Tryd.prog 11 (Go.Value.string { data := #[] }) #[Go.Value.string { data := #[] }] := ⟨Tryd.zeroValue11, rfl⟩
instance ty12 : Ty Tryd.prog 12 (Go.TypeDesc.int Go.IntKind.u64) 1 false := ⟨Tryd.underlying12, Tryd.isAgg12, Tryd.sizeOf12⟩
instance zero12 : Zero Tryd.prog 12 (Go.Value.int Go.IntKind.u64 0) #[Go.Value.int Go.IntKind.u64 0] := ⟨Tryd.zeroValue12, rfl⟩
instance ty13 : Ty Tryd.prog 13 (Go.TypeDesc.struct #[{ name := "msg", type := 9, offset := 0, embedded := false, tag := "", pkgPath := "runtime", byteOffset := 0 }, { name := "addr", type := 12, offset := 1, embedded := false, tag := "", pkgPath := "runtime", byteOffset := 16 }]) 2 true := ⟨Tryd.underlying13, Tryd.isAgg13, Tryd.sizeOf13⟩
instance zero13 : Zero Tryd.prog 13 (Go.Value.agg #[Go.Value.string { data := #[] }, Go.Value.int Go.IntKind.u64 0]) #[Go.Value.string { data := #[] }, Go.Value.int Go.IntKind.u64 0] := ⟨Tryd.zeroValue13, rfl⟩
instance ty14 : Ty Tryd.prog 14 (Go.TypeDesc.struct #[{ name := "msg", type := 9, offset := 0, embedded := false, tag := "", pkgPath := "runtime", byteOffset := 0 }, { name := "addr", type := 12, offset := 1, embedded := false, tag := "", pkgPath := "runtime", byteOffset := 16 }]) 2 true := ⟨Tryd.underlying14, Tryd.isAgg14, Tryd.sizeOf14⟩
instance zero14 : Zero Tryd.prog 14 (Go.Value.agg #[Go.Value.string { data := #[] }, Go.Value.int Go.IntKind.u64 0]) #[Go.Value.string { data := #[] }, Go.Value.int Go.IntKind.u64 0] := ⟨Tryd.zeroValue14, rfl⟩
instance ty15 : Ty Tryd.prog 15 (Go.TypeDesc.pointer 125) 1 false := ⟨Tryd.underlying15, Tryd.isAgg15, Tryd.sizeOf15⟩
instance zero15 : Zero Tryd.prog 15 (Go.Value.pointer none) #[Go.Value.pointer none] := ⟨Tryd.zeroValue15, rfl⟩
instance ty16 : Ty Tryd.prog 16 (Go.TypeDesc.pointer 128) 1 false := ⟨Tryd.underlying16, Tryd.isAgg16, Tryd.sizeOf16⟩
instance zero16 : Zero Tryd.prog 16 (Go.Value.pointer none) #[Go.Value.pointer none] := ⟨Tryd.zeroValue16, rfl⟩
instance ty17 : Ty Tryd.prog 17 (Go.TypeDesc.pointer 136) 1 false := ⟨Tryd.underlying17, Tryd.isAgg17, Tryd.sizeOf17⟩
instance zero17 : Zero Tryd.prog 17 (Go.Value.pointer none) #[Go.Value.pointer none] := ⟨Tryd.zeroValue17, rfl⟩
instance ty18 : Ty Tryd.prog 18 (Go.TypeDesc.struct #[{ name := "typ", type := 17, offset := 0, embedded := false, tag := "", pkgPath := "internal/runtime/maps", byteOffset := 0 }]) 1 true := ⟨Tryd.underlying18, Tryd.isAgg18, Tryd.sizeOf18⟩
instance zero18 : Zero Tryd.prog 18 (Go.Value.agg #[Go.Value.pointer none]) #[Go.Value.pointer none] := ⟨Tryd.zeroValue18, rfl⟩
instance ty19 : Ty Tryd.prog 19 (Go.TypeDesc.struct #[{ name := "typ", type := 17, offset := 0, embedded := false, tag := "", pkgPath := "internal/runtime/maps", byteOffset := 0 }]) 1 true := ⟨Tryd.underlying19, Tryd.isAgg19, Tryd.sizeOf19⟩
instance zero19 : Zero Tryd.prog 19 (Go.Value.agg #[Go.Value.pointer none]) #[Go.Value.pointer none] := ⟨Tryd.zeroValue19, rfl⟩
instance ty20 : Ty Tryd.prog 20 (Go.TypeDesc.interface #[]) 1 false := ⟨Tryd.underlying20, Tryd.isAgg20, Tryd.sizeOf20⟩
instance zero20 : Zero Tryd.prog 20 (Go.Value.nilIface) #[Go.Value.nilIface] := ⟨Tryd.zeroValue20, rfl⟩
instance ty21 : Ty Tryd.prog 21 (Go.TypeDesc.int Go.IntKind.i32) 1 false := ⟨Tryd.underlying21, Tryd.isAgg21, Tryd.sizeOf21⟩
instance zero21 : Zero Tryd.prog 21 (Go.Value.int Go.IntKind.i32 0) #[Go.Value.int Go.IntKind.i32 0] := ⟨Tryd.zeroValue21, rfl⟩
instance ty22 : Ty Tryd.prog 22 (Go.TypeDesc.slice 3) 1 false := ⟨Tryd.underlying22, Tryd.isAgg22, Tryd.sizeOf22⟩
instance zero22 : Zero Tryd.prog 22 (Go.Value.slice none 0 0) #[Go.Value.slice none 0 0] := ⟨Tryd.zeroValue22, rfl⟩
instance ty23 : Ty Tryd.prog 23 (Go.TypeDesc.array 4 3) 4 true := ⟨Tryd.underlying23, Tryd.isAgg23, Tryd.sizeOf23⟩
instance zero23 : Zero Tryd.prog 23 (Go.Value.agg #[Go.Value.int Go.IntKind.i64 0, Go.Value.int Go.IntKind.i64 0, Go.Value.int Go.IntKind.i64 0, Go.Value.int Go.IntKind.i64 0]) #[Go.Value.int Go.IntKind.i64 0, Go.Value.int Go.IntKind.i64 0, Go.Value.int Go.IntKind.i64 0, Go.Value.int Go.IntKind.i64 0] := ⟨Tryd.zeroValue23, rfl⟩
instance ty24 : Ty Tryd.prog 24 (Go.TypeDesc.struct #[{ name := "N", type := 3, offset := 0, embedded := false, tag := "", pkgPath := "", byteOffset := 0 }, { name := "S", type := 23, offset := 1, embedded := false, tag := "", pkgPath := "", byteOffset := 8 }]) 5 true := ⟨Tryd.underlying24, Tryd.isAgg24, Tryd.sizeOf24⟩
instance zero24 : Zero Tryd.prog 24 (Go.Value.agg #[Go.Value.int Go.IntKind.i64 0, Go.Value.int Go.IntKind.i64 0, Go.Value.int Go.IntKind.i64 0, Go.Value.int Go.IntKind.i64 0, Go.Value.int Go.IntKind.i64 0]) #[Go.Value.int Go.IntKind.i64 0, Go.Value.int Go.IntKind.i64 0, Go.Value.int Go.IntKind.i64 0, Go.Value.int Go.IntKind.i64 0, Go.Value.int Go.IntKind.i64 0] := ⟨Tryd.zeroValue24, rfl⟩
instance ty25 : Ty Tryd.prog 25 (Go.TypeDesc.struct #[{ name := "N", type := 3, offset := 0, embedded := false, tag := "", pkgPath := "", byteOffset := 0 }, { name := "S", type := 23, offset := 1, embedded := false, tag := "", pkgPath := "", byteOffset := 8 }]) 5 true := ⟨Tryd.underlying25, Tryd.isAgg25, Tryd.sizeOf25⟩
instance zero25 : Zero Tryd.prog 25 (Go.Value.agg #[Go.Value.int Go.IntKind.i64 0, Go.Value.int Go.IntKind.i64 0, Go.Value.int Go.IntKind.i64 0, Go.Value.int Go.IntKind.i64 0, Go.Value.int Go.IntKind.i64 0]) #[Go.Value.int Go.IntKind.i64 0, Go.Value.int Go.IntKind.i64 0, Go.Value.int Go.IntKind.i64 0, Go.Value.int Go.IntKind.i64 0, Go.Value.int Go.IntKind.i64 0] := ⟨Tryd.zeroValue25, rfl⟩
instance ty26 : Ty Tryd.prog 26 (Go.TypeDesc.func #[] #[4] false) 1 false := ⟨Tryd.underlying26, Tryd.isAgg26, Tryd.sizeOf26⟩
instance zero26 : Zero Tryd.prog 26 (Go.Value.nilFunc) #[Go.Value.nilFunc] := ⟨Tryd.zeroValue26, rfl⟩
instance ty27 : Ty Tryd.prog 27 (Go.TypeDesc.func #[22] #[22] false) 1 false := ⟨Tryd.underlying27, Tryd.isAgg27, Tryd.sizeOf27⟩
instance zero27 : Zero Tryd.prog 27 (Go.Value.nilFunc) #[Go.Value.nilFunc] := ⟨Tryd.zeroValue27, rfl⟩
instance ty28 : Ty Tryd.prog 28 (Go.TypeDesc.int Go.IntKind.i64) 1 false := ⟨Tryd.underlying28, Tryd.isAgg28, Tryd.sizeOf28⟩
instance zero28 : Zero Tryd.prog 28 (Go.Value.int Go.IntKind.i64 0) #[Go.Value.int Go.IntKind.i64 0] := ⟨Tryd.zeroValue28, rfl⟩
instance ty29 : Ty Tryd.prog 29 (Go.TypeDesc.tuple #[25, 28]) 1 false := ⟨Tryd.underlying29, Tryd.isAgg29, Tryd.sizeOf29⟩
instance zero29 : Zero Tryd.prog 29 (Go.Value.tuple #[Go.Value.agg #[Go.Value.int Go.IntKind.i64 0, Go.Value.int Go.IntKind.i64 0, Go.Value.int Go.IntKind.i64 0, Go.Value.int Go.IntKind.i64 0, Go.Value.int Go.IntKind.i64 0], Go.Value.int Go.IntKind.i64 0]) #[Go.Value.tuple #[Go.Value.agg #[Go.Value.int Go.IntKind.i64 0, Go.Value.int Go.IntKind.i64 0, Go.Value.int Go.IntKind.i64 0, Go.Value.int Go.IntKind.i64 0, Go.Value.int Go.IntKind.i64 0], Go.Value.int Go.IntKind.i64 0]] := ⟨Tryd.zeroValue29, rfl⟩
instance ty30 : Ty Tryd.prog 30 (Go.TypeDesc.func #[22] #[25, 28] true) 1 false := ⟨Tryd.underlying30, Tryd.isAgg30, Tryd.sizeOf30⟩
instance zero30 : Zero Tryd.prog 30 (Go.Value.nilFunc) #[Go.Value.nilFunc] := ⟨Tryd.zeroValue30, rfl⟩
instance ty31 : Ty Tryd.prog 31 (Go.TypeDesc.tuple #[22, 28]) 1 false := ⟨Tryd.underlying31, Tryd.isAgg31, Tryd.sizeOf31⟩
instance zero31 : Zero Tryd.prog 31 (Go.Value.tuple #[Go.Value.slice none 0 0, Go.Value.int Go.IntKind.i64 0]) #[Go.Value.tuple #[Go.Value.slice none 0 0, Go.Value.int Go.IntKind.i64 0]] := ⟨Tryd.zeroValue31, rfl⟩
instance ty32 : Ty Tryd.prog 32 (Go.TypeDesc.func #[25] #[22, 28] false) 1 false := ⟨Tryd.underlying32, Tryd.isAgg32, Tryd.sizeOf32⟩
instance zero32 : Zero Tryd.prog 32 (Go.Value.nilFunc) #[Go.Value.nilFunc] := ⟨Tryd.zeroValue32, rfl⟩
instance ty33 : Ty Tryd.prog 33 (Go.TypeDesc.tuple #[9, 28]) 1 false := ⟨Tryd.underlying33, Tryd.isAgg33, Tryd.sizeOf33⟩
instance zero33 : Zero Tryd.prog 33 (Go.Value.tuple #[Go.Value.string { data := #[] }, Go.Value.int Go.IntKind.i64 0]) #[Go.Value.tuple #[Go.Value.string { data := #[] }, Go.Value.int Go.IntKind.i64 0]] := ⟨Tryd.zeroValue33, rfl⟩
instance ty34 : Ty Tryd.prog 34 (Go.TypeDesc.func #[25] #[9, 28] false) 1 false := ⟨Tryd.underlying34, Tryd.isAgg34, Tryd.sizeOf34⟩
instance zero34 : Zero Tryd.prog 34 (Go.Value.nilFunc) #[Go.Value.nilFunc] := ⟨Tryd.zeroValue34, rfl⟩
instance ty35 : Ty Tryd.prog 35 (Go.TypeDesc.func #[25, 3] #[28] false) 1 false := ⟨Tryd.underlying35, Tryd.isAgg35, Tryd.sizeOf35⟩
instance zero35 : Zero Tryd.prog 35 (Go.Value.nilFunc) #[Go.Value.nilFunc] := ⟨Tryd.zeroValue35, rfl⟩
instance ty36 : Ty Tryd.prog 36 (Go.TypeDesc.func #[22, 22] #[4] false) 1 false := ⟨Tryd.underlying36, Tryd.isAgg36, Tryd.sizeOf36⟩
instance zero36 : Zero Tryd.prog 36 (Go.Value.nilFunc) #[Go.Value.nilFunc] := ⟨Tryd.zeroValue36, rfl⟩
instance ty37 : Ty Tryd.prog 37 (Go.TypeDesc.func #[22, 25, 3] #[4] false) 1 false := ⟨Tryd.underlying37, Tryd.isAgg37, Tryd.sizeOf37⟩
instance zero37 : Zero Tryd.prog 37 (Go.Value.nilFunc) #[Go.Value.nilFunc] := ⟨Tryd.zeroValue37, rfl⟩
instance ty38 : Ty Tryd.prog 38 (Go.TypeDesc.func #[3, 25, 25] #[25, 28] false) 1 false := ⟨Tryd.underlying38, Tryd.isAgg38, Tryd.sizeOf38⟩
instance zero38 : Zero Tryd.prog 38 (Go.Value.nilFunc) #[Go.Value.nilFunc] := ⟨Tryd.zeroValue38, rfl⟩
instance ty39 : Ty Tryd.prog 39 (Go.TypeDesc.func #[25, 3] #[25, 28] false) 1 false := ⟨Tryd.underlying39, Tryd.isAgg39, Tryd.sizeOf39⟩
instance zero39 : Zero Tryd.prog 39 (Go.Value.nilFunc) #[Go.Value.nilFunc] := ⟨Tryd.zeroValue39, rfl⟩
instance ty40 : Ty Tryd.prog 40 (Go.TypeDesc.tuple #[3, 28]) 1 false := ⟨Tryd.underlying40, Tryd.isAgg40, Tryd.sizeOf40⟩
instance zero40 : Zero Tryd.prog 40 (Go.Value.tuple #[Go.Value.int Go.IntKind.i64 0, Go.Value.int Go.IntKind.i64 0]) #[Go.Value.tuple #[Go.Value.int Go.IntKind.i64 0, Go.Value.int Go.IntKind.i64 0]] := ⟨Tryd.zeroValue40, rfl⟩
instance ty41 : Ty Tryd.prog 41 (Go.TypeDesc.func #[25, 25] #[3, 28] false) 1 false := ⟨Tryd.underlying41, Tryd.isAgg41, Tryd.sizeOf41⟩
instance zero41 : Zero Tryd.prog 41 (Go.Value.nilFunc) #[Go.Value.nilFunc] := ⟨Tryd.zeroValue41, rfl⟩
instance ty42 : Ty Tryd.prog 42 (Go.TypeDesc.tuple #[4, 28]) 1 false := ⟨Tryd.underlying42, Tryd.isAgg42, Tryd.sizeOf42⟩
instance zero42 : Zero Tryd.prog 42 (Go.Value.tuple #[Go.Value.bool false, Go.Value.int Go.IntKind.i64 0]) #[Go.Value.tuple #[Go.Value.bool false, Go.Value.int Go.IntKind.i64 0]] := ⟨Tryd.zeroValue42, rfl⟩
instance ty43 : Ty Tryd.prog 43 (Go.TypeDesc.func #[25, 25] #[4, 28] false) 1 false := ⟨Tryd.underlying43, Tryd.isAgg43, Tryd.sizeOf43⟩
instance zero43 : Zero Tryd.prog 43 (Go.Value.nilFunc) #[Go.Value.nilFunc] := ⟨Tryd.zeroValue43, rfl⟩
instance ty44 : Ty Tryd.prog 44 (Go.TypeDesc.func #[25, 25, 3] #[4] false) 1 false := ⟨Tryd.underlying44, Tryd.isAgg44, Tryd.sizeOf44⟩
instance zero44 : Zero Tryd.prog 44 (Go.Value.nilFunc) #[Go.Value.nilFunc] := ⟨Tryd.zeroValue44, rfl⟩
instance ty45 : Ty Tryd.prog 45 (Go.TypeDesc.func #[9] #[25, 28] false) 1 false := ⟨Tryd.underlying45, Tryd.isAgg45, Tryd.sizeOf45⟩
instance zero45 : Zero Tryd.prog 45 (Go.Value.nilFunc) #[Go.Value.nilFunc] := ⟨Tryd.zeroValue45, rfl⟩
instance ty46 : Ty Tryd.prog 46 (Go.TypeDesc.func #[25, 3] #[3, 28] false) 1 false := ⟨Tryd.underlying46, Tryd.isAgg46, Tryd.sizeOf46⟩
instance zero46 : Zero Tryd.prog 46 (Go.Value.nilFunc) #[Go.Value.nilFunc] := ⟨Tryd.zeroValue46, rfl⟩
instance ty47 : Ty Tryd.prog 47 (Go.TypeDesc.func #[3, 3] #[25, 28] false) 1 false := ⟨Tryd.underlying47, Tryd.isAgg47, Tryd.sizeOf47⟩
instance zero47 : Zero Tryd.prog 47 (Go.Value.nilFunc) #[Go.Value.nilFunc] := ⟨Tryd.zeroValue47, rfl⟩
instance ty48 : Ty Tryd.prog 48 (Go.TypeDesc.slice 25) 1 false := ⟨Tryd.underlying48, Tryd.isAgg48, Tryd.sizeOf48⟩
instance zero48 : Zero Tryd.prog 48 (Go.Value.slice none 0 0) #[Go.Value.slice none 0 0] := ⟨Tryd.zeroValue48, rfl⟩
instance ty49 : Ty Tryd.prog 49 (Go.TypeDesc.tuple #[48, 28]) 1 false := ⟨Tryd.underlying49, Tryd.isAgg49, Tryd.sizeOf49⟩
instance zero49 : Zero Tryd.prog 49 (Go.Value.tuple #[Go.Value.slice none 0 0, Go.Value.int Go.IntKind.i64 0]) #[Go.Value.tuple #[Go.Value.slice none 0 0, Go.Value.int Go.IntKind.i64 0]] := ⟨Tryd.zeroValue49, rfl⟩
instance ty50 : Ty Tryd.prog 50 (Go.TypeDesc.func #[3, 3] #[48, 28] false) 1 false := ⟨Tryd.underlying50, Tryd.isAgg50, Tryd.sizeOf50⟩
instance zero50 : Zero Tryd.prog 50 (Go.Value.nilFunc) #[Go.Value.nilFunc] := ⟨Tryd.zeroValue50, rfl⟩
instance ty51 : Ty Tryd.prog 51 (Go.TypeDesc.func #[9, 3, 3, 3, 25] #[4] false) 1 false := ⟨Tryd.underlying51, Tryd.isAgg51, Tryd.sizeOf51⟩
instance zero51 : Zero Tryd.prog 51 (Go.Value.nilFunc) #[Go.Value.nilFunc] := ⟨Tryd.zeroValue51, rfl⟩
instance ty52 : Ty Tryd.prog 52 (Go.TypeDesc.func #[22] #[25] true) 1 false := ⟨Tryd.underlying52, Tryd.isAgg52, Tryd.sizeOf52⟩
instance zero52 : Zero Tryd.prog 52 (Go.Value.nilFunc) #[Go.Value.nilFunc] := ⟨Tryd.zeroValue52, rfl⟩
instance ty53 : Ty Tryd.prog 53 (Go.TypeDesc.func #[3, 25, 25, 25] #[4] false) 1 false := ⟨Tryd.underlying53, Tryd.isAgg53, Tryd.sizeOf53⟩
instance zero53 : Zero Tryd.prog 53 (Go.Value.nilFunc) #[Go.Value.nilFunc] := ⟨Tryd.zeroValue53, rfl⟩
instance ty54 : Ty Tryd.prog 54 (Go.TypeDesc.func #[25, 25, 4] #[4] false) 1 false := ⟨Tryd.underlying54, Tryd.isAgg54, Tryd.sizeOf54⟩
instance zero54 : Zero Tryd.prog 54 (Go.Value.nilFunc) #[Go.Value.nilFunc] := ⟨Tryd.zeroValue54, rfl⟩
instance ty55 : Ty Tryd.prog 55 (Go.TypeDesc.func #[9, 28] #[4] false) 1 false := ⟨Tryd.underlying55, Tryd.isAgg55, Tryd.sizeOf55⟩
instance zero55 : Zero Tryd.prog 55 (Go.Value.nilFunc) #[Go.Value.nilFunc] := ⟨Tryd.zeroValue55, rfl⟩
instance ty56 : Ty Tryd.prog 56 (Go.TypeDesc.func #[25, 3, 3] #[4] false) 1 false := ⟨Tryd.underlying56, Tryd.isAgg56, Tryd.sizeOf56⟩
instance zero56 : Zero Tryd.prog 56 (Go.Value.nilFunc) #[Go.Value.nilFunc] := ⟨Tryd.zeroValue56, rfl⟩
instance ty57 : Ty Tryd.prog 57 (Go.TypeDesc.func #[3] #[25] false) 1 false := ⟨Tryd.underlying57, Tryd.isAgg57, Tryd.sizeOf57⟩
instance zero57 : Zero Tryd.prog 57 (Go.Value.nilFunc) #[Go.Value.nilFunc] := ⟨Tryd.zeroValue57, rfl⟩
instance ty58 : Ty Tryd.prog 58 (Go.TypeDesc.func #[25] #[3] false) 1 false := ⟨Tryd.underlying58, Tryd.isAgg58, Tryd.sizeOf58⟩
instance zero58 : Zero Tryd.prog 58 (Go.Value.nilFunc) #[Go.Value.nilFunc] := ⟨Tryd.zeroValue58, rfl⟩
instance ty59 : Ty Tryd.prog 59 (Go.TypeDesc.func #[3, 3, 3] #[4] false) 1 false := ⟨Tryd.underlying59, Tryd.isAgg59, Tryd.sizeOf59⟩
instance zero59 : Zero Tryd.prog 59 (Go.Value.nilFunc) #[Go.Value.nilFunc] := ⟨Tryd.zeroValue59, rfl⟩
instance ty60 : Ty Tryd.prog 60 (Go.TypeDesc.func #[3, 3] #[3] false) 1 false := ⟨Tryd.underlying60, Tryd.isAgg60, Tryd.sizeOf60⟩
instance zero60 : Zero Tryd.prog 60 (Go.Value.nilFunc) #[Go.Value.nilFunc] := ⟨Tryd.zeroValue60, rfl⟩
instance ty61 : Ty Tryd.prog 61 (Go.TypeDesc.func #[3, 3, 3, 3] #[4] false) 1 false := ⟨Tryd.underlying61, Tryd.isAgg61, Tryd.sizeOf61⟩
instance zero61 : Zero Tryd.prog 61 (Go.Value.nilFunc) #[Go.Value.nilFunc] := ⟨Tryd.zeroValue61, rfl⟩
instance ty62 : Ty Tryd.prog 62 (Go.TypeDesc.func #[3, 9, 3] #[4] false) 1 false := ⟨Tryd.underlying62, Tryd.isAgg62, Tryd.sizeOf62⟩
instance zero62 : Zero Tryd.prog 62 (Go.Value.nilFunc) #[Go.Value.nilFunc] := ⟨Tryd.zeroValue62, rfl⟩
instance ty63 : Ty Tryd.prog 63 (Go.TypeDesc.func #[3, 48] #[28] true) 1 false := ⟨Tryd.underlying63, Tryd.isAgg63, Tryd.sizeOf63⟩
instance zero63 : Zero Tryd.prog 63 (Go.Value.nilFunc) #[Go.Value.nilFunc] := ⟨Tryd.zeroValue63, rfl⟩
instance ty64 : Ty Tryd.prog 64 (Go.TypeDesc.func #[25] #[22] false) 1 false := ⟨Tryd.underlying64, Tryd.isAgg64, Tryd.sizeOf64⟩
instance zero64 : Zero Tryd.prog 64 (Go.Value.nilFunc) #[Go.Value.nilFunc] := ⟨Tryd.zeroValue64, rfl⟩
instance ty65 : Ty Tryd.prog 65 (Go.TypeDesc.slice 9) 1 false := ⟨Tryd.underlying65, Tryd.isAgg65, Tryd.sizeOf65⟩
instance zero65 : Zero Tryd.prog 65 (Go.Value.slice none 0 0) #[Go.Value.slice none 0 0] := ⟨Tryd.zeroValue65, rfl⟩
instance ty66 : Ty Tryd.prog 66 (Go.TypeDesc.func #[3] #[9] false) 1 false := ⟨Tryd.underlying66, Tryd.isAgg66, Tryd.sizeOf66⟩
instance zero66 : Zero Tryd.prog 66 (Go.Value.nilFunc) #[Go.Value.nilFunc] := ⟨Tryd.zeroValue66, rfl⟩
instance ty67 : Ty Tryd.prog 67 (Go.TypeDesc.func #[65, 9] #[9] false) 1 false := ⟨Tryd.underlying67, Tryd.isAgg67, Tryd.sizeOf67⟩
instance zero67 : Zero Tryd.prog 67 (Go.Value.nilFunc) #[Go.Value.nilFunc] := ⟨Tryd.zeroValue67, rfl⟩
instance ty68 : Ty Tryd.prog 68 (Go.TypeDesc.slice 5) 1 false := ⟨Tryd.underlying68, Tryd.isAgg68, Tryd.sizeOf68⟩
instance zero68 : Zero Tryd.prog 68 (Go.Value.slice none 0 0) #[Go.Value.slice none 0 0] := ⟨Tryd.zeroValue68, rfl⟩
instance ty69 : Ty Tryd.prog 69 (Go.TypeDesc.func #[25, 3] #[25] false) 1 false := ⟨Tryd.underlying69, Tryd.isAgg69, Tryd.sizeOf69⟩
instance zero69 : Zero Tryd.prog 69 (Go.Value.nilFunc) #[Go.Value.nilFunc] := ⟨Tryd.zeroValue69, rfl⟩
instance ty70 : Ty Tryd.prog 70 (Go.TypeDesc.func #[25, 25] #[28] false) 1 false := ⟨Tryd.underlying70, Tryd.isAgg70, Tryd.sizeOf70⟩
instance zero70 : Zero Tryd.prog 70 (Go.Value.nilFunc) #[Go.Value.nilFunc] := ⟨Tryd.zeroValue70, rfl⟩
instance ty71 : Ty Tryd.prog 71 (Go.TypeDesc.func #[3, 25, 25] #[25] false) 1 false := ⟨Tryd.underlying71, Tryd.isAgg71, Tryd.sizeOf71⟩
instance zero71 : Zero Tryd.prog 71 (Go.Value.nilFunc) #[Go.Value.nilFunc] := ⟨Tryd.zeroValue71, rfl⟩
instance ty72 : Ty Tryd.prog 72 (Go.TypeDesc.func #[25, 25] #[3] false) 1 false := ⟨Tryd.underlying72, Tryd.isAgg72, Tryd.sizeOf72⟩
instance zero72 : Zero Tryd.prog 72 (Go.Value.nilFunc) #[Go.Value.nilFunc] := ⟨Tryd.zeroValue72, rfl⟩
instance ty73 : Ty Tryd.prog 73 (Go.TypeDesc.func #[9, 9] #[65] false) 1 false := ⟨Tryd.underlying73, Tryd.isAgg73, Tryd.sizeOf73⟩
instance zero73 : Zero Tryd.prog 73 (Go.Value.nilFunc) #[Go.Value.nilFunc] := ⟨Tryd.zeroValue73, rfl⟩
instance ty74 : Ty Tryd.prog 74 (Go.TypeDesc.func #[3, 3, 25] #[48] false) 1 false := ⟨Tryd.underlying74, Tryd.isAgg74, Tryd.sizeOf74⟩
instance zero74 : Zero Tryd.prog 74 (Go.Value.nilFunc) #[Go.Value.nilFunc] := ⟨Tryd.zeroValue74, rfl⟩
instance ty75 : Ty Tryd.prog 75 (Go.TypeDesc.map 25 4) 1 false := ⟨Tryd.underlying75, Tryd.isAgg75, Tryd.sizeOf75⟩
instance zero75 : Zero Tryd.prog 75 (Go.Value.map none) #[Go.Value.map none] := ⟨Tryd.zeroValue75, rfl⟩
instance ty76 : Ty Tryd.prog 76 (Go.TypeDesc.func #[92] #[] false) 1 false := ⟨Tryd.underlying76, Tryd.isAgg76, Tryd.sizeOf76⟩
instance zero76 : Zero Tryd.prog 76 (Go.Value.nilFunc) #[Go.Value.nilFunc] := ⟨Tryd.zeroValue76, rfl⟩
instance ty77 : Ty Tryd.prog 77 (Go.TypeDesc.func #[92] #[] false) 1 false := ⟨Tryd.underlying77, Tryd.isAgg77, Tryd.sizeOf77⟩
instance zero77 : Zero Tryd.prog 77 (Go.Value.nilFunc) #[Go.Value.nilFunc] := ⟨Tryd.zeroValue77, rfl⟩
instance ty78 : Ty Tryd.prog 78 (Go.TypeDesc.func #[25, 3, 3] #[77] false) 1 false := ⟨Tryd.underlying78, Tryd.isAgg78, Tryd.sizeOf78⟩
instance zero78 : Zero Tryd.prog 78 (Go.Value.nilFunc) #[Go.Value.nilFunc] := ⟨Tryd.zeroValue78, rfl⟩
instance ty79 : Ty Tryd.prog 79 (Go.TypeDesc.int Go.IntKind.u64) 1 false := ⟨Tryd.underlying79, Tryd.isAgg79, Tryd.sizeOf79⟩
instance zero79 : Zero Tryd.prog 79 (Go.Value.int Go.IntKind.u64 0) #[Go.Value.int Go.IntKind.u64 0] := ⟨Tryd.zeroValue79, rfl⟩
instance ty80 : Ty Tryd.prog 80 (Go.TypeDesc.pointer 82) 1 false := ⟨Tryd.underlying80, Tryd.isAgg80, Tryd.sizeOf80⟩
instance zero80 : Zero Tryd.prog 80 (Go.Value.pointer none) #[Go.Value.pointer none] := ⟨Tryd.zeroValue80, rfl⟩
instance ty81 : Ty Tryd.prog 81 (Go.TypeDesc.struct #[{ name := "addr", type := 80, offset := 0, embedded := false, tag := "", pkgPath := "strings", byteOffset := 0 }, { name := "buf", type := 68, offset := 1, embedded := false, tag := "", pkgPath := "strings", byteOffset := 8 }]) 2 true := ⟨Tryd.underlying81, Tryd.isAgg81, Tryd.sizeOf81⟩
instance zero81 : Zero Tryd.prog 81 (Go.Value.agg #[Go.Value.pointer none, Go.Value.slice none 0 0]) #[Go.Value.pointer none, Go.Value.slice none 0 0] := ⟨Tryd.zeroValue81, rfl⟩
instance ty82 : Ty Tryd.prog 82 (Go.TypeDesc.struct #[{ name := "addr", type := 80, offset := 0, embedded := false, tag := "", pkgPath := "strings", byteOffset := 0 }, { name := "buf", type := 68, offset := 1, embedded := false, tag := "", pkgPath := "strings", byteOffset := 8 }]) 2 true := ⟨Tryd.underlying82, Tryd.isAgg82, Tryd.sizeOf82⟩
instance zero82 : Zero Tryd.prog 82 (Go.Value.agg #[Go.Value.pointer none, Go.Value.slice none 0 0]) #[Go.Value.pointer none, Go.Value.slice none 0 0] := ⟨Tryd.zeroValue82, rfl⟩
instance ty83 : Ty Tryd.prog 83 (Go.TypeDesc.func #[3] #[] false) 1 false := ⟨Tryd.underlying83, Tryd.isAgg83, Tryd.sizeOf83⟩
instance zero83 : Zero Tryd.prog 83 (Go.Value.nilFunc) #[Go.Value.nilFunc] := ⟨Tryd.zeroValue83, rfl⟩
instance ty84 : Ty Tryd.prog 84 (Go.TypeDesc.interface #[("Error", 88)]) 1 false := ⟨Tryd.underlying84, Tryd.isAgg84, Tryd.sizeOf84⟩
instance zero84 : Zero Tryd.prog 84 (Go.Value.nilIface) #[Go.Value.nilIface] := ⟨Tryd.zeroValue84, rfl⟩
instance ty85 : Ty Tryd.prog 85 (Go.TypeDesc.interface #[("Error", 88)]) 1 false := ⟨Tryd.underlying85, Tryd.isAgg85, Tryd.sizeOf85⟩
instance zero85 : Zero Tryd.prog 85 (Go.Value.nilIface) #[Go.Value.nilIface] := ⟨Tryd.zeroValue85, rfl⟩
instance ty86 : Ty Tryd.prog 86 (Go.TypeDesc.tuple #[3, 85]) 1 false := ⟨Tryd.underlying86, Tryd.isAgg86, Tryd.sizeOf86⟩
instance zero86 : Zero Tryd.prog 86 (Go.Value.tuple #[Go.Value.int Go.IntKind.i64 0, Go.Value.nilIface]) #[Go.Value.tuple #[Go.Value.int Go.IntKind.i64 0, Go.Value.nilIface]] := ⟨Tryd.zeroValue86, rfl⟩
instance ty87 : Ty Tryd.prog 87 (Go.TypeDesc.func #[9] #[3, 85] false) 1 false := ⟨Tryd.underlying87, Tryd.isAgg87, Tryd.sizeOf87⟩
instance zero87 : Zero Tryd.prog 87 (Go.Value.nilFunc) #[Go.Value.nilFunc] := ⟨Tryd.zeroValue87, rfl⟩
instance ty88 : Ty Tryd.prog 88 (Go.TypeDesc.func #[] #[9] false) 1 false := ⟨Tryd.underlying88, Tryd.isAgg88, Tryd.sizeOf88⟩
instance zero88 : Zero Tryd.prog 88 (Go.Value.nilFunc) #[Go.Value.nilFunc] := ⟨Tryd.zeroValue88, rfl⟩
instance ty89 : Ty Tryd.prog 89 (Go.TypeDesc.func #[9, 9, 3, 3] #[65] false) 1 false := ⟨Tryd.underlying89, Tryd.isAgg89, Tryd.sizeOf89⟩
instance zero89 : Zero Tryd.prog 89 (Go.Value.nilFunc) #[Go.Value.nilFunc] := ⟨Tryd.zeroValue89, rfl⟩
instance ty90 : Ty Tryd.prog 90 (Go.TypeDesc.func #[9, 9] #[3] false) 1 false := ⟨Tryd.underlying90, Tryd.isAgg90, Tryd.sizeOf90⟩
instance zero90 : Zero Tryd.prog 90 (Go.Value.nilFunc) #[Go.Value.nilFunc] := ⟨Tryd.zeroValue90, rfl⟩
instance ty91 : Ty Tryd.prog 91 (Go.TypeDesc.func #[2, 3] #[9] false) 1 false := ⟨Tryd.underlying91, Tryd.isAgg91, Tryd.sizeOf91⟩
instance zero91 : Zero Tryd.prog 91 (Go.Value.nilFunc) #[Go.Value.nilFunc] := ⟨Tryd.zeroValue91, rfl⟩
instance ty92 : Ty Tryd.prog 92 (Go.TypeDesc.func #[25] #[4] false) 1 false := ⟨Tryd.underlying92, Tryd.isAgg92, Tryd.sizeOf92⟩
instance zero92 : Zero Tryd.prog 92 (Go.Value.nilFunc) #[Go.Value.nilFunc] := ⟨Tryd.zeroValue92, rfl⟩
instance ty93 : Ty Tryd.prog 93 (Go.TypeDesc.pointer 5) 1 false := ⟨Tryd.underlying93, Tryd.isAgg93, Tryd.sizeOf93⟩
instance zero93 : Zero Tryd.prog 93 (Go.Value.pointer none) #[Go.Value.pointer none] := ⟨Tryd.zeroValue93, rfl⟩
instance ty94 : Ty Tryd.prog 94 (Go.TypeDesc.func #[9, 3] #[65] false) 1 false := ⟨Tryd.underlying94, Tryd.isAgg94, Tryd.sizeOf94⟩
instance zero94 : Zero Tryd.prog 94 (Go.Value.nilFunc) #[Go.Value.nilFunc] := ⟨Tryd.zeroValue94, rfl⟩
instance ty95 : Ty Tryd.prog 95 (Go.TypeDesc.func #[9] #[3] false) 1 false := ⟨Tryd.underlying95, Tryd.isAgg95, Tryd.sizeOf95⟩
instance zero95 : Zero Tryd.prog 95 (Go.Value.nilFunc) #[Go.Value.nilFunc] := ⟨Tryd.zeroValue95, rfl⟩
instance ty96 : Ty Tryd.prog 96 (Go.TypeDesc.func #[9, 5] #[3] false) 1 false := ⟨Tryd.underlying96, Tryd.isAgg96, Tryd.sizeOf96⟩
instance zero96 : Zero Tryd.prog 96 (Go.Value.nilFunc) #[Go.Value.nilFunc] := ⟨Tryd.zeroValue96, rfl⟩
instance ty97 : Ty Tryd.prog 97 (Go.TypeDesc.array 24 5) 24 true := ⟨Tryd.underlying97, Tryd.isAgg97, Tryd.sizeOf97⟩
instance zero97 : Zero Tryd.prog 97 (Go.Value.agg #[Go.Value.int Go.IntKind.u8 0, Go.Value.int Go.IntKind.u8 0, Go.Value.int Go.IntKind.u8 0, Go.Value.int Go.IntKind.u8 0, Go.Value.int Go.IntKind.u8 0, Go.Value.int Go.IntKind.u8 0, Go.Value.int Go.IntKind.u8 0, Go.Value.int Go.IntKind.u8 0, Go.Value.int Go.IntKind.u8 0, Go.Value.int Go.IntKind.u8 0, Go.Value.int Go.IntKind.u8 0, Go.Value.int Go.IntKind.u8 0, Go.Value.int Go.IntKind.u8 0, Go.Value.int Go.IntKind.u8 0, Go.Value.int Go.IntKind.u8 0, Go.Value.int Go.IntKind.u8 0, Go.Value.int Go.IntKind.u8 0, Go.Value.int Go.IntKind.u8 0, Go.Value.int Go.IntKind.u8 0, Go.Value.int Go.IntKind.u8 0, Go.Value.int Go.IntKind.u8 0, Go.Value.int Go.IntKind.u8 0, Go.Value.int Go.IntKind.u8 0, Go.Value.int Go.IntKind.u8 0]) #[Go.Value.int Go.IntKind.u8 0, Go.Value.int Go.IntKind.u8 0, Go.Value.int Go.IntKind.u8 0, Go.Value.int Go.IntKind.u8 0, Go.Value.int Go.IntKind.u8 0, Go.Value.int Go.IntKind.u8 0, Go.Value.int Go.IntKind.u8 0, Go.Value.int Go.IntKind.u8 0, Go.Value.int Go.IntKind.u8 0, Go.Value.int Go.IntKind.u8 0, Go.Value.int Go.IntKind.u8 0, Go.Value.int Go.IntKind.u8 0, Go.Value.int Go.IntKind.u8 0, Go.Value.int Go.IntKind.u8 0, Go.Value.int Go.IntKind.u8 0, Go.Value.int Go.IntKind.u8 0, Go.Value.int Go.IntKind.u8 0, Go.Value.int Go.IntKind.u8 0, Go.Value.int Go.IntKind.u8 0, Go.Value.int Go.IntKind.u8 0, Go.Value.int Go.IntKind.u8 0, Go.Value.int Go.IntKind.u8 0, Go.Value.int Go.IntKind.u8 0, Go.Value.int Go.IntKind.u8 0] := ⟨Tryd.zeroValue97, rfl⟩
instance ty98 : Ty Tryd.prog 98 (Go.TypeDesc.int Go.IntKind.u64) 1 false := ⟨Tryd.underlying98, Tryd.isAgg98, Tryd.sizeOf98⟩
instance zero98 : Zero Tryd.prog 98 (Go.Value.int Go.IntKind.u64 0) #[Go.Value.int Go.IntKind.u64 0] := ⟨Tryd.zeroValue98, rfl⟩
instance ty99 : Ty Tryd.prog 99 (Go.TypeDesc.func #[98] #[3] false) 1 false := ⟨Tryd.underlying99, Tryd.isAgg99, Tryd.sizeOf99⟩
instance zero99 : Zero Tryd.prog 99 (Go.Value.nilFunc) #[Go.Value.nilFunc] := ⟨Tryd.zeroValue99, rfl⟩
instance ty100 : Ty Tryd.prog 100 (Go.TypeDesc.func #[68, 98] #[] false) 1 false := ⟨Tryd.underlying100, Tryd.isAgg100, Tryd.sizeOf100⟩
instance zero100 : Zero Tryd.prog 100 (Go.Value.nilFunc) #[Go.Value.nilFunc] := ⟨Tryd.zeroValue100, rfl⟩
instance ty101 : Ty Tryd.prog 101 (Go.TypeDesc.tuple #[68, 9]) 1 false := ⟨Tryd.underlying101, Tryd.isAgg101, Tryd.sizeOf101⟩
instance zero101 : Zero Tryd.prog 101 (Go.Value.tuple #[Go.Value.slice none 0 0, Go.Value.string { data := #[] }]) #[Go.Value.tuple #[Go.Value.slice none 0 0, Go.Value.string { data := #[] }]] := ⟨Tryd.zeroValue101, rfl⟩
instance ty102 : Ty Tryd.prog 102 (Go.TypeDesc.func #[68, 98, 3, 4, 4] #[68, 9] false) 1 false := ⟨Tryd.underlying102, Tryd.isAgg102, Tryd.sizeOf102⟩
instance zero102 : Zero Tryd.prog 102 (Go.Value.nilFunc) #[Go.Value.nilFunc] := ⟨Tryd.zeroValue102, rfl⟩
instance ty103 : Ty Tryd.prog 103 (Go.TypeDesc.unsafePointer) 1 false := ⟨Tryd.underlying103, Tryd.isAgg103, Tryd.sizeOf103⟩
instance zero103 : Zero Tryd.prog 103 (Go.Value.pointer none) #[Go.Value.pointer none] := ⟨Tryd.zeroValue103, rfl⟩
instance ty104 : Ty Tryd.prog 104 (Go.TypeDesc.func #[103] #[103] false) 1 false := ⟨Tryd.underlying104, Tryd.isAgg104, Tryd.sizeOf104⟩
instance zero104 : Zero Tryd.prog 104 (Go.Value.nilFunc) #[Go.Value.nilFunc] := ⟨Tryd.zeroValue104, rfl⟩
instance ty105 : Ty Tryd.prog 105 (Go.TypeDesc.func #[3] #[68] false) 1 false := ⟨Tryd.underlying105, Tryd.isAgg105, Tryd.sizeOf105⟩
instance zero105 : Zero Tryd.prog 105 (Go.Value.nilFunc) #[Go.Value.nilFunc] := ⟨Tryd.zeroValue105, rfl⟩
instance ty106 : Ty Tryd.prog 106 (Go.TypeDesc.tuple #[21, 3]) 1 false := ⟨Tryd.underlying106, Tryd.isAgg106, Tryd.sizeOf106⟩
instance zero106 : Zero Tryd.prog 106 (Go.Value.tuple #[Go.Value.int Go.IntKind.i32 0, Go.Value.int Go.IntKind.i64 0]) #[Go.Value.tuple #[Go.Value.int Go.IntKind.i32 0, Go.Value.int Go.IntKind.i64 0]] := ⟨Tryd.zeroValue106, rfl⟩
instance ty107 : Ty Tryd.prog 107 (Go.TypeDesc.func #[9] #[21, 3] false) 1 false := ⟨Tryd.underlying107, Tryd.isAgg107, Tryd.sizeOf107⟩
instance zero107 : Zero Tryd.prog 107 (Go.Value.nilFunc) #[Go.Value.nilFunc] := ⟨Tryd.zeroValue107, rfl⟩
instance ty108 : Ty Tryd.prog 108 (Go.TypeDesc.func #[3] #[3] false) 1 false := ⟨Tryd.underlying108, Tryd.isAgg108, Tryd.sizeOf108⟩
instance zero108 : Zero Tryd.prog 108 (Go.Value.nilFunc) #[Go.Value.nilFunc] := ⟨Tryd.zeroValue108, rfl⟩
instance ty109 : Ty Tryd.prog 109 (Go.TypeDesc.func #[4] #[3] false) 1 false := ⟨Tryd.underlying109, Tryd.isAgg109, Tryd.sizeOf109⟩
instance zero109 : Zero Tryd.prog 109 (Go.Value.nilFunc) #[Go.Value.nilFunc] := ⟨Tryd.zeroValue109, rfl⟩
instance ty110 : Ty Tryd.prog 110 (Go.TypeDesc.array 20 98) 20 true := ⟨Tryd.underlying110, Tryd.isAgg110, Tryd.sizeOf110⟩
instance zero110 : Zero Tryd.prog 110 (Go.Value.agg #[Go.Value.int Go.IntKind.u64 0, Go.Value.int Go.IntKind.u64 0, Go.Value.int Go.IntKind.u64 0, Go.Value.int Go.IntKind.u64 0, Go.Value.int Go.IntKind.u64 0, Go.Value.int Go.IntKind.u64 0, Go.Value.int Go.IntKind.u64 0, Go.Value.int Go.IntKind.u64 0, Go.Value.int Go.IntKind.u64 0, Go.Value.int Go.IntKind.u64 0, Go.Value.int Go.IntKind.u64 0, Go.Value.int Go.IntKind.u64 0, Go.Value.int Go.IntKind.u64 0, Go.Value.int Go.IntKind.u64 0, Go.Value.int Go.IntKind.u64 0, Go.Value.int Go.IntKind.u64 0, Go.Value.int Go.IntKind.u64 0, Go.Value.int Go.IntKind.u64 0, Go.Value.int Go.IntKind.u64 0, Go.Value.int Go.IntKind.u64 0]) #[Go.Value.int Go.IntKind.u64 0, Go.Value.int Go.IntKind.u64 0, Go.Value.int Go.IntKind.u64 0, Go.Value.int Go.IntKind.u64 0, Go.Value.int Go.IntKind.u64 0, Go.Value.int Go.IntKind.u64 0, Go.Value.int Go.IntKind.u64 0, Go.Value.int Go.IntKind.u64 0, Go.Value.int Go.IntKind.u64 0, Go.Value.int Go.IntKind.u64 0, Go.Value.int Go.IntKind.u64 0, Go.Value.int Go.IntKind.u64 0, Go.Value.int Go.IntKind.u64 0, Go.Value.int Go.IntKind.u64 0, Go.Value.int Go.IntKind.u64 0, Go.Value.int Go.IntKind.u64 0, Go.Value.int Go.IntKind.u64 0, Go.Value.int Go.IntKind.u64 0, Go.Value.int Go.IntKind.u64 0, Go.Value.int Go.IntKind.u64 0] := ⟨Tryd.zeroValue110, rfl⟩
instance ty111 : Ty Tryd.prog 111 (Go.TypeDesc.int Go.IntKind.u32) 1 false := ⟨Tryd.underlying111, Tryd.isAgg111, Tryd.sizeOf111⟩
instance zero111 : Zero Tryd.prog 111 (Go.Value.int Go.IntKind.u32 0) #[Go.Value.int Go.IntKind.u32 0] := ⟨Tryd.zeroValue111, rfl⟩
instance ty112 : Ty Tryd.prog 112 (Go.TypeDesc.array 65 5) 65 true := ⟨Tryd.underlying112, Tryd.isAgg112, Tryd.sizeOf112⟩
instance zero112 : Zero Tryd.prog 112 (Go.Value.agg Go.Proofs.Tryd.zeroCells112) Go.Proofs.Tryd.zeroCells112 := ⟨Tryd.zeroValue112, rfl⟩
instance ty113 : Ty Tryd.prog 113 (Go.TypeDesc.func #[3] #[4] false) 1 false := ⟨Tryd.underlying113, Tryd.isAgg113, Tryd.sizeOf113⟩
instance zero113 : Zero Tryd.prog 113 (Go.Value.nilFunc) #[Go.Value.nilFunc] := ⟨Tryd.zeroValue113, rfl⟩
instance ty114 : Ty Tryd.prog 114 (Go.TypeDesc.func #[79] #[3] false) 1 false := ⟨Tryd.underlying114, Tryd.isAgg114, Tryd.sizeOf114⟩
instance zero114 : Zero Tryd.prog 114 (Go.Value.nilFunc) #[Go.Value.nilFunc] := ⟨Tryd.zeroValue114, rfl⟩
instance ty115 : Ty Tryd.prog 115 (Go.TypeDesc.func #[111] #[3] false) 1 false := ⟨Tryd.underlying115, Tryd.isAgg115, Tryd.sizeOf115⟩
instance zero115 : Zero Tryd.prog 115 (Go.Value.nilFunc) #[Go.Value.nilFunc] := ⟨Tryd.zeroValue115, rfl⟩
instance ty116 : Ty Tryd.prog 116 (Go.TypeDesc.array 256 5) 256 true := ⟨Tryd.underlying116, Tryd.isAgg116, Tryd.sizeOf116⟩
instance zero116 : Zero Tryd.prog 116 (Go.Value.agg Go.Proofs.Tryd.zeroCells116) Go.Proofs.Tryd.zeroCells116 := ⟨Tryd.zeroValue116, rfl⟩
instance ty117 : Ty Tryd.prog 117 (Go.TypeDesc.struct #[{ name := "lo", type := 5, offset := 0, embedded := false, tag := "", pkgPath := "unicode/utf8", byteOffset := 0 }, { name := "hi", type := 5, offset := 1, embedded := false, tag := "", pkgPath := "unicode/utf8", byteOffset := 1 }]) 2 true := ⟨Tryd.underlying117, Tryd.isAgg117, Tryd.sizeOf117⟩
instance zero117 : Zero Tryd.prog 117 (Go.Value.agg #[Go.Value.int Go.IntKind.u8 0, Go.Value.int Go.IntKind.u8 0]) #[Go.Value.int Go.IntKind.u8 0, Go.Value.int Go.IntKind.u8 0] := ⟨Tryd.zeroValue117, rfl⟩
instance ty118 : Ty Tryd.prog 118 (Go.TypeDesc.struct #[{ name := "lo", type := 5, offset := 0, embedded := false, tag := "", pkgPath := "unicode/utf8", byteOffset := 0 }, { name := "hi", type := 5, offset := 1, embedded := false, tag := "", pkgPath := "unicode/utf8", byteOffset := 1 }]) 2 true := ⟨Tryd.underlying118, Tryd.isAgg118, Tryd.sizeOf118⟩
instance zero118 : Zero Tryd.prog 118 (Go.Value.agg #[Go.Value.int Go.IntKind.u8 0, Go.Value.int Go.IntKind.u8 0]) #[Go.Value.int Go.IntKind.u8 0, Go.Value.int Go.IntKind.u8 0] := ⟨Tryd.zeroValue118, rfl⟩
instance ty119 : Ty Tryd.prog 119 (Go.TypeDesc.array 16 118) 32 true := ⟨Tryd.underlying119, Tryd.isAgg119, Tryd.sizeOf119⟩
instance zero119 : Zero Tryd.prog 119 (Go.Value.agg #[Go.Value.int Go.IntKind.u8 0, Go.Value.int Go.IntKind.u8 0, Go.Value.int Go.IntKind.u8 0, Go.Value.int Go.IntKind.u8 0, Go.Value.int Go.IntKind.u8 0, Go.Value.int Go.IntKind.u8 0, Go.Value.int Go.IntKind.u8 0, Go.Value.int Go.IntKind.u8 0, Go.Value.int Go.IntKind.u8 0, Go.Value.int Go.IntKind.u8 0, Go.Value.int Go.IntKind.u8 0, Go.Value.int Go.IntKind.u8 0, Go.Value.int Go.IntKind.u8 0, Go.Value.int Go.IntKind.u8 0, Go.Value.int Go.IntKind.u8 0, Go.Value.int Go.IntKind.u8 0, Go.Value.int Go.IntKind.u8 0, Go.Value.int Go.IntKind.u8 0, Go.Value.int Go.IntKind.u8 0, Go.Value.int Go.IntKind.u8 0, Go.Value.int Go.IntKind.u8 0, Go.Value.int Go.IntKind.u8 0, Go.Value.int Go.IntKind.u8 0, Go.Value.int Go.IntKind.u8 0, Go.Value.int Go.IntKind.u8 0, Go.Value.int Go.IntKind.u8 0, Go.Value.int Go.IntKind.u8 0, Go.Value.int Go.IntKind.u8 0, Go.Value.int Go.IntKind.u8 0, Go.Value.int Go.IntKind.u8 0, Go.Value.int Go.IntKind.u8 0, Go.Value.int Go.IntKind.u8 0]) #[Go.Value.int Go.IntKind.u8 0, Go.Value.int Go.IntKind.u8 0, Go.Value.int Go.IntKind.u8 0, Go.Value.int Go.IntKind.u8 0, Go.Value.int Go.IntKind.u8 0, Go.Value.int Go.IntKind.u8 0, Go.Value.int Go.IntKind.u8 0, Go.Value.int Go.IntKind.u8 0, Go.Value.int Go.IntKind.u8 0, Go.Value.int Go.IntKind.u8 0, Go.Value.int Go.IntKind.u8 0, Go.Value.int Go.IntKind.u8 0, Go.Value.int Go.IntKind.u8 0, Go.Value.int Go.IntKind.u8 0, Go.Value.int Go.IntKind.u8 0, Go.Value.int Go.IntKind.u8 0, Go.Value.int Go.IntKind.u8 0, Go.Value.int Go.IntKind.u8 0, Go.Value.int Go.IntKind.u8 0, Go.Value.int Go.IntKind.u8 0, Go.Value.int Go.IntKind.u8 0, Go.Value.int Go.IntKind.u8 0, Go.Value.int Go.IntKind.u8 0, Go.Value.int Go.IntKind.u8 0, Go.Value.int Go.IntKind.u8 0, Go.Value.int Go.IntKind.u8 0, Go.Value.int Go.IntKind.u8 0, Go.Value.int Go.IntKind.u8 0, Go.Value.int Go.IntKind.u8 0, Go.Value.int Go.IntKind.u8 0, Go.Value.int Go.IntKind.u8 0, Go.Value.int Go.IntKind.u8 0] := ⟨Tryd.zeroValue119, rfl⟩
instance ty120 : Ty Tryd.prog 120 (Go.TypeDesc.tuple #[111, 111]) 1 false := ⟨Tryd.underlying120, Tryd.isAgg120, Tryd.sizeOf120⟩
instance zero120 : Zero Tryd.prog 120 (Go.Value.tuple #[Go.Value.int Go.IntKind.u32 0, Go.Value.int Go.IntKind.u32 0]) #[Go.Value.tuple #[Go.Value.int Go.IntKind.u32 0, Go.Value.int Go.IntKind.u32 0]] := ⟨Tryd.zeroValue120, rfl⟩
instance ty121 : Ty Tryd.prog 121 (Go.TypeDesc.func #[9] #[111, 111] false) 1 false := ⟨Tryd.underlying121, Tryd.isAgg121, Tryd.sizeOf121⟩
instance zero121 : Zero Tryd.prog 121 (Go.Value.nilFunc) #[Go.Value.nilFunc] := ⟨Tryd.zeroValue121, rfl⟩
instance ty122 : Ty Tryd.prog 122 (Go.TypeDesc.array 32 5) 32 true := ⟨Tryd.underlying122, Tryd.isAgg122, Tryd.sizeOf122⟩
instance zero122 : Zero Tryd.prog 122 (Go.Value.agg #[Go.Value.int Go.IntKind.u8 0, Go.Value.int Go.IntKind.u8 0, Go.Value.int Go.IntKind.u8 0, Go.Value.int Go.IntKind.u8 0, Go.Value.int Go.IntKind.u8 0, Go.Value.int Go.IntKind.u8 0, Go.Value.int Go.IntKind.u8 0, Go.Value.int Go.IntKind.u8 0, Go.Value.int Go.IntKind.u8 0, Go.Value.int Go.IntKind.u8 0, Go.Value.int Go.IntKind.u8 0, Go.Value.int Go.IntKind.u8 0, Go.Value.int Go.IntKind.u8 0, Go.Value.int Go.IntKind.u8 0, Go.Value.int Go.IntKind.u8 0, Go.Value.int Go.IntKind.u8 0, Go.Value.int Go.IntKind.u8 0, Go.Value.int Go.IntKind.u8 0, Go.Value.int Go.IntKind.u8 0, Go.Value.int Go.IntKind.u8 0, Go.Value.int Go.IntKind.u8 0, Go.Value.int Go.IntKind.u8 0, Go.Value.int Go.IntKind.u8 0, Go.Value.int Go.IntKind.u8 0, Go.Value.int Go.IntKind.u8 0, Go.Value.int Go.IntKind.u8 0, Go.Value.int Go.IntKind.u8 0, Go.Value.int Go.IntKind.u8 0, Go.Value.int Go.IntKind.u8 0, Go.Value.int Go.IntKind.u8 0, Go.Value.int Go.IntKind.u8 0, Go.Value.int Go.IntKind.u8 0]) #[Go.Value.int Go.IntKind.u8 0, Go.Value.int Go.IntKind.u8 0, Go.Value.int Go.IntKind.u8 0, Go.Value.int Go.IntKind.u8 0, Go.Value.int Go.IntKind.u8 0, Go.Value.int Go.IntKind.u8 0, Go.Value.int Go.IntKind.u8 0, Go.Value.int Go.IntKind.u8 0, Go.Value.int Go.IntKind.u8 0, Go.Value.int Go.IntKind.u8 0, Go.Value.int Go.IntKind.u8 0, Go.Value.int Go.IntKind.u8 0, Go.Value.int Go.IntKind.u8 0, Go.Value.int Go.IntKind.u8 0, Go.Value.int Go.IntKind.u8 0, Go.Value.int Go.IntKind.u8 0, Go.Value.int Go.IntKind.u8 0, Go.Value.int Go.IntKind.u8 0, Go.Value.int Go.IntKind.u8 0, Go.Value.int Go.IntKind.u8 0, Go.Value.int Go.IntKind.u8 0, Go.Value.int Go.IntKind.u8 0, Go.Value.int Go.IntKind.u8 0, Go.Value.int Go.IntKind.u8 0, Go.Value.int Go.IntKind.u8 0, Go.Value.int Go.IntKind.u8 0, Go.Value.int Go.IntKind.u8 0, Go.Value.int Go.IntKind.u8 0, Go.Value.int Go.IntKind.u8 0, Go.Value.int Go.IntKind.u8 0, Go.Value.int Go.IntKind.u8 0, Go.Value.int Go.IntKind.u8 0] := ⟨Tryd.zeroValue122, rfl⟩
instance ty123 : Ty Tryd.prog 123 (Go.TypeDesc.array 64 5) 64 true := ⟨Tryd.underlying123, Tryd.isAgg123, Tryd.sizeOf123⟩
instance zero123 : Zero Tryd.prog 123 (Go.Value.agg #[Go.Value.int Go.IntKind.u8 0, Go.Value.int Go.IntKind.u8 0, Go.Value.int Go.IntKind.u8 0, Go.Value.int Go.IntKind.u8 0, Go.Value.int Go.IntKind.u8 0, Go.Value.int Go.IntKind.u8 0, Go.Value.int Go.IntKind.u8 0, Go.Value.int Go.IntKind.u8 0, Go.Value.int Go.IntKind.u8 0, Go.Value.int Go.IntKind.u8 0, Go.Value.int Go.IntKind.u8 0, Go.Value.int Go.IntKind.u8 0, Go.Value.int Go.IntKind.u8 0, Go.Value.int Go.IntKind.u8 0, Go.Value.int Go.IntKind.u8 0, Go.Value.int Go.IntKind.u8 0, Go.Value.int Go.IntKind.u8 0, Go.Value.int Go.IntKind.u8 0, Go.Value.int Go.IntKind.u8 0, Go.Value.int Go.IntKind.u8 0, Go.Value.int Go.IntKind.u8 0, Go.Value.int Go.IntKind.u8 0, Go.Value.int Go.IntKind.u8 0, Go.Value.int Go.IntKind.u8 0, Go.Value.int Go.IntKind.u8 0, Go.Value.int Go.IntKind.u8 0, Go.Value.int Go.IntKind.u8 0, Go.Value.int Go.IntKind.u8 0, Go.Value.int Go.IntKind.u8 0, Go.Value.int Go.IntKind.u8 0, Go.Value.int Go.IntKind.u8 0, Go.Value.int Go.IntKind.u8 0, Go.Value.int Go.IntKind.u8 0, Go.Value.int Go.IntKind.u8 0, Go.Value.int Go.IntKind.u8 0, Go.Value.int Go.IntKind.u8 0, Go.Value.int Go.IntKind.u8 0, Go.Value.int Go.IntKind.u8 0, Go.Value.int Go.IntKind.u8 0, Go.Value.int Go.IntKind.u8 0, Go.Value.int Go.IntKind.u8 0, Go.Value.int Go.IntKind.u8 0, Go.Value.int Go.IntKind.u8 0, Go.Value.int Go.IntKind.u8 0, Go.Value.int Go.IntKind.u8 0, Go.Value.int Go.IntKind.u8 0, Go.Value.int Go.IntKind.u8 0, Go.Value.int Go.IntKind.u8 0, Go.Value.int Go.IntKind.u8 0, Go.Value.int Go.IntKind.u8 0, Go.Value.int Go.IntKind.u8 0, Go.Value.int Go.IntKind.u8 0, Go.Value.int Go.IntKind.u8 0, Go.Value.int Go.IntKind.u8 0, Go.Value.int Go.IntKind.u8 0, Go.Value.int Go.IntKind.u8 0, Go.Value.int Go.IntKind.u8 0, Go.Value.int Go.IntKind.u8 0, Go.Value.int Go.IntKind.u8 0, Go.Value.int Go.IntKind.u8 0, Go.Value.int Go.IntKind.u8 0, Go.Value.int Go.IntKind.u8 0, Go.Value.int Go.IntKind.u8 0, Go.Value.int Go.IntKind.u8 0]) #[Go.Value.int Go.IntKind.u8 0, Go.Value.int Go.IntKind.u8 0, Go.Value.int Go.IntKind.u8 0, Go.Value.int Go.IntKind.u8 0, Go.Value.int Go.IntKind.u8 0, Go.Value.int Go.IntKind.u8 0, Go.Value.int Go.IntKind.u8 0, Go.Value.int Go.IntKind.u8 0, Go.Value.int Go.IntKind.u8 0, Go.Value.int Go.IntKind.u8 0, Go.Value.int Go.IntKind.u8 0, Go.Value.int Go.IntKind.u8 0, Go.Value.int Go.IntKind.u8 0, Go.Value.int Go.IntKind.u8 0, Go.Value.int Go.IntKind.u8 0, Go.Value.int Go.IntKind.u8 0, Go.Value.int Go.IntKind.u8 0, Go.Value.int Go.IntKind.u8 0, Go.Value.int Go.IntKind.u8 0, Go.Value.int Go.IntKind.u8 0, Go.Value.int Go.IntKind.u8 0, Go.Value.int Go.IntKind.u8 0, Go.Value.int Go.IntKind.u8 0, Go.Value.int Go.IntKind.u8 0, Go.Value.int Go.IntKind.u8 0, Go.Value.int Go.IntKind.u8 0, Go.Value.int Go.IntKind.u8 0, Go.Value.int Go.IntKind.u8 0, Go.Value.int Go.IntKind.u8 0, Go.Value.int Go.IntKind.u8 0, Go.Value.int Go.IntKind.u8 0, Go.Value.int Go.IntKind.u8 0, Go.Value.int Go.IntKind.u8 0, Go.Value.int Go.IntKind.u8 0, Go.Value.int Go.IntKind.u8 0, Go.Value.int Go.IntKind.u8 0, Go.Value.int Go.IntKind.u8 0, Go.Value.int Go.IntKind.u8 0, Go.Value.int Go.IntKind.u8 0, Go.Value.int Go.IntKind.u8 0, Go.Value.int Go.IntKind.u8 0, Go.Value.int Go.IntKind.u8 0, Go.Value.int Go.IntKind.u8 0, Go.Value.int Go.IntKind.u8 0, Go.Value.int Go.IntKind.u8 0, Go.Value.int Go.IntKind.u8 0, Go.Value.int Go.IntKind.u8 0, Go.Value.int Go.IntKind.u8 0, Go.Value.int Go.IntKind.u8 0, Go.Value.int Go.IntKind.u8 0, Go.Value.int Go.IntKind.u8 0, Go.Value.int Go.IntKind.u8 0, Go.Value.int Go.IntKind.u8 0, Go.Value.int Go.IntKind.u8 0, Go.Value.int Go.IntKind.u8 0, Go.Value.int Go.IntKind.u8 0, Go.Value.int Go.IntKind.u8 0, Go.Value.int Go.IntKind.u8 0, Go.Value.int Go.IntKind.u8 0, Go.Value.int Go.IntKind.u8 0, Go.Value.int Go.IntKind.u8 0, Go.Value.int Go.IntKind.u8 0, Go.Value.int Go.IntKind.u8 0, Go.Value.int Go.IntKind.u8 0] := ⟨Tryd.zeroValue123, rfl⟩
instance ty124 : Ty Tryd.prog 124 (Go.TypeDesc.struct #[{ name := "_interface", type := 17, offset := 0, embedded := false, tag := "", pkgPath := "runtime", byteOffset := 0 }, { name := "concrete", type := 17, offset := 1, embedded := false, tag := "", pkgPath := "runtime", byteOffset := 8 }, { name := "asserted", type := 17, offset := 2, embedded := false, tag := "", pkgPath := "runtime", byteOffset := 16 }, { name := "missingMethod", type := 9, offset := 3, embedded := false, tag := "", pkgPath := "runtime", byteOffset := 24 }]) 4 true := ⟨Tryd.underlying124, Tryd.isAgg124, Tryd.sizeOf124⟩
instance zero124 : Zero Tryd.prog 124 (Go.Value.agg #[Go.Value.pointer none, Go.Value.pointer none, Go.Value.pointer none, Go.Value.string { data := #[] }]) #[Go.Value.pointer none, Go.Value.pointer none, Go.Value.pointer none, Go.Value.string { data := #[] }] := ⟨Tryd.zeroValue124, rfl⟩
instance ty125 : Ty Tryd.prog 125 (Go.TypeDesc.struct #[{ name := "_interface", type := 17, offset := 0, embedded := false, tag := "", pkgPath := "runtime", byteOffset := 0 }, { name := "concrete", type := 17, offset := 1, embedded := false, tag := "", pkgPath := "runtime", byteOffset := 8 }, { name := "asserted", type := 17, offset := 2, embedded := false, tag := "", pkgPath := "runtime", byteOffset := 16 }, { name := "missingMethod", type := 9, offset := 3, embedded := false, tag := "", pkgPath := "runtime", byteOffset := 24 }]) 4 true := ⟨Tryd.underlying125, Tryd.isAgg125, Tryd.sizeOf125⟩
instance zero125 : Zero Tryd.prog 125 (Go.Value.agg #[Go.Value.pointer none, Go.Value.pointer none, Go.Value.pointer none, Go.Value.string { data := #[] }]) #[Go.Value.pointer none, Go.Value.pointer none, Go.Value.pointer none, Go.Value.string { data := #[] }] := ⟨Tryd.zeroValue125, rfl⟩
instance ty126 : Ty Tryd.prog 126 (Go.TypeDesc.array 0 16) 0 true := ⟨Tryd.underlying126, Tryd.isAgg126, Tryd.sizeOf126⟩
instance zero126 : Zero Tryd.prog 126 (Go.Value.agg #[]) #[] := ⟨Tryd.zeroValue126, rfl⟩
instance ty127 : Ty Tryd.prog 127 (Go.TypeDesc.struct #[{ name := "_", type := 126, offset := 0, embedded := false, tag := "", pkgPath := "runtime", byteOffset := 0 }]) 0 true := ⟨Tryd.underlying127, Tryd.isAgg127, Tryd.sizeOf127⟩
instance zero127 : Zero Tryd.prog 127 (Go.Value.agg #[]) #[] := ⟨Tryd.zeroValue127, rfl⟩
instance ty128 : Ty Tryd.prog 128 (Go.TypeDesc.struct #[{ name := "_", type := 126, offset := 0, embedded := false, tag := "", pkgPath := "runtime", byteOffset := 0 }]) 0 true := ⟨Tryd.underlying128, Tryd.isAgg128, Tryd.sizeOf128⟩
instance zero128 : Zero Tryd.prog 128 (Go.Value.agg #[]) #[] := ⟨Tryd.zeroValue128, rfl⟩
instance ty129 : Ty Tryd.prog 129 (Go.TypeDesc.func #[] #[3] false) 1 false := ⟨Tryd.underlying129, Tryd.isAgg129, Tryd.sizeOf129⟩
instance zero129 : Zero Tryd.prog 129 (Go.Value.nilFunc) #[Go.Value.nilFunc] := ⟨Tryd.zeroValue129, rfl⟩
instance ty130 : Ty Tryd.prog 130 (Go.TypeDesc.int Go.IntKind.u8) 1 false := ⟨Tryd.underlying130, Tryd.isAgg130, Tryd.sizeOf130⟩
instance zero130 : Zero Tryd.prog 130 (Go.Value.int Go.IntKind.u8 0) #[Go.Value.int Go.IntKind.u8 0] := ⟨Tryd.zeroValue130, rfl⟩
instance ty131 : Ty Tryd.prog 131 (Go.TypeDesc.int Go.IntKind.u8) 1 false := ⟨Tryd.underlying131, Tryd.isAgg131, Tryd.sizeOf131⟩
instance zero131 : Zero Tryd.prog 131 (Go.Value.int Go.IntKind.u8 0) #[Go.Value.int Go.IntKind.u8 0] := ⟨Tryd.zeroValue131, rfl⟩
instance ty132 : Ty Tryd.prog 132 (Go.TypeDesc.func #[103, 103] #[4] false) 1 false := ⟨Tryd.underlying132, Tryd.isAgg132, Tryd.sizeOf132⟩
instance zero132 : Zero Tryd.prog 132 (Go.Value.nilFunc) #[Go.Value.nilFunc] := ⟨Tryd.zeroValue132, rfl⟩
instance ty133 : Ty Tryd.prog 133 (Go.TypeDesc.int Go.IntKind.i32) 1 false := ⟨Tryd.underlying133, Tryd.isAgg133, Tryd.sizeOf133⟩
instance zero133 : Zero Tryd.prog 133 (Go.Value.int Go.IntKind.i32 0) #[Go.Value.int Go.IntKind.i32 0] := ⟨Tryd.zeroValue133, rfl⟩
instance ty134 : Ty Tryd.prog 134 (Go.TypeDesc.int Go.IntKind.i32) 1 false := ⟨Tryd.underlying134, Tryd.isAgg134, Tryd.sizeOf134⟩
instance zero134 : Zero Tryd.prog 134 (Go.Value.int Go.IntKind.i32 0) #[Go.Value.int Go.IntKind.i32 0] := ⟨Tryd.zeroValue134, rfl⟩
instance ty135 : Ty Tryd.prog 135 (Go.TypeDesc.struct #[{ name := "Size_", type := 12, offset := 0, embedded := false, tag := "", pkgPath := "", byteOffset := 0 }, { name := "PtrBytes", type := 12, offset := 1, embedded := false, tag := "", pkgPath := "", byteOffset := 8 }, { name := "Hash", type := 111, offset := 2, embedded := false, tag := "", pkgPath := "", byteOffset := 16 }, { name := "TFlag", type := 130, offset := 3, embedded := false, tag := "", pkgPath := "", byteOffset := 20 }, { name := "Align_", type := 5, offset := 4, embedded := false, tag := "", pkgPath := "", byteOffset := 21 }, { name := "FieldAlign_", type := 5, offset := 5, embedded := false, tag := "", pkgPath := "", byteOffset := 22 }, { name := "Kind_", type := 131, offset := 6, embedded := false, tag := "", pkgPath := "", byteOffset := 23 }, { name := "Equal", type := 132, offset := 7, embedded := false, tag := "", pkgPath := "", byteOffset := 24 }, { name := "GCData", type := 93, offset := 8, embedded := false, tag := "", pkgPath := "", byteOffset := 32 }, { name := "Str", type := 133, offset := 9, embedded := false, tag := "", pkgPath := "", byteOffset := 40 }, { name := "PtrToThis", type := 134, offset := 10, embedded := false, tag := "", pkgPath := "", byteOffset := 44 }]) 11 true := ⟨Tryd.underlying135, Tryd.isAgg135, Tryd.sizeOf135⟩
instance zero135 : Zero Tryd.prog 135 (Go.Value.agg #[Go.Value.int Go.IntKind.u64 0, Go.Value.int Go.IntKind.u64 0, Go.Value.int Go.IntKind.u32 0, Go.Value.int Go.IntKind.u8 0, Go.Value.int Go.IntKind.u8 0, Go.Value.int Go.IntKind.u8 0, Go.Value.int Go.IntKind.u8 0, Go.Value.nilFunc, Go.Value.pointer none, Go.Value.int Go.IntKind.i32 0, Go.Value.int Go.IntKind.i32 0]) #[Go.Value.int Go.IntKind.u64 0, Go.Value.int Go.IntKind.u64 0, Go.Value.int Go.IntKind.u32 0, Go.Value.int Go.IntKind.u8 0, Go.Value.int Go.IntKind.u8 0, Go.Value.int Go.IntKind.u8 0, Go.Value.int Go.IntKind.u8 0, Go.Value.nilFunc, Go.Value.pointer none, Go.Value.int Go.IntKind.i32 0, Go.Value.int Go.IntKind.i32 0] := ⟨Tryd.zeroValue135, rfl⟩
instance ty136 : Ty Tryd.prog 136 (Go.TypeDesc.struct #[{ name := "Size_", type := 12, offset := 0, embedded := false, tag := "", pkgPath := "", byteOffset := 0 }, { name := "PtrBytes", type := 12, offset := 1, embedded := false, tag := "", pkgPath := "", byteOffset := 8 }, { name := "Hash", type := 111, offset := 2, embedded := false, tag := "", pkgPath := "", byteOffset := 16 }, { name := "TFlag", type := 130, offset := 3, embedded := false, tag := "", pkgPath := "", byteOffset := 20 }, { name := "Align_", type := 5, offset := 4, embedded := false, tag := "", pkgPath := "", byteOffset := 21 }, { name := "FieldAlign_", type := 5, offset := 5, embedded := false, tag := "", pkgPath := "", byteOffset := 22 }, { name := "Kind_", type := 131, offset := 6, embedded := false, tag := "", pkgPath := "", byteOffset := 23 }, { name := "Equal", type := 132, offset := 7, embedded := false, tag := "", pkgPath := "", byteOffset := 24 }, { name := "GCData", type := 93, offset := 8, embedded := false, tag := "", pkgPath := "", byteOffset := 32 }, { name := "Str", type := 133, offset := 9, embedded := false, tag := "", pkgPath := "", byteOffset := 40 }, { name := "PtrToThis", type := 134, offset := 10, embedded := false, tag := "", pkgPath := "", byteOffset := 44 }]) 11 true := ⟨Tryd.underlying136, Tryd.isAgg136, Tryd.sizeOf136⟩
instance zero136 : Zero Tryd.prog 136 (Go.Value.agg #[Go.Value.int Go.IntKind.u64 0, Go.Value.int Go.IntKind.u64 0, Go.Value.int Go.IntKind.u32 0, Go.Value.int Go.IntKind.u8 0, Go.Value.int Go.IntKind.u8 0, Go.Value.int Go.IntKind.u8 0, Go.Value.int Go.IntKind.u8 0, Go.Value.nilFunc, Go.Value.pointer none, Go.Value.int Go.IntKind.i32 0, Go.Value.int Go.IntKind.i32 0]) #[Go.Value.int Go.IntKind.u64 0, Go.Value.int Go.IntKind.u64 0, Go.Value.int Go.IntKind.u32 0, Go.Value.int Go.IntKind.u8 0, Go.Value.int Go.IntKind.u8 0, Go.Value.int Go.IntKind.u8 0, Go.Value.int Go.IntKind.u8 0, Go.Value.nilFunc, Go.Value.pointer none, Go.Value.int Go.IntKind.i32 0, Go.Value.int Go.IntKind.i32 0] := ⟨Tryd.zeroValue136, rfl⟩
instance ent2 : Ent Tryd.prog 2 := ⟨Tryd.call2⟩
instance ent3 : Ent Tryd.prog 3 := ⟨Tryd.call3⟩
instance ent4 : Ent Tryd.prog 4 := ⟨Tryd.call4⟩
instance ent5 : Ent Tryd.prog 5 := ⟨Tryd.call5⟩
instance ent6 : Ent Tryd.prog 6 := ⟨Tryd.call6⟩
instance ent7 : Ent Tryd.prog 7 := ⟨Tryd.call7⟩
instance ent8 : Ent Tryd.prog 8 := ⟨Tryd.call8⟩
instance ent9 : Ent Tryd.prog 9 := ⟨Tryd.call9⟩
instance ent10 : Ent Tryd.prog 10 := ⟨Tryd.call10⟩
instance ent11 : Ent Tryd.prog 11 := ⟨Tryd.call11⟩
instance ent12 : Ent Tryd.prog 12 := ⟨Tryd.call12⟩
instance ent13 : Ent Tryd.prog 13 := ⟨Tryd.call13⟩
instance ent14 : Ent Tryd.prog 14 := ⟨Tryd.call14⟩
instance ent15 : Ent Tryd.prog 15 := ⟨Tryd.call15⟩
instance ent16 : Ent Tryd.prog 16 := ⟨Tryd.call16⟩
instance ent17 : Ent Tryd.prog 17 := ⟨Tryd.call17⟩
instance ent18 : Ent Tryd.prog 18 := ⟨Tryd.call18⟩
instance ent19 : Ent Tryd.prog 19 := ⟨Tryd.call19⟩
instance ent20 : Ent Tryd.prog 20 := ⟨Tryd.call20⟩
instance ent21 : Ent Tryd.prog 21 := ⟨Tryd.call21⟩
instance ent22 : Ent Tryd.prog 22 := ⟨Tryd.call22⟩
instance ent23 : Ent Tryd.prog 23 := ⟨Tryd.call23⟩
instance ent24 : Ent Tryd.prog 24 := ⟨Tryd.call24⟩
instance ent25 : Ent Tryd.prog 25 := ⟨Tryd.call25⟩
instance ent26 : Ent Tryd.prog 26 := ⟨Tryd.call26⟩
instance ent27 : Ent Tryd.prog 27 := ⟨Tryd.call27⟩
instance ent28 : Ent Tryd.prog 28 := ⟨Tryd.call28⟩
instance ent29 : Ent Tryd.prog 29 := ⟨Tryd.call29⟩
instance ent30 : Ent Tryd.prog 30 := ⟨Tryd.call30⟩
instance ent31 : Ent Tryd.prog 31 := ⟨Tryd.call31⟩
instance ent32 : Ent Tryd.prog 32 := ⟨Tryd.call32⟩
instance ent33 : Ent Tryd.prog 33 := ⟨Tryd.call33⟩
instance ent34 : Ent Tryd.prog 34 := ⟨Tryd.call34⟩
instance ent35 : Ent Tryd.prog 35 := ⟨Tryd.call35⟩
instance ent36 : Ent Tryd.prog 36 := ⟨Tryd.call36⟩
instance ent37 : Ent Tryd.prog 37 := ⟨Tryd.call37⟩
instance ent38 : Ent Tryd.prog 38 := ⟨Tryd.call38⟩
instance ent39 : Ent Tryd.prog 39 := ⟨Tryd.call39⟩
instance ent40 : Ent Tryd.prog 40 := ⟨Tryd.call40⟩
instance ent41 : Ent Tryd.prog 41 := ⟨Tryd.call41⟩
instance ent42 : Ent Tryd.prog 42 := ⟨Tryd.call42⟩
instance ent43 : Ent Tryd.prog 43 := ⟨Tryd.call43⟩
instance ent44 : Ent Tryd.prog 44 := ⟨Tryd.call44⟩
instance ent45 : Ent Tryd.prog 45 := ⟨Tryd.call45⟩
instance ent46 : Ent Tryd.prog 46 := ⟨Tryd.call46⟩
instance ent47 : Ent Tryd.prog 47 := ⟨Tryd.call47⟩
instance ent48 : Ent Tryd.prog 48 := ⟨Tryd.call48⟩
instance ent49 : Ent Tryd.prog 49 := ⟨Tryd.call49⟩
instance ent50 : Ent Tryd.prog 50 := ⟨Tryd.call50⟩
instance ent51 : Ent Tryd.prog 51 := ⟨Tryd.call51⟩
instance ent52 : Ent Tryd.prog 52 := ⟨Tryd.call52⟩
instance ent53 : Ent Tryd.prog 53 := ⟨Tryd.call53⟩
instance ent54 : Ent Tryd.prog 54 := ⟨Tryd.call54⟩
instance ent55 : Ent Tryd.prog 55 := ⟨Tryd.call55⟩
instance ent56 : Ent Tryd.prog 56 := ⟨Tryd.call56⟩
instance ent57 : Ent Tryd.prog 57 := ⟨Tryd.call57⟩
instance ent58 : Ent Tryd.prog 58 := ⟨Tryd.call58⟩
instance ent59 : Ent Tryd.prog 59 := ⟨Tryd.call59⟩
instance ent60 : Ent Tryd.prog 60 := ⟨Tryd.call60⟩
instance ent61 : Ent Tryd.prog 61 := ⟨Tryd.call61⟩
instance ent62 : Ent Tryd.prog 62 := ⟨Tryd.call62⟩
instance ent63 : Ent Tryd.prog 63 := ⟨Tryd.call63⟩
instance ent64 : Ent Tryd.prog 64 := ⟨Tryd.call64⟩
instance ent65 : Ent Tryd.prog 65 := ⟨Tryd.call65⟩
instance ent66 : Ent Tryd.prog 66 := ⟨Tryd.call66⟩
instance ent67 : Ent Tryd.prog 67 := ⟨Tryd.call67⟩
instance ent68 : Ent Tryd.prog 68 := ⟨Tryd.call68⟩
instance ent69 : Ent Tryd.prog 69 := ⟨Tryd.call69⟩
instance ent70 : Ent Tryd.prog 70 := ⟨Tryd.call70⟩
instance ent71 : Ent Tryd.prog 71 := ⟨Tryd.call71⟩
instance ent72 : Ent Tryd.prog 72 := ⟨Tryd.call72⟩
instance ent74 : Ent Tryd.prog 74 := ⟨Tryd.call74⟩
instance ent75 : Ent Tryd.prog 75 := ⟨Tryd.call75⟩
instance ent76 : Ent Tryd.prog 76 := ⟨Tryd.call76⟩
instance ent77 : Ent Tryd.prog 77 := ⟨Tryd.call77⟩
instance ent80 : Ent Tryd.prog 80 := ⟨Tryd.call80⟩
instance ent81 : Ent Tryd.prog 81 := ⟨Tryd.call81⟩
instance ent82 : Ent Tryd.prog 82 := ⟨Tryd.call82⟩
instance ent83 : Ent Tryd.prog 83 := ⟨Tryd.call83⟩
instance ent84 : Ent Tryd.prog 84 := ⟨Tryd.call84⟩
instance ent85 : Ent Tryd.prog 85 := ⟨Tryd.call85⟩
instance ent86 : Ent Tryd.prog 86 := ⟨Tryd.call86⟩
instance ent87 : Ent Tryd.prog 87 := ⟨Tryd.call87⟩
instance ent88 : Ent Tryd.prog 88 := ⟨Tryd.call88⟩
instance ent90 : Ent Tryd.prog 90 := ⟨Tryd.call90⟩
instance ent91 : Ent Tryd.prog 91 := ⟨Tryd.call91⟩
instance ent92 : Ent Tryd.prog 92 := ⟨Tryd.call92⟩
instance ent93 : Ent Tryd.prog 93 := ⟨Tryd.call93⟩
instance ent95 : Ent Tryd.prog 95 := ⟨Tryd.call95⟩
instance ent121 : Ent Tryd.prog 121 := ⟨Tryd.call121⟩
instance places7 : Places Tryd.prog 7 [(0, 1), (1, 1), (2, 1), (3, 1)] := ⟨⟨_, Tryd.underlying7, fun w => by simp [go_sem]⟩⟩
instance fld7_0 : Fld Tryd.prog 7 0 0 2 := ⟨⟨_, _, Tryd.underlying7, rfl, rfl, rfl⟩⟩
instance fld7_1 : Fld Tryd.prog 7 1 1 3 := ⟨⟨_, _, Tryd.underlying7, rfl, rfl, rfl⟩⟩
instance fld7_2 : Fld Tryd.prog 7 2 2 4 := ⟨⟨_, _, Tryd.underlying7, rfl, rfl, rfl⟩⟩
instance fld7_3 : Fld Tryd.prog 7 3 3 6 := ⟨⟨_, _, Tryd.underlying7, rfl, rfl, rfl⟩⟩
instance places8 : Places Tryd.prog 8 [(0, 1), (1, 1), (2, 1), (3, 1)] := ⟨⟨_, Tryd.underlying8, fun w => by simp [go_sem]⟩⟩
instance fld8_0 : Fld Tryd.prog 8 0 0 2 := ⟨⟨_, _, Tryd.underlying8, rfl, rfl, rfl⟩⟩
instance fld8_1 : Fld Tryd.prog 8 1 1 3 := ⟨⟨_, _, Tryd.underlying8, rfl, rfl, rfl⟩⟩
instance fld8_2 : Fld Tryd.prog 8 2 2 4 := ⟨⟨_, _, Tryd.underlying8, rfl, rfl, rfl⟩⟩
instance fld8_3 : Fld Tryd.prog 8 3 3 6 := ⟨⟨_, _, Tryd.underlying8, rfl, rfl, rfl⟩⟩
instance places13 : Places Tryd.prog 13 [(0, 1), (1, 1)] := ⟨⟨_, Tryd.underlying13, fun w => by simp [go_sem]⟩⟩
instance fld13_0 : Fld Tryd.prog 13 0 0 9 := ⟨⟨_, _, Tryd.underlying13, rfl, rfl, rfl⟩⟩
instance fld13_1 : Fld Tryd.prog 13 1 1 12 := ⟨⟨_, _, Tryd.underlying13, rfl, rfl, rfl⟩⟩
instance places14 : Places Tryd.prog 14 [(0, 1), (1, 1)] := ⟨⟨_, Tryd.underlying14, fun w => by simp [go_sem]⟩⟩
instance fld14_0 : Fld Tryd.prog 14 0 0 9 := ⟨⟨_, _, Tryd.underlying14, rfl, rfl, rfl⟩⟩
instance fld14_1 : Fld Tryd.prog 14 1 1 12 := ⟨⟨_, _, Tryd.underlying14, rfl, rfl, rfl⟩⟩
instance places18 : Places Tryd.prog 18 [(0, 1)] := ⟨⟨_, Tryd.underlying18, fun w => by simp [go_sem]⟩⟩
instance fld18_0 : Fld Tryd.prog 18 0 0 17 := ⟨⟨_, _, Tryd.underlying18, rfl, rfl, rfl⟩⟩
instance places19 : Places Tryd.prog 19 [(0, 1)] := ⟨⟨_, Tryd.underlying19, fun w => by simp [go_sem]⟩⟩
instance fld19_0 : Fld Tryd.prog 19 0 0 17 := ⟨⟨_, _, Tryd.underlying19, rfl, rfl, rfl⟩⟩
instance places24 : Places Tryd.prog 24 [(0, 1), (1, 4)] := ⟨⟨_, Tryd.underlying24, fun w => by simp [go_sem]⟩⟩
instance fld24_0 : Fld Tryd.prog 24 0 0 3 := ⟨⟨_, _, Tryd.underlying24, rfl, rfl, rfl⟩⟩
instance fld24_1 : Fld Tryd.prog 24 1 1 23 := ⟨⟨_, _, Tryd.underlying24, rfl, rfl, rfl⟩⟩
instance places25 : Places Tryd.prog 25 [(0, 1), (1, 4)] := ⟨⟨_, Tryd.underlying25, fun w => by simp [go_sem]⟩⟩
instance fld25_0 : Fld Tryd.prog 25 0 0 3 := ⟨⟨_, _, Tryd.underlying25, rfl, rfl, rfl⟩⟩
instance fld25_1 : Fld Tryd.prog 25 1 1 23 := ⟨⟨_, _, Tryd.underlying25, rfl, rfl, rfl⟩⟩
instance places81 : Places Tryd.prog 81 [(0, 1), (1, 1)] := ⟨⟨_, Tryd.underlying81, fun w => by simp [go_sem]⟩⟩
instance fld81_0 : Fld Tryd.prog 81 0 0 80 := ⟨⟨_, _, Tryd.underlying81, rfl, rfl, rfl⟩⟩
instance fld81_1 : Fld Tryd.prog 81 1 1 68 := ⟨⟨_, _, Tryd.underlying81, rfl, rfl, rfl⟩⟩
instance places82 : Places Tryd.prog 82 [(0, 1), (1, 1)] := ⟨⟨_, Tryd.underlying82, fun w => by simp [go_sem]⟩⟩
instance fld82_0 : Fld Tryd.prog 82 0 0 80 := ⟨⟨_, _, Tryd.underlying82, rfl, rfl, rfl⟩⟩
instance fld82_1 : Fld Tryd.prog 82 1 1 68 := ⟨⟨_, _, Tryd.underlying82, rfl, rfl, rfl⟩⟩
instance places117 : Places Tryd.prog 117 [(0, 1), (1, 1)] := ⟨⟨_, Tryd.underlying117, fun w => by simp [go_sem]⟩⟩
instance fld117_0 : Fld Tryd.prog 117 0 0 5 := ⟨⟨_, _, Tryd.underlying117, rfl, rfl, rfl⟩⟩
instance fld117_1 : Fld Tryd.prog 117 1 1 5 := ⟨⟨_, _, Tryd.underlying117, rfl, rfl, rfl⟩⟩
instance places118 : Places Tryd.prog 118 [(0, 1), (1, 1)] := ⟨⟨_, Tryd.underlying118, fun w => by simp [go_sem]⟩⟩
instance fld118_0 : Fld Tryd.prog 118 0 0 5 := ⟨⟨_, _, Tryd.underlying118, rfl, rfl, rfl⟩⟩
instance fld118_1 : Fld Tryd.prog 118 1 1 5 := ⟨⟨_, _, Tryd.underlying118, rfl, rfl, rfl⟩⟩
instance places124 : Places Tryd.prog 124 [(0, 1), (1, 1), (2, 1), (3, 1)] := ⟨⟨_, Tryd.underlying124, fun w => by simp [go_sem]⟩⟩
instance fld124_0 : Fld Tryd.prog 124 0 0 17 := ⟨⟨_, _, Tryd.underlying124, rfl, rfl, rfl⟩⟩
instance fld124_1 : Fld Tryd.prog 124 1 1 17 := ⟨⟨_, _, Tryd.underlying124, rfl, rfl, rfl⟩⟩
instance fld124_2 : Fld Tryd.prog 124 2 2 17 := ⟨⟨_, _, Tryd.underlying124, rfl, rfl, rfl⟩⟩
instance fld124_3 : Fld Tryd.prog 124 3 3 9 := ⟨⟨_, _, Tryd.underlying124, rfl, rfl, rfl⟩⟩
instance places125 : Places Tryd.prog 125 [(0, 1), (1, 1), (2, 1), (3, 1)] := ⟨⟨_, Tryd.underlying125, fun w => by simp [go_sem]⟩⟩
instance fld125_0 : Fld Tryd.prog 125 0 0 17 := ⟨⟨_, _, Tryd.underlying125, rfl, rfl, rfl⟩⟩
instance fld125_1 : Fld Tryd.prog 125 1 1 17 := ⟨⟨_, _, Tryd.underlying125, rfl, rfl, rfl⟩⟩
instance fld125_2 : Fld Tryd.prog 125 2 2 17 := ⟨⟨_, _, Tryd.underlying125, rfl, rfl, rfl⟩⟩
instance fld125_3 : Fld Tryd.prog 125 3 3 9 := ⟨⟨_, _, Tryd.underlying125, rfl, rfl, rfl⟩⟩
instance places127 : Places Tryd.prog 127 [(0, 0)] := ⟨⟨_, Tryd.underlying127, fun w => by simp [go_sem]⟩⟩
instance fld127_0 : Fld Tryd.prog 127 0 0 126 := ⟨⟨_, _, Tryd.underlying127, rfl, rfl, rfl⟩⟩
instance places128 : Places Tryd.prog 128 [(0, 0)] := ⟨⟨_, Tryd.underlying128, fun w => by simp [go_sem]⟩⟩
instance fld128_0 : Fld Tryd.prog 128 0 0 126 := ⟨⟨_, _, Tryd.underlying128, rfl, rfl, rfl⟩⟩
instance places135 : Places Tryd.prog 135 [(0, 1), (1, 1), (2, 1), (3, 1), (4, 1), (5, 1), (6, 1), (7, 1), (8, 1), (9, 1), (10, 1)] := ⟨⟨_, Tryd.underlying135, fun w => by simp [go_sem]⟩⟩
instance fld135_0 : Fld Tryd.prog 135 0 0 12 := ⟨⟨_, _, Tryd.underlying135, rfl, rfl, rfl⟩⟩
instance fld135_1 : Fld Tryd.prog 135 1 1 12 := ⟨⟨_, _, Tryd.underlying135, rfl, rfl, rfl⟩⟩
instance fld135_2 : Fld Tryd.prog 135 2 2 111 := ⟨⟨_, _, Tryd.underlying135, rfl, rfl, rfl⟩⟩
instance fld135_3 : Fld Tryd.prog 135 3 3 130 := ⟨⟨_, _, Tryd.underlying135, rfl, rfl, rfl⟩⟩
instance fld135_4 : Fld Tryd.prog 135 4 4 5 := ⟨⟨_, _, Tryd.underlying135, rfl, rfl, rfl⟩⟩
instance fld135_5 : Fld Tryd.prog 135 5 5 5 := ⟨⟨_, _, Tryd.underlying135, rfl, rfl, rfl⟩⟩
instance fld135_6 : Fld Tryd.prog 135 6 6 131 := ⟨⟨_, _, Tryd.underlying135, rfl, rfl, rfl⟩⟩
instance fld135_7 : Fld Tryd.prog 135 7 7 132 := ⟨⟨_, _, Tryd.underlying135, rfl, rfl, rfl⟩⟩
instance fld135_8 : Fld Tryd.prog 135 8 8 93 := ⟨⟨_, _, Tryd.underlying135, rfl, rfl, rfl⟩⟩
instance fld135_9 : Fld Tryd.prog 135 9 9 133 := ⟨⟨_, _, Tryd.underlying135, rfl, rfl, rfl⟩⟩
instance fld135_10 : Fld Tryd.prog 135 10 10 134 := ⟨⟨_, _, Tryd.underlying135, rfl, rfl, rfl⟩⟩
instance places136 : Places Tryd.prog 136 [(0, 1), (1, 1), (2, 1), (3, 1), (4, 1), (5, 1), (6, 1), (7, 1), (8, 1), (9, 1), (10, 1)] := ⟨⟨_, Tryd.underlying136, fun w => by simp [go_sem]⟩⟩
instance fld136_0 : Fld Tryd.prog 136 0 0 12 := ⟨⟨_, _, Tryd.underlying136, rfl, rfl, rfl⟩⟩
instance fld136_1 : Fld Tryd.prog 136 1 1 12 := ⟨⟨_, _, Tryd.underlying136, rfl, rfl, rfl⟩⟩
instance fld136_2 : Fld Tryd.prog 136 2 2 111 := ⟨⟨_, _, Tryd.underlying136, rfl, rfl, rfl⟩⟩
instance fld136_3 : Fld Tryd.prog 136 3 3 130 := ⟨⟨_, _, Tryd.underlying136, rfl, rfl, rfl⟩⟩
instance fld136_4 : Fld Tryd.prog 136 4 4 5 := ⟨⟨_, _, Tryd.underlying136, rfl, rfl, rfl⟩⟩
instance fld136_5 : Fld Tryd.prog 136 5 5 5 := ⟨⟨_, _, Tryd.underlying136, rfl, rfl, rfl⟩⟩
instance fld136_6 : Fld Tryd.prog 136 6 6 131 := ⟨⟨_, _, Tryd.underlying136, rfl, rfl, rfl⟩⟩
instance fld136_7 : Fld Tryd.prog 136 7 7 132 := ⟨⟨_, _, Tryd.underlying136, rfl, rfl, rfl⟩⟩
instance fld136_8 : Fld Tryd.prog 136 8 8 93 := ⟨⟨_, _, Tryd.underlying136, rfl, rfl, rfl⟩⟩
instance fld136_9 : Fld Tryd.prog 136 9 9 133 := ⟨⟨_, _, Tryd.underlying136, rfl, rfl, rfl⟩⟩
instance fld136_10 : Fld Tryd.prog 136 10 10 134 := ⟨⟨_, _, Tryd.underlying136, rfl, rfl, rfl⟩⟩
instance inf0 : Inf Tryd.prog 0 (Go.Value.tuple #[]) 1 0 := ⟨⟨Tryd.t0, Tryd.type0, rfl, rfl, rfl, rfl⟩⟩
instance inf1 : Inf Tryd.prog 1 (Go.Value.nilFunc) 1 8 := ⟨⟨Tryd.t1, Tryd.type1, rfl, rfl, rfl, rfl⟩⟩
instance inf2 : Inf Tryd.prog 2 (Go.Value.int Go.IntKind.i64 0) 1 8 := ⟨⟨Tryd.t2, Tryd.type2, rfl, rfl, rfl, rfl⟩⟩
instance inf3 : Inf Tryd.prog 3 (Go.Value.int Go.IntKind.i64 0) 1 8 := ⟨⟨Tryd.t3, Tryd.type3, rfl, rfl, rfl, rfl⟩⟩
instance inf4 : Inf Tryd.prog 4 (Go.Value.bool false) 1 1 := ⟨⟨Tryd.t4, Tryd.type4, rfl, rfl, rfl, rfl⟩⟩
instance inf5 : Inf Tryd.prog 5 (Go.Value.int Go.IntKind.u8 0) 1 1 := ⟨⟨Tryd.t5, Tryd.type5, rfl, rfl, rfl, rfl⟩⟩
instance inf6 : Inf Tryd.prog 6 (Go.Value.int Go.IntKind.u8 0) 1 1 := ⟨⟨Tryd.t6, Tryd.type6, rfl, rfl, rfl, rfl⟩⟩
instance inf7 : Inf Tryd.prog 7 (Go.Value.agg #[Go.Value.int Go.IntKind.i64 0, Go.Value.int Go.IntKind.i64 0, Go.Value.bool false, Go.Value.int Go.IntKind.u8 0]) 4 24 := ⟨⟨Tryd.t7, Tryd.type7, rfl, rfl, rfl, rfl⟩⟩
instance inf8 : Inf Tryd.prog 8 (Go.Value.agg #[Go.Value.int Go.IntKind.i64 0, Go.Value.int Go.IntKind.i64 0, Go.Value.bool false, Go.Value.int Go.IntKind.u8 0]) 4 24 := ⟨⟨Tryd.t8, Tryd.type8, rfl, rfl, rfl, rfl⟩⟩
instance inf9 : Inf Tryd.prog 9 (Go.Value.string { data := #[] }) 1 16 := ⟨⟨Tryd.t9, Tryd.type9, rfl, rfl, rfl, rfl⟩⟩
instance inf10 : Inf Tryd.prog 10 (Go.Value.string { data := #[] }) 1 16 := ⟨⟨Tryd.t10, Tryd.type10, rfl, rfl, rfl, rfl⟩⟩
instance inf11 : Inf Tryd.prog 11 (Go.Value.string { data := #[] }) 1 16 := ⟨⟨Tryd.t11, Tryd.type11, rfl, rfl, rfl, rfl⟩⟩
instance inf12 : Inf Tryd.prog 12 (Go.Value.int Go.IntKind.u64 0) 1 8 := ⟨⟨Tryd.t12, Tryd.type12, rfl, rfl, rfl, rfl⟩⟩
instance inf13 : Inf Tryd.prog 13 (Go.Value.agg #[Go.Value.string { data := #[] }, Go.Value.int Go.IntKind.u64 0]) 2 24 := ⟨⟨Tryd.t13, Tryd.type13, rfl, rfl, rfl, rfl⟩⟩
instance inf14 : Inf Tryd.prog 14 (Go.Value.agg #[Go.Value.string { data := #[] }, Go.Value.int Go.IntKind.u64 0]) 2 24 := ⟨⟨Tryd.t14, Tryd.type14, rfl, rfl, rfl, rfl⟩⟩
instance inf15 : Inf Tryd.prog 15 (Go.Value.pointer none) 1 8 := ⟨⟨Tryd.t15, Tryd.type15, rfl, rfl, rfl, rfl⟩⟩
instance inf16 : Inf Tryd.prog 16 (Go.Value.pointer none) 1 8 := ⟨⟨Tryd.t16, Tryd.type16, rfl, rfl, rfl, rfl⟩⟩
instance inf17 : Inf Tryd.prog 17 (Go.Value.pointer none) 1 8 := ⟨⟨Tryd.t17, Tryd.type17, rfl, rfl, rfl, rfl⟩⟩
instance inf18 : Inf Tryd.prog 18 (Go.Value.agg #[Go.Value.pointer none]) 1 8 := ⟨⟨Tryd.t18, Tryd.type18, rfl, rfl, rfl, rfl⟩⟩
instance inf19 : Inf Tryd.prog 19 (Go.Value.agg #[Go.Value.pointer none]) 1 8 := ⟨⟨Tryd.t19, Tryd.type19, rfl, rfl, rfl, rfl⟩⟩
instance inf20 : Inf Tryd.prog 20 (Go.Value.nilIface) 1 16 := ⟨⟨Tryd.t20, Tryd.type20, rfl, rfl, rfl, rfl⟩⟩
instance inf21 : Inf Tryd.prog 21 (Go.Value.int Go.IntKind.i32 0) 1 4 := ⟨⟨Tryd.t21, Tryd.type21, rfl, rfl, rfl, rfl⟩⟩
instance inf22 : Inf Tryd.prog 22 (Go.Value.slice none 0 0) 1 24 := ⟨⟨Tryd.t22, Tryd.type22, rfl, rfl, rfl, rfl⟩⟩
instance inf23 : Inf Tryd.prog 23 (Go.Value.agg #[Go.Value.int Go.IntKind.i64 0, Go.Value.int Go.IntKind.i64 0, Go.Value.int Go.IntKind.i64 0, Go.Value.int Go.IntKind.i64 0]) 4 32 := ⟨⟨Tryd.t23, Tryd.type23, rfl, rfl, rfl, rfl⟩⟩
instance inf24 : Inf Tryd.prog 24 (Go.Value.agg #[Go.Value.int Go.IntKind.i64 0, Go.Value.int Go.IntKind.i64 0, Go.Value.int Go.IntKind.i64 0, Go.Value.int Go.IntKind.i64 0, Go.Value.int Go.IntKind.i64 0]) 5 40 := ⟨⟨Tryd.t24, Tryd.type24, rfl, rfl, rfl, rfl⟩⟩
instance inf25 : Inf Tryd.prog 25 (Go.Value.agg #[Go.Value.int Go.IntKind.i64 0, Go.Value.int Go.IntKind.i64 0, Go.Value.int Go.IntKind.i64 0, Go.Value.int Go.IntKind.i64 0, Go.Value.int Go.IntKind.i64 0]) 5 40 := ⟨⟨Tryd.t25, Tryd.type25, rfl, rfl, rfl, rfl⟩⟩
instance inf26 : Inf Tryd.prog 26 (Go.Value.nilFunc) 1 8 := ⟨⟨Tryd.t26, Tryd.type26, rfl, rfl, rfl, rfl⟩⟩
instance inf27 : Inf Tryd.prog 27 (Go.Value.nilFunc) 1 8 := ⟨⟨Tryd.t27, Tryd.type27, rfl, rfl, rfl, rfl⟩⟩
instance inf28 : Inf Tryd.prog 28 (Go.Value.int Go.IntKind.i64 0) 1 8 := ⟨⟨Tryd.t28, Tryd.type28, rfl, rfl, rfl, rfl⟩⟩
instance inf29 : Inf Tryd.prog 29 (Go.Value.tuple #[Go.Value.agg #[Go.Value.int Go.IntKind.i64 0, Go.Value.int Go.IntKind.i64 0, Go.Value.int Go.IntKind.i64 0, Go.Value.int Go.IntKind.i64 0, Go.Value.int Go.IntKind.i64 0], Go.Value.int Go.IntKind.i64 0]) 1 0 := ⟨⟨Tryd.t29, Tryd.type29, rfl, rfl, rfl, rfl⟩⟩
instance inf30 : Inf Tryd.prog 30 (Go.Value.nilFunc) 1 8 := ⟨⟨Tryd.t30, Tryd.type30, rfl, rfl, rfl, rfl⟩⟩
instance inf31 : Inf Tryd.prog 31 (Go.Value.tuple #[Go.Value.slice none 0 0, Go.Value.int Go.IntKind.i64 0]) 1 0 := ⟨⟨Tryd.t31, Tryd.type31, rfl, rfl, rfl, rfl⟩⟩
instance inf32 : Inf Tryd.prog 32 (Go.Value.nilFunc) 1 8 := ⟨⟨Tryd.t32, Tryd.type32, rfl, rfl, rfl, rfl⟩⟩
instance inf33 : Inf Tryd.prog 33 (Go.Value.tuple #[Go.Value.string { data := #[] }, Go.Value.int Go.IntKind.i64 0]) 1 0 := ⟨⟨Tryd.t33, Tryd.type33, rfl, rfl, rfl, rfl⟩⟩
instance inf34 : Inf Tryd.prog 34 (Go.Value.nilFunc) 1 8 := ⟨⟨Tryd.t34, Tryd.type34, rfl, rfl, rfl, rfl⟩⟩
instance inf35 : Inf Tryd.prog 35 (Go.Value.nilFunc) 1 8 := ⟨⟨Tryd.t35, Tryd.type35, rfl, rfl, rfl, rfl⟩⟩
instance inf36 : Inf Tryd.prog 36 (Go.Value.nilFunc) 1 8 := ⟨⟨Tryd.t36, Tryd.type36, rfl, rfl, rfl, rfl⟩⟩
instance inf37 : Inf Tryd.prog 37 (Go.Value.nilFunc) 1 8 := ⟨⟨Tryd.t37, Tryd.type37, rfl, rfl, rfl, rfl⟩⟩
instance inf38 : Inf Tryd.prog 38 (Go.Value.nilFunc) 1 8 := ⟨⟨Tryd.t38, Tryd.type38, rfl, rfl, rfl, rfl⟩⟩
instance inf39 : Inf Tryd.prog 39 (Go.Value.nilFunc) 1 8 := ⟨⟨Tryd.t39, Tryd.type39, rfl, rfl, rfl, rfl⟩⟩
instance inf40 : Inf Tryd.prog 40 (Go.Value.tuple #[Go.Value.int Go.IntKind.i64 0, Go.Value.int Go.IntKind.i64 0]) 1 0 := ⟨⟨Tryd.t40, Tryd.type40, rfl, rfl, rfl, rfl⟩⟩
instance inf41 : Inf Tryd.prog 41 (Go.Value.nilFunc) 1 8 := ⟨⟨Tryd.t41, Tryd.type41, rfl, rfl, rfl, rfl⟩⟩
instance inf42 : Inf Tryd.prog 42 (Go.Value.tuple #[Go.Value.bool false, Go.Value.int Go.IntKind.i64 0]) 1 0 := ⟨⟨Tryd.t42, Tryd.type42, rfl, rfl, rfl, rfl⟩⟩
instance inf43 : Inf Tryd.prog 43 (Go.Value.nilFunc) 1 8 := ⟨⟨Tryd.t43, Tryd.type43, rfl, rfl, rfl, rfl⟩⟩
instance inf44 : Inf Tryd.prog 44 (Go.Value.nilFunc) 1 8 := ⟨⟨Tryd.t44, Tryd.type44, rfl, rfl, rfl, rfl⟩⟩
instance inf45 : Inf Tryd.prog 45 (Go.Value.nilFunc) 1 8 := ⟨⟨Tryd.t45, Tryd.type45, rfl, rfl, rfl, rfl⟩⟩
instance inf46 : Inf Tryd.prog 46 (Go.Value.nilFunc) 1 8 := ⟨⟨Tryd.t46, Tryd.type46, rfl, rfl, rfl, rfl⟩⟩
instance inf47 : Inf Tryd.prog 47 (Go.Value.nilFunc) 1 8 := ⟨⟨Tryd.t47, Tryd.type47, rfl, rfl, rfl, rfl⟩⟩
instance inf48 : Inf Tryd.prog 48 (Go.Value.slice none 0 0) 1 24 := ⟨⟨Tryd.t48, Tryd.type48, rfl, rfl, rfl, rfl⟩⟩
instance inf49 : Inf Tryd.prog 49 (Go.Value.tuple #[Go.Value.slice none 0 0, Go.Value.int Go.IntKind.i64 0]) 1 0 := ⟨⟨Tryd.t49, Tryd.type49, rfl, rfl, rfl, rfl⟩⟩
instance inf50 : Inf Tryd.prog 50 (Go.Value.nilFunc) 1 8 := ⟨⟨Tryd.t50, Tryd.type50, rfl, rfl, rfl, rfl⟩⟩
instance inf51 : Inf Tryd.prog 51 (Go.Value.nilFunc) 1 8 := ⟨⟨Tryd.t51, Tryd.type51, rfl, rfl, rfl, rfl⟩⟩
instance inf52 : Inf Tryd.prog 52 (Go.Value.nilFunc) 1 8 := ⟨⟨Tryd.t52, Tryd.type52, rfl, rfl, rfl, rfl⟩⟩
instance inf53 : Inf Tryd.prog 53 (Go.Value.nilFunc) 1 8 := ⟨⟨Tryd.t53, Tryd.type53, rfl, rfl, rfl, rfl⟩⟩
instance inf54 : Inf Tryd.prog 54 (Go.Value.nilFunc) 1 8 := ⟨⟨Tryd.t54, Tryd.type54, rfl, rfl, rfl, rfl⟩⟩
instance inf55 : Inf Tryd.prog 55 (Go.Value.nilFunc) 1 8 := ⟨⟨Tryd.t55, Tryd.type55, rfl, rfl, rfl, rfl⟩⟩
instance inf56 : Inf Tryd.prog 56 (Go.Value.nilFunc) 1 8 := ⟨⟨Tryd.t56, Tryd.type56, rfl, rfl, rfl, rfl⟩⟩
instance inf57 : Inf Tryd.prog 57 (Go.Value.nilFunc) 1 8 := ⟨⟨Tryd.t57, Tryd.type57, rfl, rfl, rfl, rfl⟩⟩
instance inf58 : Inf Tryd.prog 58 (Go.Value.nilFunc) 1 8 := ⟨⟨Tryd.t58, Tryd.type58, rfl, rfl, rfl, rfl⟩⟩
instance inf59 : Inf Tryd.prog 59 (Go.Value.nilFunc) 1 8 := ⟨⟨Tryd.t59, Tryd.type59, rfl, rfl, rfl, rfl⟩⟩
instance inf60 : Inf Tryd.prog 60 (Go.Value.nilFunc) 1 8 := ⟨⟨Tryd.t60, Tryd.type60, rfl, rfl, rfl, rfl⟩⟩
instance inf61 : Inf Tryd.prog 61 (Go.Value.nilFunc) 1 8 := ⟨⟨Tryd.t61, Tryd.type61, rfl, rfl, rfl, rfl⟩⟩
instance inf62 : Inf Tryd.prog 62 (Go.Value.nilFunc) 1 8 := ⟨⟨Tryd.t62, Tryd.type62, rfl, rfl, rfl, rfl⟩⟩
instance inf63 : Inf Tryd.prog 63 (Go.Value.nilFunc) 1 8 := ⟨⟨Tryd.t63, Tryd.type63, rfl, rfl, rfl, rfl⟩⟩
instance inf64 : Inf Tryd.prog 64 (Go.Value.nilFunc) 1 8 := ⟨⟨Tryd.t64, Tryd.type64, rfl, rfl, rfl, rfl⟩⟩
instance inf65 : Inf Tryd.prog 65 (Go.Value.slice none 0 0) 1 24 := ⟨⟨Tryd.t65, Tryd.type65, rfl, rfl, rfl, rfl⟩⟩
instance inf66 : Inf Tryd.prog 66 (Go.Value.nilFunc) 1 8 := ⟨⟨Tryd.t66, Tryd.type66, rfl, rfl, rfl, rfl⟩⟩
instance inf67 : Inf Tryd.prog 67 (Go.Value.nilFunc) 1 8 := ⟨⟨Tryd.t67, Tryd.type67, rfl, rfl, rfl, rfl⟩⟩
instance inf68 : Inf Tryd.prog 68 (Go.Value.slice none 0 0) 1 24 := ⟨⟨Tryd.t68, Tryd.type68, rfl, rfl, rfl, rfl⟩⟩
instance inf69 : Inf Tryd.prog 69 (Go.Value.nilFunc) 1 8 := ⟨⟨Tryd.t69, Tryd.type69, rfl, rfl, rfl, rfl⟩⟩
instance inf70 : Inf Tryd.prog 70 (Go.Value.nilFunc) 1 8 := ⟨⟨Tryd.t70, Tryd.type70, rfl, rfl, rfl, rfl⟩⟩
instance inf71 : Inf Tryd.prog 71 (Go.Value.nilFunc) 1 8 := ⟨⟨Tryd.t71, Tryd.type71, rfl, rfl, rfl, rfl⟩⟩
instance inf72 : Inf Tryd.prog 72 (Go.Value.nilFunc) 1 8 := ⟨⟨Tryd.t72, Tryd.type72, rfl, rfl, rfl, rfl⟩⟩
instance inf73 : Inf Tryd.prog 73 (Go.Value.nilFunc) 1 8 := ⟨⟨Tryd.t73, Tryd.type73, rfl, rfl, rfl, rfl⟩⟩
instance inf74 : Inf Tryd.prog 74 (Go.Value.nilFunc) 1 8 := ⟨⟨Tryd.t74, Tryd.type74, rfl, rfl, rfl, rfl⟩⟩
instance inf75 : Inf Tryd.prog 75 (Go.Value.map none) 1 8 := ⟨⟨Tryd.t75, Tryd.type75, rfl, rfl, rfl, rfl⟩⟩
instance inf76 : Inf Tryd.prog 76 (Go.Value.nilFunc) 1 8 := ⟨⟨Tryd.t76, Tryd.type76, rfl, rfl, rfl, rfl⟩⟩
instance inf77 : Inf Tryd.prog 77 (Go.Value.nilFunc) 1 8 := ⟨⟨Tryd.t77, Tryd.type77, rfl, rfl, rfl, rfl⟩⟩
instance inf78 : Inf Tryd.prog 78 (Go.Value.nilFunc) 1 8 := ⟨⟨Tryd.t78, Tryd.type78, rfl, rfl, rfl, rfl⟩⟩
instance inf79 : Inf Tryd.prog 79 (Go.Value.int Go.IntKind.u64 0) 1 8 := ⟨⟨Tryd.t79, Tryd.type79, rfl, rfl, rfl, rfl⟩⟩
instance inf80 : Inf Tryd.prog 80 (Go.Value.pointer none) 1 8 := ⟨⟨Tryd.t80, Tryd.type80, rfl, rfl, rfl, rfl⟩⟩
instance inf81 : Inf Tryd.prog 81 (Go.Value.agg #[Go.Value.pointer none, Go.Value.slice none 0 0]) 2 32 := ⟨⟨Tryd.t81, Tryd.type81, rfl, rfl, rfl, rfl⟩⟩
instance inf82 : Inf Tryd.prog 82 (Go.Value.agg #[Go.Value.pointer none, Go.Value.slice none 0 0]) 2 32 := ⟨⟨Tryd.t82, Tryd.type82, rfl, rfl, rfl, rfl⟩⟩
instance inf83 : Inf Tryd.prog 83 (Go.Value.nilFunc) 1 8 := ⟨⟨Tryd.t83, Tryd.type83, rfl, rfl, rfl, rfl⟩⟩
instance inf84 : Inf Tryd.prog 84 (Go.Value.nilIface) 1 16 := ⟨⟨Tryd.t84, Tryd.type84, rfl, rfl, rfl, rfl⟩⟩
instance inf85 : Inf Tryd.prog 85 (Go.Value.nilIface) 1 16 := ⟨⟨Tryd.t85, Tryd.type85, rfl, rfl, rfl, rfl⟩⟩
instance inf86 : Inf Tryd.prog 86 (Go.Value.tuple #[Go.Value.int Go.IntKind.i64 0, Go.Value.nilIface]) 1 0 := ⟨⟨Tryd.t86, Tryd.type86, rfl, rfl, rfl, rfl⟩⟩
instance inf87 : Inf Tryd.prog 87 (Go.Value.nilFunc) 1 8 := ⟨⟨Tryd.t87, Tryd.type87, rfl, rfl, rfl, rfl⟩⟩
instance inf88 : Inf Tryd.prog 88 (Go.Value.nilFunc) 1 8 := ⟨⟨Tryd.t88, Tryd.type88, rfl, rfl, rfl, rfl⟩⟩
instance inf89 : Inf Tryd.prog 89 (Go.Value.nilFunc) 1 8 := ⟨⟨Tryd.t89, Tryd.type89, rfl, rfl, rfl, rfl⟩⟩
instance inf90 : Inf Tryd.prog 90 (Go.Value.nilFunc) 1 8 := ⟨⟨Tryd.t90, Tryd.type90, rfl, rfl, rfl, rfl⟩⟩
instance inf91 : Inf Tryd.prog 91 (Go.Value.nilFunc) 1 8 := ⟨⟨Tryd.t91, Tryd.type91, rfl, rfl, rfl, rfl⟩⟩
instance inf92 : Inf Tryd.prog 92 (Go.Value.nilFunc) 1 8 := ⟨⟨Tryd.t92, Tryd.type92, rfl, rfl, rfl, rfl⟩⟩
instance inf93 : Inf Tryd.prog 93 (Go.Value.pointer none) 1 8 := ⟨⟨Tryd.t93, Tryd.type93, rfl, rfl, rfl, rfl⟩⟩
instance inf94 : Inf Tryd.prog 94 (Go.Value.nilFunc) 1 8 := ⟨⟨Tryd.t94, Tryd.type94, rfl, rfl, rfl, rfl⟩⟩
instance inf95 : Inf Tryd.prog 95 (Go.Value.nilFunc) 1 8 := ⟨⟨Tryd.t95, Tryd.type95, rfl, rfl, rfl, rfl⟩⟩
instance inf96 : Inf Tryd.prog 96 (Go.Value.nilFunc) 1 8 := ⟨⟨Tryd.t96, Tryd.type96, rfl, rfl, rfl, rfl⟩⟩
instance inf97 : Inf Tryd.prog 97 (Go.Value.agg #[Go.Value.int Go.IntKind.u8 0, Go.Value.int Go.IntKind.u8 0, Go.Value.int Go.IntKind.u8 0, Go.Value.int Go.IntKind.u8 0, Go.Value.int Go.IntKind.u8 0, Go.Value.int Go.IntKind.u8 0, Go.Value.int Go.IntKind.u8 0, Go.Value.int Go.IntKind.u8 0, Go.Value.int Go.IntKind.u8 0, Go.Value.int Go.IntKind.u8 0, Go.Value.int Go.IntKind.u8 0, Go.Value.int Go.IntKind.u8 0, Go.Value.int Go.IntKind.u8 0, Go.Value.int Go.IntKind.u8 0, Go.Value.int Go.IntKind.u8 0, Go.Value.int Go.IntKind.u8 0, Go.Value.int Go.IntKind.u8 0, Go.Value.int Go.IntKind.u8 0, Go.Value.int Go.IntKind.u8 0, Go.Value.int Go.IntKind.u8 0, Go.Value.int Go.IntKind.u8 0, Go.Value.int Go.IntKind.u8 0, Go.Value.int Go.IntKind.u8 0, Go.Value.int Go.IntKind.u8 0]) 24 24 := ⟨⟨Tryd.t97, Tryd.type97, rfl, rfl, rfl, rfl⟩⟩
instance inf98 : Inf Tryd.prog 98 (Go.Value.int Go.IntKind.u64 0) 1 8 := ⟨⟨Tryd.t98, Tryd.type98, rfl, rfl, rfl, rfl⟩⟩
instance inf99 : Inf Tryd.prog 99 (Go.Value.nilFunc) 1 8 := ⟨⟨Tryd.t99, Tryd.type99, rfl, rfl, rfl, rfl⟩⟩
instance inf100 : Inf Tryd.prog 100 (Go.Value.nilFunc) 1 8 := ⟨⟨Tryd.t100, Tryd.type100, rfl, rfl, rfl, rfl⟩⟩
instance inf101 : Inf Tryd.prog 101 (Go.Value.tuple #[Go.Value.slice none 0 0, Go.Value.string { data := #[] }]) 1 0 := ⟨⟨Tryd.t101, Tryd.type101, rfl, rfl, rfl, rfl⟩⟩
instance inf102 : Inf Tryd.prog 102 (Go.Value.nilFunc) 1 8 := ⟨⟨Tryd.t102, Tryd.type102, rfl, rfl, rfl, rfl⟩⟩
instance inf103 : Inf Tryd.prog 103 (Go.Value.pointer none) 1 8 := ⟨⟨Tryd.t103, Tryd.type103, rfl, rfl, rfl, rfl⟩⟩
instance inf104 : Inf Tryd.prog 104 (Go.Value.nilFunc) 1 8 := ⟨⟨Tryd.t104, Tryd.type104, rfl, rfl, rfl, rfl⟩⟩
instance inf105 : Inf Tryd.prog 105 (Go.Value.nilFunc) 1 8 := ⟨⟨Tryd.t105, Tryd.type105, rfl, rfl, rfl, rfl⟩⟩
instance inf106 : Inf Tryd.prog 106 (Go.Value.tuple #[Go.Value.int Go.IntKind.i32 0, Go.Value.int Go.IntKind.i64 0]) 1 0 := ⟨⟨Tryd.t106, Tryd.type106, rfl, rfl, rfl, rfl⟩⟩
instance inf107 : Inf Tryd.prog 107 (Go.Value.nilFunc) 1 8 := ⟨⟨Tryd.t107, Tryd.type107, rfl, rfl, rfl, rfl⟩⟩
instance inf108 : Inf Tryd.prog 108 (Go.Value.nilFunc) 1 8 := ⟨⟨Tryd.t108, Tryd.type108, rfl, rfl, rfl, rfl⟩⟩
instance inf109 : Inf Tryd.prog 109 (Go.Value.nilFunc) 1 8 := ⟨⟨Tryd.t109, Tryd.type109, rfl, rfl, rfl, rfl⟩⟩
instance inf110 : Inf Tryd.prog 110 (Go.Value.agg #[Go.Value.int Go.IntKind.u64 0, Go.Value.int Go.IntKind.u64 0, Go.Value.int Go.IntKind.u64 0, Go.Value.int Go.IntKind.u64 0, Go.Value.int Go.IntKind.u64 0, Go.Value.int Go.IntKind.u64 0, Go.Value.int Go.IntKind.u64 0, Go.Value.int Go.IntKind.u64 0, Go.Value.int Go.IntKind.u64 0, Go.Value.int Go.IntKind.u64 0, Go.Value.int Go.IntKind.u64 0, Go.Value.int Go.IntKind.u64 0, Go.Value.int Go.IntKind.u64 0, Go.Value.int Go.IntKind.u64 0, Go.Value.int Go.IntKind.u64 0, Go.Value.int Go.IntKind.u64 0, Go.Value.int Go.IntKind.u64 0, Go.Value.int Go.IntKind.u64 0, Go.Value.int Go.IntKind.u64 0, Go.Value.int Go.IntKind.u64 0]) 20 160 := ⟨⟨Tryd.t110, Tryd.type110, rfl, rfl, rfl, rfl⟩⟩
instance inf111 : Inf Tryd.prog 111 (Go.Value.int Go.IntKind.u32 0) 1 4 := ⟨⟨Tryd.t111, Tryd.type111, rfl, rfl, rfl, rfl⟩⟩
instance inf112 : Inf Tryd.prog 112 (Go.Value.agg Go.Proofs.Tryd.zeroCells112) 65 65 := ⟨⟨Tryd.t112, Tryd.type112, rfl, rfl, rfl, rfl⟩⟩
instance inf113 : Inf Tryd.prog 113 (Go.Value.nilFunc) 1 8 := ⟨⟨Tryd.t113, Tryd.type113, rfl, rfl, rfl, rfl⟩⟩
instance inf114 : Inf Tryd.prog 114 (Go.Value.nilFunc) 1 8 := ⟨⟨Tryd.t114, Tryd.type114, rfl, rfl, rfl, rfl⟩⟩
instance inf115 : Inf Tryd.prog 115 (Go.Value.nilFunc) 1 8 := ⟨⟨Tryd.t115, Tryd.type115, rfl, rfl, rfl, rfl⟩⟩
instance inf116 : Inf Tryd.prog 116 (Go.Value.agg Go.Proofs.Tryd.zeroCells116) 256 256 := ⟨⟨Tryd.t116, Tryd.type116, rfl, rfl, rfl, rfl⟩⟩
instance inf117 : Inf Tryd.prog 117 (Go.Value.agg #[Go.Value.int Go.IntKind.u8 0, Go.Value.int Go.IntKind.u8 0]) 2 2 := ⟨⟨Tryd.t117, Tryd.type117, rfl, rfl, rfl, rfl⟩⟩
instance inf118 : Inf Tryd.prog 118 (Go.Value.agg #[Go.Value.int Go.IntKind.u8 0, Go.Value.int Go.IntKind.u8 0]) 2 2 := ⟨⟨Tryd.t118, Tryd.type118, rfl, rfl, rfl, rfl⟩⟩
instance inf119 : Inf Tryd.prog 119 (Go.Value.agg #[Go.Value.int Go.IntKind.u8 0, Go.Value.int Go.IntKind.u8 0, Go.Value.int Go.IntKind.u8 0, Go.Value.int Go.IntKind.u8 0, Go.Value.int Go.IntKind.u8 0, Go.Value.int Go.IntKind.u8 0, Go.Value.int Go.IntKind.u8 0, Go.Value.int Go.IntKind.u8 0, Go.Value.int Go.IntKind.u8 0, Go.Value.int Go.IntKind.u8 0, Go.Value.int Go.IntKind.u8 0, Go.Value.int Go.IntKind.u8 0, Go.Value.int Go.IntKind.u8 0, Go.Value.int Go.IntKind.u8 0, Go.Value.int Go.IntKind.u8 0, Go.Value.int Go.IntKind.u8 0, Go.Value.int Go.IntKind.u8 0, Go.Value.int Go.IntKind.u8 0, Go.Value.int Go.IntKind.u8 0, Go.Value.int Go.IntKind.u8 0, Go.Value.int Go.IntKind.u8 0, Go.Value.int Go.IntKind.u8 0, Go.Value.int Go.IntKind.u8 0, Go.Value.int Go.IntKind.u8 0, Go.Value.int Go.IntKind.u8 0, Go.Value.int Go.IntKind.u8 0, Go.Value.int Go.IntKind.u8 0, Go.Value.int Go.IntKind.u8 0, Go.Value.int Go.IntKind.u8 0, Go.Value.int Go.IntKind.u8 0, Go.Value.int Go.IntKind.u8 0, Go.Value.int Go.IntKind.u8 0]) 32 32 := ⟨⟨Tryd.t119, Tryd.type119, rfl, rfl, rfl, rfl⟩⟩
instance inf120 : Inf Tryd.prog 120 (Go.Value.tuple #[Go.Value.int Go.IntKind.u32 0, Go.Value.int Go.IntKind.u32 0]) 1 0 := ⟨⟨Tryd.t120, Tryd.type120, rfl, rfl, rfl, rfl⟩⟩
instance inf121 : Inf Tryd.prog 121 (Go.Value.nilFunc) 1 8 := ⟨⟨Tryd.t121, Tryd.type121, rfl, rfl, rfl, rfl⟩⟩
instance inf122 : Inf Tryd.prog 122 (Go.Value.agg #[Go.Value.int Go.IntKind.u8 0, Go.Value.int Go.IntKind.u8 0, Go.Value.int Go.IntKind.u8 0, Go.Value.int Go.IntKind.u8 0, Go.Value.int Go.IntKind.u8 0, Go.Value.int Go.IntKind.u8 0, Go.Value.int Go.IntKind.u8 0, Go.Value.int Go.IntKind.u8 0, Go.Value.int Go.IntKind.u8 0, Go.Value.int Go.IntKind.u8 0, Go.Value.int Go.IntKind.u8 0, Go.Value.int Go.IntKind.u8 0, Go.Value.int Go.IntKind.u8 0, Go.Value.int Go.IntKind.u8 0, Go.Value.int Go.IntKind.u8 0, Go.Value.int Go.IntKind.u8 0, Go.Value.int Go.IntKind.u8 0, Go.Value.int Go.IntKind.u8 0, Go.Value.int Go.IntKind.u8 0, Go.Value.int Go.IntKind.u8 0, Go.Value.int Go.IntKind.u8 0, Go.Value.int Go.IntKind.u8 0, Go.Value.int Go.IntKind.u8 0, Go.Value.int Go.IntKind.u8 0, Go.Value.int Go.IntKind.u8 0, Go.Value.int Go.IntKind.u8 0, Go.Value.int Go.IntKind.u8 0, Go.Value.int Go.IntKind.u8 0, Go.Value.int Go.IntKind.u8 0, Go.Value.int Go.IntKind.u8 0, Go.Value.int Go.IntKind.u8 0, Go.Value.int Go.IntKind.u8 0]) 32 32 := ⟨⟨Tryd.t122, Tryd.type122, rfl, rfl, rfl, rfl⟩⟩
instance inf123 : Inf Tryd.prog 123 (Go.Value.agg #[Go.Value.int Go.IntKind.u8 0, Go.Value.int Go.IntKind.u8 0, Go.Value.int Go.IntKind.u8 0, Go.Value.int Go.IntKind.u8 0, Go.Value.int Go.IntKind.u8 0, Go.Value.int Go.IntKind.u8 0, Go.Value.int Go.IntKind.u8 0, Go.Value.int Go.IntKind.u8 0, Go.Value.int Go.IntKind.u8 0, Go.Value.int Go.IntKind.u8 0, Go.Value.int Go.IntKind.u8 0, Go.Value.int Go.IntKind.u8 0, Go.Value.int Go.IntKind.u8 0, Go.Value.int Go.IntKind.u8 0, Go.Value.int Go.IntKind.u8 0, Go.Value.int Go.IntKind.u8 0, Go.Value.int Go.IntKind.u8 0, Go.Value.int Go.IntKind.u8 0, Go.Value.int Go.IntKind.u8 0, Go.Value.int Go.IntKind.u8 0, Go.Value.int Go.IntKind.u8 0, Go.Value.int Go.IntKind.u8 0, Go.Value.int Go.IntKind.u8 0, Go.Value.int Go.IntKind.u8 0, Go.Value.int Go.IntKind.u8 0, Go.Value.int Go.IntKind.u8 0, Go.Value.int Go.IntKind.u8 0, Go.Value.int Go.IntKind.u8 0, Go.Value.int Go.IntKind.u8 0, Go.Value.int Go.IntKind.u8 0, Go.Value.int Go.IntKind.u8 0, Go.Value.int Go.IntKind.u8 0, Go.Value.int Go.IntKind.u8 0, Go.Value.int Go.IntKind.u8 0, Go.Value.int Go.IntKind.u8 0, Go.Value.int Go.IntKind.u8 0, Go.Value.int Go.IntKind.u8 0, Go.Value.int Go.IntKind.u8 0, Go.Value.int Go.IntKind.u8 0, Go.Value.int Go.IntKind.u8 0, Go.Value.int Go.IntKind.u8 0, Go.Value.int Go.IntKind.u8 0, Go.Value.int Go.IntKind.u8 0, Go.Value.int Go.IntKind.u8 0, Go.Value.int Go.IntKind.u8 0, Go.Value.int Go.IntKind.u8 0, Go.Value.int Go.IntKind.u8 0, Go.Value.int Go.IntKind.u8 0, Go.Value.int Go.IntKind.u8 0, Go.Value.int Go.IntKind.u8 0, Go.Value.int Go.IntKind.u8 0, Go.Value.int Go.IntKind.u8 0, Go.Value.int Go.IntKind.u8 0, Go.Value.int Go.IntKind.u8 0, Go.Value.int Go.IntKind.u8 0, Go.Value.int Go.IntKind.u8 0, Go.Value.int Go.IntKind.u8 0, Go.Value.int Go.IntKind.u8 0, Go.Value.int Go.IntKind.u8 0, Go.Value.int Go.IntKind.u8 0, Go.Value.int Go.IntKind.u8 0, Go.Value.int Go.IntKind.u8 0, Go.Value.int Go.IntKind.u8 0, Go.Value.int Go.IntKind.u8 0]) 64 64 := ⟨⟨Tryd.t123, Tryd.type123, rfl, rfl, rfl, rfl⟩⟩
instance inf124 : Inf Tryd.prog 124 (Go.Value.agg #[Go.Value.pointer none, Go.Value.pointer none, Go.Value.pointer none, Go.Value.string { data := #[] }]) 4 40 := ⟨⟨Tryd.t124, Tryd.type124, rfl, rfl, rfl, rfl⟩⟩
instance inf125 : Inf Tryd.prog 125 (Go.Value.agg #[Go.Value.pointer none, Go.Value.pointer none, Go.Value.pointer none, Go.Value.string { data := #[] }]) 4 40 := ⟨⟨Tryd.t125, Tryd.type125, rfl, rfl, rfl, rfl⟩⟩
instance inf126 : Inf Tryd.prog 126 (Go.Value.agg #[]) 0 0 := ⟨⟨Tryd.t126, Tryd.type126, rfl, rfl, rfl, rfl⟩⟩
instance inf127 : Inf Tryd.prog 127 (Go.Value.agg #[]) 0 0 := ⟨⟨Tryd.t127, Tryd.type127, rfl, rfl, rfl, rfl⟩⟩
instance inf128 : Inf Tryd.prog 128 (Go.Value.agg #[]) 0 0 := ⟨⟨Tryd.t128, Tryd.type128, rfl, rfl, rfl, rfl⟩⟩
instance inf129 : Inf Tryd.prog 129 (Go.Value.nilFunc) 1 8 := ⟨⟨Tryd.t129, Tryd.type129, rfl, rfl, rfl, rfl⟩⟩
instance inf130 : Inf Tryd.prog 130 (Go.Value.int Go.IntKind.u8 0) 1 1 := ⟨⟨Tryd.t130, Tryd.type130, rfl, rfl, rfl, rfl⟩⟩
instance inf131 : Inf Tryd.prog 131 (Go.Value.int Go.IntKind.u8 0) 1 1 := ⟨⟨Tryd.t131, Tryd.type131, rfl, rfl, rfl, rfl⟩⟩
instance inf132 : Inf Tryd.prog 132 (Go.Value.nilFunc) 1 8 := ⟨⟨Tryd.t132, Tryd.type132, rfl, rfl, rfl, rfl⟩⟩
instance inf133 : Inf Tryd.prog 133 (Go.Value.int Go.IntKind.i32 0) 1 4 := ⟨⟨Tryd.t133, Tryd.type133, rfl, rfl, rfl, rfl⟩⟩
instance inf134 : Inf Tryd.prog 134 (Go.Value.int Go.IntKind.i32 0) 1 4 := ⟨⟨Tryd.t134, Tryd.type134, rfl, rfl, rfl, rfl⟩⟩
instance inf135 : Inf Tryd.prog 135 (Go.Value.agg #[Go.Value.int Go.IntKind.u64 0, Go.Value.int Go.IntKind.u64 0, Go.Value.int Go.IntKind.u32 0, Go.Value.int Go.IntKind.u8 0, Go.Value.int Go.IntKind.u8 0, Go.Value.int Go.IntKind.u8 0, Go.Value.int Go.IntKind.u8 0, Go.Value.nilFunc, Go.Value.pointer none, Go.Value.int Go.IntKind.i32 0, Go.Value.int Go.IntKind.i32 0]) 11 48 := ⟨⟨Tryd.t135, Tryd.type135, rfl, rfl, rfl, rfl⟩⟩
instance inf136 : Inf Tryd.prog 136 (Go.Value.agg #[Go.Value.int Go.IntKind.u64 0, Go.Value.int Go.IntKind.u64 0, Go.Value.int Go.IntKind.u32 0, Go.Value.int Go.IntKind.u8 0, Go.Value.int Go.IntKind.u8 0, Go.Value.int Go.IntKind.u8 0, Go.Value.int Go.IntKind.u8 0, Go.Value.nilFunc, Go.Value.pointer none, Go.Value.int Go.IntKind.i32 0, Go.Value.int Go.IntKind.i32 0]) 11 48 := ⟨⟨Tryd.t136, Tryd.type136, rfl, rfl, rfl, rfl⟩⟩
theorem V_aeql_25 {fs : List (Nat × Value)} {E : Env} {L : List Res} {o : Oper} {x y : Operand} {u : TypeId} {a0 : Int} {a1 : Int} {a2 : Int} {a3 : Int} {a4 : Int} {b0 : Int} {b1 : Int} {b2 : Int} {b3 : Int} {b4 : Int} (ho : o.op = .binOp .eql 25 x y u) (hx : ev fs x = some (.agg #[.int .i64 a0, .int .i64 a1, .int .i64 a2, .int .i64 a3, .int .i64 a4])) (hy : ev fs y = some (.agg #[.int .i64 b0, .int .i64 b1, .int .i64 b2, .int .i64 b3, .int .i64 b4])) : Val Tryd.prog o fs E L (.bool (decide (a0 = b0 ∧ a1 = b1 ∧ a2 = b2 ∧ a3 = b3 ∧ a4 = b4))) :=
  V_bin ho hx hy fun w => ⟨by simp [go_sem], by
    by_cases h0 : a0 = b0 <;> by_cases h1 : a1 = b1 <;> by_cases h2 : a2 = b2 <;> by_cases h3 : a3 = b3 <;> by_cases h4 : a4 = b4 <;> simp [go_sem, Op.eqFields, S_toList, h0, h1, h2, h3, h4, run_eqArr4 (P := Tryd.prog) 9997]⟩
theorem V_aneq_25 {fs : List (Nat × Value)} {E : Env} {L : List Res} {o : Oper} {x y : Operand} {u : TypeId} {a0 : Int} {a1 : Int} {a2 : Int} {a3 : Int} {a4 : Int} {b0 : Int} {b1 : Int} {b2 : Int} {b3 : Int} {b4 : Int} (ho : o.op = .binOp .neq 25 x y u) (hx : ev fs x = some (.agg #[.int .i64 a0, .int .i64 a1, .int .i64 a2, .int .i64 a3, .int .i64 a4])) (hy : ev fs y = some (.agg #[.int .i64 b0, .int .i64 b1, .int .i64 b2, .int .i64 b3, .int .i64 b4])) : Val Tryd.prog o fs E L (.bool (decide (¬ (a0 = b0 ∧ a1 = b1 ∧ a2 = b2 ∧ a3 = b3 ∧ a4 = b4)))) :=
  V_bin ho hx hy fun w => ⟨by simp [go_sem], by
    by_cases h0 : a0 = b0 <;> by_cases h1 : a1 = b1 <;> by_cases h2 : a2 = b2 <;> by_cases h3 : a3 = b3 <;> by_cases h4 : a4 = b4 <;> simp [go_sem, Op.eqFields, S_toList, h0, h1, h2, h3, h4, run_eqArr4 (P := Tryd.prog) 9997]⟩
theorem V_aeql_23 {fs : List (Nat × Value)} {E : Env} {L : List Res} {o : Oper} {x y : Operand} {u : TypeId} {a0 a1 a2 a3 b0 b1 b2 b3 : Int} (ho : o.op = .binOp .eql 23 x y u) (hx : ev fs x = some (.agg #[.int .i64 a0, .int .i64 a1, .int .i64 a2, .int .i64 a3])) (hy : ev fs y = some (.agg #[.int .i64 b0, .int .i64 b1, .int .i64 b2, .int .i64 b3])) : Val Tryd.prog o fs E L (.bool (decide (a0 = b0 ∧ a1 = b1 ∧ a2 = b2 ∧ a3 = b3))) :=
  V_bin ho hx hy fun w => ⟨by simp [go_sem], by
    simp [go_sem, run_eqArr4 (P := Tryd.prog) (t := 23) 9998]⟩
theorem mixed : Tryd.prog.follows .mixedOrders = true := by kernel_rfl
end Go.Proofs.YthcfakmmomfcaaaDoor
set_option linter.unusedSimpArgs false
set_option linter.unusedVariables false
set_option maxHeartbeats 2000000
set_option maxRecDepth 20000
namespace Go.Proofs.YthcfakmmomfcaaaDoor
open Go.RowKit

/-! The kit's small functions: lists of numbers and of strings. -/
def i64s (l : List Int) : List Value := l.map fun n => .int .i64 n
theorem i64s_get {l : List Int} {k : Nat} {n : Int} (h : l[k]? = some n) : (i64s l)[k]? = some (.int .i64 n) := by simp [i64s, h]
def strs (l : List (List UInt8)) : List Value := l.map fun s => .string (S s)
theorem strs_get {l : List (List UInt8)} {k : Nat} {s : List UInt8} (h : l[k]? = some s) : (strs l)[k]? = some (.string (S s)) := by simp [strs, h]
def unI : List Value → Option (List Int)
  | [] => some []
  | .int .i64 n :: l => (unI l).map (n :: ·)
  | _ :: _ => none
theorem unI_eq : ∀ (vs : List Value) (xs : List Int), unI vs = some xs → vs = i64s xs := by
  intro vs
  induction vs with
  | nil => intro xs h; simp only [unI, Option.some.injEq] at h; subst h; rfl
  | cons v vs ih =>
    intro xs h
    unfold unI at h
    split at h
    · rename_i h0; cases h0
    · rename_i n l h0
      cases h0
      simp only [Option.map_eq_some_iff] at h
      obtain ⟨ys, h1, rfl⟩ := h
      rw [ih ys h1]; rfl
    · cases h
theorem SlE.toI {E : Env} {p : Option Addr} {n : Nat} {vs : List Value} {xs : List Int} (h : SlE E 1 p n vs) (hx : unI vs = some xs) : SlE E 1 p n (i64s xs) := by rw [← unI_eq vs xs hx]; exact h
theorem SlE.nI {E : Env} {p : Option Addr} {n : Nat} {xs : List Int} (h : SlE E 1 p n (i64s xs)) : n = xs.length := by have := h.1; simp [i64s] at this; exact this.symm
theorem SlE.nS {E : Env} {p : Option Addr} {n : Nat} {xs : List (List UInt8)} (h : SlE E 1 p n (strs xs)) : n = xs.length := by have := h.1; simp [strs] at this; exact this.symm
theorem i64s_one (l : List Int) : ∀ v, v ∈ i64s l → v.oneCell' = true := by
  intro v hv
  simp only [i64s, List.mem_map] at hv
  obtain ⟨_, _, rfl⟩ := hv
  rfl
theorem Mod_call (E : Env) (L : List Res) (a m : Int) (ha : -9223372036854775808 ≤ a ∧ a ≤ 9223372036854775807) (hm : -9223372036854775808 ≤ m ∧ m ≤ 9223372036854775807) :
    CallV Tryd.prog 45 #[.int .i64 a, .int .i64 m] E L (.int .i64 (if m < 1 then 0 else a % m)) := by
  refine CallS.toV (CallS.intro (l := [.int .i64 a, .int .i64 m]) _ Tryd.func45 rfl Tryd.ntmps45 rfl ?_)
  by_cases h : m < 1
  · refine G_seq ?_
    refine G_region ?_
    refine G_val (V_assign rfl rfl) rfl rfl (.none rfl) ?_
    refine G_end (X_then (G_seq (G_seq (G_region ?_))))
    refine G_val (V_move rfl rfl) rfl rfl (.none rfl) ?_
    refine G_val (V_lss rfl rfl rfl) rfl rfl (.none rfl) ?_
    refine G_end (X_then ?_)
    refine G_cond_t rfl (decide_eq_true (by omega)) ?_
    refine G_seq (G_region ?_)
    refine G_val (V_assign rfl rfl) rfl rfl (.none rfl) ?_
    refine G_end (X_then (G_ret (X_then_ret ?_)))
    refine G_leaveS (.nil _) (by exact (.cons (.tmp rfl) (.nil))) rfl ?_ ?_
    · exact (.refl _)
    exact ⟨(by (simp (discharger := omega) only [resVal, if_pos, if_neg]; first | done | rfl)), (by rfl)⟩
  have e1 : a.tmod m = if a % m = 0 then 0 else if 0 ≤ a then a % m else a % m - m := by
    rw [Int.tmod_eq_emod]
    have hp : (m : Int).natAbs = m := by omega
    split
    · rename_i h1
      rcases h1 with h1 | h1
      · simp [h1]
      · have := Int.emod_eq_zero_of_dvd h1; simp [this]
    · rename_i h1
      have h0 : ¬ 0 ≤ a := fun h2 => h1 (.inl h2)
      have h2 : a % m ≠ 0 := fun h3 => h1 (.inr (Int.dvd_of_emod_eq_zero h3))
      rw [if_neg h2, if_neg h0, hp]
  have h1 := Int.emod_nonneg a (b := m) (by omega)
  have h2 := Int.emod_lt_of_pos a (b := m) (by omega)
  by_cases h3 : a % m = 0
  · rw [if_pos h3] at e1
    refine G.spell 0 (.int .i64 a) rfl rfl ?_
    refine G_seq (G_region ?_)
    refine G_val (V_assign rfl rfl) rfl rfl (.none rfl) ?_
    refine G_end (X_then (G_seq (G_seq (G_region ?_))))
    refine G_val (V_move rfl rfl) rfl rfl (.none rfl) ?_
    refine G_val (V_lss rfl rfl rfl) rfl rfl (.none rfl) ?_
    refine G_end (X_then ?_)
    refine G_cond_f rfl (decide_eq_false (by omega)) ?_
    refine G_skip (X_then (G_seq (G_region ?_)))
    refine G_val (V_move rfl rfl) rfl rfl (.none rfl) ?_
    refine G_val (V_move rfl rfl) rfl rfl (.none rfl) ?_
    refine G_val (V_rem rfl rfl rfl (by omega)) rfl rfl (.none rfl) ?_
    refine G_val (V_assign rfl rfl) rfl rfl (.none rfl) ?_
    refine G_end (X_then (G_seq (G_seq (G_region ?_))))
    refine G_val (V_move rfl rfl) rfl rfl (.none rfl) ?_
    refine G_val (V_lss rfl rfl rfl) rfl rfl (.none rfl) ?_
    refine G_end (X_then ?_)
    refine G_cond_f rfl (decide_eq_false (by omega)) ?_
    refine G_skip (X_then (G_seq (G_region ?_)))
    refine G_val (V_move rfl rfl) rfl rfl (.none rfl) ?_
    refine G_val (V_assign rfl rfl) rfl rfl (.none rfl) ?_
    refine G_end (X_then (G_ret ?_))
    refine G_leaveS (.nil _) (by exact (.cons (.tmp rfl) (.nil))) rfl ?_ ?_
    · exact (.refl _)
    exact ⟨(by (simp [resVal, *]; done)), (by rfl)⟩
  · rw [if_neg h3] at e1
    rw [if_neg h]
    by_cases h4 : 0 ≤ a
    · rw [if_pos h4] at e1
      refine G_seq (G_region ?_)
      refine G_val (V_assign rfl rfl) rfl rfl (.none rfl) ?_
      refine G_end (X_then (G_seq (G_seq (G_region ?_))))
      refine G_val (V_move rfl rfl) rfl rfl (.none rfl) ?_
      refine G_val (V_lss rfl rfl rfl) rfl rfl (.none rfl) ?_
      refine G_end (X_then ?_)
      refine G_cond_f rfl (decide_eq_false (by omega)) ?_
      refine G_skip (X_then (G_seq (G_region ?_)))
      refine G_val (V_move rfl rfl) rfl rfl (.none rfl) ?_
      refine G_val (V_move rfl rfl) rfl rfl (.none rfl) ?_
      refine G_val (V_rem_n rfl rfl rfl (by omega) (by omega)) rfl rfl (.none rfl) ?_
      refine G_val (V_assign rfl rfl) rfl rfl (.none rfl) ?_
      refine G_end (X_then (G_seq (G_seq (G_region ?_))))
      refine G_val (V_move rfl rfl) rfl rfl (.none rfl) ?_
      refine G_val (V_lss rfl rfl rfl) rfl rfl (.none rfl) ?_
      refine G_end (X_then ?_)
      refine G_cond_f rfl (decide_eq_false (by omega)) ?_
      refine G_skip (X_then (G_seq (G_region ?_)))
      refine G_val (V_move rfl rfl) rfl rfl (.none rfl) ?_
      refine G_val (V_assign rfl rfl) rfl rfl (.none rfl) ?_
      refine G_end (X_then (G_ret ?_))
      refine G_leaveS (.nil _) (by exact (.cons (.tmp rfl) (.nil))) rfl ?_ ?_
      · exact (.refl _)
      exact ⟨rfl, rfl⟩
    · rw [if_neg h4] at e1
      rw [show a % m = a.tmod m + m by omega]
      refine G_seq (G_region ?_)
      refine G_val (V_assign rfl rfl) rfl rfl (.none rfl) ?_
      refine G_end (X_then (G_seq (G_seq (G_region ?_))))
      refine G_val (V_move rfl rfl) rfl rfl (.none rfl) ?_
      refine G_val (V_lss rfl rfl rfl) rfl rfl (.none rfl) ?_
      refine G_end (X_then ?_)
      refine G_cond_f rfl (decide_eq_false (by omega)) ?_
      refine G_skip (X_then (G_seq (G_region ?_)))
      refine G_val (V_move rfl rfl) rfl rfl (.none rfl) ?_
      refine G_val (V_move rfl rfl) rfl rfl (.none rfl) ?_
      refine G_val (V_rem rfl rfl rfl (by omega)) rfl rfl (.none rfl) ?_
      refine G_val (V_assign rfl rfl) rfl rfl (.none rfl) ?_
      refine G_end (X_then (G_seq (G_seq (G_region ?_))))
      refine G_val (V_move rfl rfl) rfl rfl (.none rfl) ?_
      refine G_val (V_lss rfl rfl rfl) rfl rfl (.none rfl) ?_
      refine G_end (X_then ?_)
      refine G_cond_t rfl (decide_eq_true (by omega)) ?_
      refine G_region ?_
      refine G_val (V_move rfl rfl) rfl rfl (.none rfl) ?_
      refine G_val (V_move rfl rfl) rfl rfl (.none rfl) ?_
      refine G_val (V_add_i64 rfl rfl rfl (by omega) (by omega)) rfl rfl (.none rfl) ?_
      refine G_val (V_assign rfl rfl) rfl rfl (.none rfl) ?_
      refine G_end (X_then (G_seq (G_region ?_)))
      refine G_val (V_move rfl rfl) rfl rfl (.none rfl) ?_
      refine G_val (V_assign rfl rfl) rfl rfl (.none rfl) ?_
      refine G_end (X_then (G_ret ?_))
      refine G_leaveS (.nil _) (by exact (.cons (.tmp rfl) (.nil))) rfl ?_ ?_
      · exact (.refl _)
      exact ⟨rfl, rfl⟩
theorem Mod_call' (E : Env) (L : List Res) (a m : Int) (ha : -9223372036854775808 ≤ a ∧ a ≤ 9223372036854775807) (hm : 1 ≤ m ∧ m ≤ 9223372036854775807) :
    CallV Tryd.prog 45 #[.int .i64 a, .int .i64 m] E L (.int .i64 (a % m)) := by
  have h := Mod_call E L a m ha ⟨by omega, hm.2⟩
  rwa [if_neg (by omega)] at h
end Go.Proofs.YthcfakmmomfcaaaDoor
namespace Go.Proofs.YthcfakmmomfcaaaDoor
open Go.RowKit
section
variable {n : Nat} {ds : List Deferred} {fs : List (Nat × Value)} {E : Env} {L : List Res} {X : Act → World → Prop}
end
section
variable {P : Program} {ro : Option Nat} {n : Nat} {ds : List Deferred} {fs : List (Nat × Value)} {E : Env} {L L' : List Res} {ops : Array Oper} {o : Oper}
variable {T : Act → Fam → Prop} {π : List (Nat × Nat)} {i : Nat} {js : List (Env × List Res)}
end
section
variable {P : Program} {ro : Option Nat} {n : Nat} {ds : List Deferred} {fs : List (Nat × Value)} {E : Env} {L : List Res} {ops : Array Oper} {T : Act → Fam → Prop} {π : List (Nat × Nat)} {i : Nat} {o : Oper} {J : World → Prop}
end
end Go.Proofs.YthcfakmmomfcaaaDoor
namespace Go.Proofs.YthcfakmmomfcaaaDoor
open Go.RowKit

/-- Two pieces as one. -/
def Res.both (r1 r2 : Res) : Res := ⟨r1.ids ++ r2.ids, fun h => r1.ok h ∧ r2.ok h, fun h h' e ⟨k1, k2⟩ =>
  ⟨r1.loc h h' (fun b hb => e b (List.mem_append.2 (.inl hb))) k1, r2.loc h h' (fun b hb => e b (List.mem_append.2 (.inr hb))) k2⟩⟩
theorem St.both {E : Env} {L : List Res} {r1 r2 : Res} {w : World} : St E (.both r1 r2 :: L) w ↔ St E (r1 :: r2 :: L) w := by
  constructor <;> intro h <;> refine ⟨h.env, fun r hr => ?_, ?_, fun b hb => ?_, h.os, h.out, h.tape⟩
  · rcases List.mem_cons.1 hr with rfl | hr
    · exact (h.own (.both r r2) (.head _)).1
    · rcases List.mem_cons.1 hr with rfl | hr
      · exact (h.own (.both r1 r) (.head _)).2
      · exact h.own r (.tail _ hr)
  · have := h.nodup
    simpa [Res.both] using this
  · refine h.apart b ?_
    simpa [Res.both] using hb
  · rcases List.mem_cons.1 hr with rfl | hr
    · exact ⟨h.own r1 (.head _), h.own r2 (.tail _ (.head _))⟩
    · exact h.own r (.tail _ (.tail _ hr))
  · have := h.nodup
    simpa [Res.both] using this
  · refine h.apart b ?_
    simpa [Res.both] using hb

section rules
variable {P : Program} {ro : Option Nat} {n : Nat} {ds : List Deferred} {fs : List (Nat × Value)} {E : Env} {L : List Res} {ops : Array Oper} {Q : Exit → Act → World → Prop} {rest : List Oper} {o : Oper}
theorem G.unboth {X : Act → World → Prop} {r1 r2 : Res} (h : G n ds fs E (r1 :: r2 :: L) X) : G n ds fs E (.both r1 r2 :: L) X := fun a w ha hw => h a w ha (St.both.1 hw)
theorem G.both {X : Act → World → Prop} {r1 r2 : Res} (h : G n ds fs E (.both r1 r2 :: L) X) : G n ds fs E (r1 :: r2 :: L) X := fun a w ha hw => h a w ha (St.both.2 hw)
theorem CallS.both {k : FuncId} {args : Array Value} {r1 r2 : Res} {Post : Value → Env → List Res → Prop} (h : CallS P k args E (r1 :: r2 :: L) Post) : CallS P k args E (.both r1 r2 :: L) Post := fun w hw => h w (St.both.1 hw)
theorem CallV.both {k : FuncId} {args : Array Value} {r1 r2 : Res} {v : Value} (h : CallV P k args E (r1 :: r2 :: L) v) : CallV P k args E (.both r1 r2 :: L) v := fun w hw => (h w (St.both.1 hw)).mono fun _ _ ⟨h1, h2⟩ => ⟨h1, St.both.2 h2⟩

/-! ### A string's bytes appended -/
theorem run_append_str {w : World} {t u ty e : TypeId} {z : Value} {bytes : Nat} (ht : P.underlying t = some (.slice e)) (hu : P.underlying u = some .string) (hi : Inf P e z 1 bytes) (hz : z = .int .u8 0)
    {a : Option Addr} {k cap : Nat} {xs : List Value} (hok : slOk e 1 a k cap xs (fun b => w.heap[b]?)) (s : List UInt8) (hby : bytes = 1) (hb : k + s.length ≤ 140737488355328) :
    ∃ a' c' w', (Builtin.append_ #[t, u] ty #[.slice a k cap, .string (S s)]).run P w = .ok (.slice a' (k + s.length) c') w' ∧ slOk e 1 a' (k + s.length) c' (xs ++ u8s s) (fun b => w'.heap[b]?) ∧
      w.heap.size ≤ w'.heap.size ∧ w'.os = w.os ∧ w'.output = w.output ∧ w'.tape = w.tape ∧ (∀ b, some b ≠ a.map (·.block) → b < w.heap.size → w'.heap[b]? = w.heap[b]?) ∧
      (∀ p', a' = some p' → (some p'.block = a.map (·.block)) ∨ w.heap.size = p'.block) ∧ (s = [] → a' = a ∧ c' = cap) := by
  obtain ⟨i, hi1, hi2, hs1, rfl, hi5⟩ := hi.inf
  subst hz
  have hsz : (S s).size = s.length := rfl
  have hsc : Lib.strCells (S s) = u8s s := rfl
  have h63 : k + s.length ≤ maxLen := by simp only [maxLen]; omega
  have hlen : (xs ++ u8s s).length = (k + s.length) * 1 := by rw [List.length_append, hok.1, u8s, List.length_map]; omega
  have hul : (u8s s).length = s.length := List.length_map _
  have fresh : ∀ old, old < k + s.length → slOk e 1 (some ⟨w.heap.size, 0, none⟩) (k + s.length) (grownCap w (k + s.length) old e) (xs ++ u8s s)
      (fun b => (w.drew.alloc (.cells (xs.toArray ++ (u8s s).toArray ++ Builtin.zeroCells (Value.int .u8 0).cells (grownCap w (k + s.length) old e - (k + s.length))) e)).heap[b]?) := fun old _ => by
    have hge := grownCap_ge w (k + s.length) old e
    refine ⟨hlen, .inr ⟨w.heap.size, _, rfl, World.alloc_heap_new w.drew _, hge, grownCap_le_maxLen w (k + s.length) old e h63, ?_, ?_⟩⟩
    · have hz1 : (Value.int IntKind.u8 0).cells.size = 1 := rfl
      have := hok.1
      simp only [Array.size_append, List.size_toArray, size_zeroCells, hz1, hul]
      omega
    · simp only [Array.toList_append, List.append_assoc]
      rw [← List.append_assoc, ← hlen]
      exact List.take_left
  have keep : ∀ (o : Obj) (b : Nat), b < w.heap.size → (w.drew.alloc o).heap[b]? = w.heap[b]? := fun o b hb => Below.heap_alloc w.drew o b hb
  rcases hok.2 with ⟨rfl, rfl, rfl⟩ | ⟨g, cur, rfl, hg, hnc, hcm, hcs, htake⟩
  · have hx : xs = [] := List.eq_nil_of_length_eq_zero (by simpa using hok.1)
    subst hx
    by_cases hm : s.length = 0
    · have hn : s = [] := List.eq_nil_of_length_eq_zero hm
      subst hn
      refine ⟨none, 0, w, ?_, ⟨by simp [u8s], .inl ⟨rfl, rfl, rfl⟩⟩, Nat.le_refl _, rfl, rfl, rfl, fun _ _ _ => rfl, (fun p' h => by cases h), fun _ => ⟨rfl, rfl⟩⟩
      have hf := Lib.run_firstCells_string (P := P) w 1 (S [])
      have h0 : (S []).size = 0 := rfl
      rw [h0] at hf
      simp [Builtin.append_, run_underlying ht, run_underlying hu, sizeOf, typeInfo, hi1, hs1, Builtin.lenOf, h0, hf, List.length_nil]
    · have hr := run_append_nil_string (P := P) w t u ty e i (.int .u8 0) ht hu hi1 hi2 (S s) (by rw [hsz]; omega) (by rw [hsz]; omega) (by rw [hby, hsz]; omega)
      have hf := fresh 0 (by omega)
      simp only [Nat.zero_add, List.nil_append, Array.empty_append] at hf ⊢
      have e1 : ((S s).data.map fun b => Value.int .u8 b.toNat) = (u8s s).toArray := by
        apply Array.ext'
        simp [u8s, S]
      rw [e1, hsz] at hr
      exact ⟨_, _, _, hr, hf, by simp, rfl, rfl, rfl, fun b _ hb => keep _ b hb, (fun p' h => by cases h; exact .inr rfl), fun h => absurd (by rw [h]; rfl) hm⟩
  · by_cases hroom : k + s.length ≤ cap
    · have hr := Lib.run_append_room_string (P := P) w t u ty e i ht hu hi1 hs1 g k cap cur hg (S s) (by rw [hsz]; omega) (by rw [hsz]; omega)
      rw [hsz, hsc] at hr
      refine ⟨_, _, _, hr, ⟨hlen, .inr ⟨g, _, rfl, setRow_heap w g cur _ e _ hg, hroom, hcm, ?_, ?_⟩⟩, by simp, rfl, rfl, rfl, fun b hne _ => setRow_other w g b _ (fun e => hne (by simp [e])), (fun p' h => by cases h; exact .inl rfl), fun _ => ⟨rfl, rfl⟩⟩
      · simp only [List.size_toArray, List.length_append, List.length_take, List.length_drop, Array.length_toList, hul]
        omega
      · have ht' : cur.toList.take k = xs := by simpa using htake
        rw [ht', ← hlen]
        exact List.take_left
    · have holds : ∀ j u, xs[j]? = some u → w.cell? ((⟨g, 0, none⟩ : Addr).add j) = some u := hok.owns.cells (g := g) rfl
      have hr := Lib.run_append_grow_string (P := P) w t u ty e i (.int .u8 0) ht hu hi1 hi2 ⟨g, 0, none⟩ k cap xs (by rw [hs1]; exact hok.1) holds (S s) (by rw [hsz]; omega) (by rw [hsz]; omega) (by rw [hby, hsz]; exact growslice_fits (by omega) (by omega))
      rw [hsz, hsc] at hr
      exact ⟨_, _, _, hr, fresh cap (by omega), by simp, rfl, rfl, rfl, fun b _ hb => keep _ b hb, (fun p' h => by cases h; exact .inr rfl), fun h => absurd (by have := hok.2; rw [h]; simp only [List.length_nil]; omega) hroom⟩

/-- 'append(b, s...)', b bytes of the call's own, s a string. -/
theorem G_appendStr {s x : Operand} {t u e : TypeId} {d : Nat} {sz' szu : Nat} {ag' agu : Bool} [ht : Ty P t (.slice e) sz' ag'] [hu : Ty P u .string szu agu] [hi : Inf P e (.int .u8 0) 1 1] {a : Option Addr} {k cap : Nat} {xs : List Value} {l : List UInt8} {L' : Option Addr → Nat → List Res}
    (ho : o.op = .call { callee := .builtin .append, args := #[s, x], argTypes := #[t, u] }) (hs : ev fs s = some (.slice a k cap)) (hx : ev fs x = some (.string (S l)))
    (hb : k + l.length ≤ 140737488355328) (hd : o.dst = some d) (hn : Nat.blt d n = true) (hg : Goes ops fs o)
    (up : ∀ a' c', Upd L (.sl e 1 a k cap xs) (.sl e 1 a' (k + l.length) c' (xs ++ u8s l)) (L' a' c'))
    (h : ∀ a' c', (l = [] → a' = a ∧ c' = cap) → G n ds ((d, .slice a' (k + l.length) c') :: fs) E (L' a' c') (wpListIn (Wd ro) 0 P ops Q rest)) : G n ds fs E L (wpListIn (Wd ro) 0 P ops Q (o :: rest)) :=
  G_any hg (by rw [ho]; intro c h; cases h) fun a0 w ha hw => by
    have hok : slOk e 1 a k cap xs (fun b => w.heap[b]?) := hw.own _ (up none 0).mem
    obtain ⟨a', c', w', hrun, hok', hsz, hos, hout, htape, hkeep, hnew, hnil⟩ := run_append_str (ty := o.type) ht.und hu.und hi rfl hok l rfl hb
    have e1 : (execOp a0.eval o).run P w = .ok (.value (.slice a' (k + l.length) c')) w' := by
      simp [execOp, ho, resolve, invoke, builtin, ha.eval hs, ha.eval hx, hrun, Result.andThen]
    rw [e1]
    simp only [Oper.uponIn_value, hd]
    refine h a' c' hnil _ _ (ha.put hn _) (hw.update (up a' c') hsz (fun b hb' hlt => hkeep b (fun he => hb' ?_) hlt) hok' (fun b hb' => ?_) ?_ hos hout htape)
    · cases a with
      | none => simp at he
      | some p => simp at he; subst he; simp [Res.sl]
    · cases a' with
      | none => simp [Res.sl] at hb'
      | some p' =>
        simp [Res.sl] at hb'
        subst hb'
        have hlt : p'.block < w'.heap.size := by
          rcases hok'.2 with ⟨h, _⟩ | ⟨g, cur, h, hg', _⟩
          · cases h
          · cases h; exact (Array.getElem?_eq_some_iff.1 hg').1
        rcases hnew _ rfl with h' | h'
        · left
          cases a with
          | none => simp at h'
          | some p => simp at h'; exact ⟨by simp [Res.sl, h'], hlt⟩
        · exact .inr ⟨by omega, hlt⟩
    · cases a' <;> simp [Res.sl]

/-! ### Entries without a body -/
theorem V_extern {k : FuncId} {fn : Func} {e : Array Value → Sem Value} {args : Array Value} {v : Value} (hf : P.funcs[k]? = some fn) (hname : (fn.name == "runtime.NumGoroutine") = false) (hb : fn.body.isNone = true) (hn : Extern.findNext fn = none) (he : Extern.find fn = some e)
    (hrun : ∀ w, (e args).run P w = .ok v w) (ht : Goesto fs o k args) : Val P o fs E L v := by
  obtain ⟨f, xs, ts, vs, cap, ho, hfv, hx, rfl⟩ := ht
  refine ⟨(by rw [ho]; intro c h; cases h), fun n ds a w ha _ => ?_⟩
  have e1 := evs_args ha hx
  simp only [Array.toArray_toList] at e1
  have e2 := ha.eval hfv
  simp only [execOp, ho, resolve, e2, Deferred.ofValue, e1]
  simp [invoke, run_callFunc_extern hf hname hb hn he, hrun, Result.andThen]
/-- The first place of a byte. -/
def idxB (s : List UInt8) (c : UInt8) : Int := Lib.indexByte s c

/-! ### Pointers -/
theorem V_peqN {t u te : TypeId} {sz : Nat} {ag : Bool} [ht : Ty P t (.pointer te) sz ag] {x y : Operand} {p : Option Addr} (ho : o.op = .binOp .eql t x y u) (hx : ev fs x = some (.pointer p)) (hy : ev fs y = some (.pointer none)) : Val P o fs E L (.bool p.isNone) :=
  V_bin ho hx hy fun w => ⟨by simp [eqGuard], by
    have h : ∀ d : Nat, (Op.equalIn (d + 1) t (.pointer p) (.pointer none)).run P w = .ok p.isNone w := fun d => by
      cases p <;> simp [Op.equalIn, ht.run, sameAddr]
    simp only [binOp]
    simp [Op.equal, Op.maxDepth, h 9999]⟩
theorem V_pneqS {t u te : TypeId} {sz sz2 : Nat} {ag : Bool} {z : Value} {bytes : Nat} [ht : Ty P t (.pointer te) sz ag] [hi : Inf P te z sz2 bytes] {x y : Operand} {p : Addr} (ho : o.op = .binOp .neq t x y u) (hx : ev fs x = some (.pointer (some p))) (hy : ev fs y = some (.pointer (some p))) : Val P o fs E L (.bool false) := by
  obtain ⟨i, hi1, _⟩ := hi.inf
  exact V_bin ho hx hy fun w => ⟨by simp [eqGuard], Lib.run_neq_ptr_same w p ht.und hi1⟩
theorem V_toUnsafe {src dst te : TypeId} {sz sz' sz2 : Nat} {ag ag' : Bool} {z : Value} {bytes : Nat} [hs : Ty P src (.pointer te) sz ag] [hd : Ty P dst .unsafePointer sz' ag'] [hi : Inf P te z sz2 bytes] {x : Operand} {b off : Nat} {cs : Array Value} {T : TypeId} {fz : Nat × Nat}
    (ho : o.op = .convert src dst x) (hx : ev fs x = some (.pointer (some ⟨b, off, none⟩))) (hm : Res.blk b (.cells cs T fz) ∈ L) (hoff : off < cs.size) (h0 : sz2 ≠ 0) : Val P o fs E L (.pointer (some ⟨b, off, none⟩)) := by
  obtain ⟨i, hi1, _, hi3, _⟩ := hi.inf
  refine ⟨(by rw [ho]; intro c h; cases h), fun n ds a w ha hw => ?_⟩
  have hb : w.heap[b]? = some (.cells cs T fz) := hw.own _ hm
  have := Lib.run_to_unsafe (P := P) w (src := src) (dst := dst) (e := T) (cells := cs.size) ⟨b, off, none⟩ hs.und hd.und hi1 (by omega) (by simp [World.shape?, hb]) hoff
  simp [execOp, ho, ha.eval hx, Result.andThen, this]
theorem V_fromUnsafe {src dst te : TypeId} {sz sz' sz2 : Nat} {ag ag' : Bool} {z : Value} {bytes : Nat} [hs : Ty P src .unsafePointer sz ag] [hd : Ty P dst (.pointer te) sz' ag'] [hi : Inf P te z sz2 bytes] {x : Operand} {b off : Nat} {cs : Array Value} {T : TypeId} {fz : Nat × Nat}
    (ho : o.op = .convert src dst x) (hx : ev fs x = some (.pointer (some ⟨b, off, none⟩))) (hm : Res.blk b (.cells cs T fz) ∈ L) (hl : liesAt P P.depth T (cs.size / P.cellsOf T) off te 1 = true) : Val P o fs E L (.pointer (some ⟨b, off, none⟩)) := by
  obtain ⟨i, hi1, _⟩ := hi.inf
  refine ⟨(by rw [ho]; intro c h; cases h), fun n ds a w ha hw => ?_⟩
  have hb : w.heap[b]? = some (.cells cs T fz) := hw.own _ hm
  have := Lib.run_from_unsafe (P := P) w (src := src) (dst := dst) (e := T) (cells := cs.size) ⟨b, off, none⟩ hs.und hd.und hi1 (by simp [World.shape?, hb]) hl
  simp [execOp, ho, ha.eval hx, Result.andThen, this]
end rules
end Go.Proofs.YthcfakmmomfcaaaDoor
namespace Go.Proofs.YthcfakmmomfcaaaDoor
open Go.RowKit

section rules
variable {P : Program} {ro : Option Nat} {n : Nat} {ds : List Deferred} {fs : List (Nat × Value)} {E : Env} {L : List Res} {ops : Array Oper} {Q : Exit → Act → World → Prop} {rest : List Oper} {o : Oper}
/-! ### unsafe.SliceData, unsafe.String -/
theorem V_sliceData {x : Operand} {ts : Array TypeId} {a : Option Addr} {m c : Nat} (ho : o.op = .call { callee := .builtin .unsafeSliceData, args := #[x], argTypes := ts }) (hx : ev fs x = some (.slice a m c)) (hc : a = none ∨ c ≠ 0) : Val P o fs E L (.pointer a) :=
  ⟨(by rw [ho]; intro c h; cases h), fun n ds a0 w ha _ => by
    have e : (Builtin.unsafeSliceData_ ts o.type #[.slice a m c]).run P w = .ok (.pointer a) w := by
      cases a with
      | none => rfl
      | some p => exact Lib.run_unsafeSliceData_row _ _ _ _ _ _ (hc.resolve_left (fun h => by cases h))
    simp [execOp, ho, resolve, invoke, builtin, ha.eval hx, Result.andThen, e]⟩
/-- unsafe.String over bytes of the call's own: they are given away. -/
theorem G_unsafeString {x y : Operand} {pt it e : TypeId} {d szp : Nat} {agp : Bool} [hp : Ty P pt (.pointer e) szp agp] {a : Option Addr} {c : Nat} {l : List UInt8} {L' : List Res}
    (ho : o.op = .call { callee := .builtin .unsafeString, args := #[x, y], argTypes := #[pt, it] }) (hx : ev fs x = some (.pointer a)) (hy : ev fs y = some (.int .i64 l.length)) (hl : l.length ≤ 9223372036854775807) (hce : P.cellsOf e = 1)
    (hd : o.dst = some d) (hn : Nat.blt d n = true) (hg : Goes ops fs o) (hdel : Del L (.sl e 1 a l.length c (u8s l)) L')
    (h : G n ds ((d, .string (S l)) :: fs) E L' (wpListIn (Wd ro) 0 P ops Q rest)) : G n ds fs E L (wpListIn (Wd ro) 0 P ops Q (o :: rest)) :=
  G_any hg (by rw [ho]; intro c h; cases h) fun a0 w ha hw => by
    have hw1 := hw.perm hdel.perm
    have hok : slOk e 1 a l.length c (u8s l) (fun b => w.heap[b]?) := hw1.own _ (.head _)
    have fin : ∀ w', (Builtin.unsafeString_ #[pt, it] o.type #[.pointer a, .int .i64 l.length]).run P w = .ok (.string (S l)) w' → St E L' w' → o.uponIn (Wd ro) 0 P a0 (wpListIn (Wd ro) 0 P ops Q rest) Q ((execOp a0.eval o).run P w) := fun w' hrun hw' => by
      have e1 : (execOp a0.eval o).run P w = .ok (.value (.string (S l))) w' := by
        simp [execOp, ho, resolve, invoke, builtin, ha.eval hx, ha.eval hy, hrun, Result.andThen]
      rw [e1]
      simp only [Oper.uponIn_value, hd]
      exact h _ _ (ha.put hn _) hw'
    by_cases h0 : l = []
    · subst h0
      exact fin w (Lib.run_unsafeString_none (P := P) w pt it o.type a) hw1.drop
    · rcases hok.2 with ⟨_, _, h1⟩ | ⟨g, cur, rfl, hgb, hnc, hcm, hcs, htake⟩
      · exact absurd (List.eq_nil_of_length_eq_zero h1) h0
      · have hcell := hok.owns.cells (g := g) rfl
        have hus := Lib.run_unsafeString_row (P := P) w pt it o.type e hp.und hce g cur.size (by simp [World.shape?, hgb]) l h0 (by omega) hl (fun j x hx => hcell j (.int .u8 x.toNat) (by simp [u8s, hx]))
        refine fin _ hus ?_
        refine St.drop (r := .blk g (.cells cur e (0, 0 + l.length))) (hw1.update (r := .sl e 1 (some ⟨g, 0, none⟩) l.length c (u8s l)) (.head _ _ _) ?_ (fun b hb _ => ?_) ?_ (fun b hb => ?_) (by simp [Res.blk]) ?_ ?_ ?_)
        · unfold World.freeze; split <;> simp
        · have : b ≠ g := fun e => hb (by subst e; simp [Res.sl])
          unfold World.freeze
          split
          · rfl
          · simp [Array.getElem?_modify, Ne.symm this]
        · show (w.freeze ⟨g, 0, none⟩ l.length).heap[g]? = _
          unfold World.freeze
          rw [if_neg (by simpa using h0)]
          simp only [Array.getElem?_modify, if_true]
          have hgb' : w.heap[g]? = some (.cells cur e (0, 0)) := hgb
          rw [hgb']
          rfl
        · simp only [Res.blk, List.mem_singleton] at hb
          subst hb
          refine .inl ⟨by simp [Res.sl], ?_⟩
          have hlt := (Array.getElem?_eq_some_iff.1 hgb).1
          unfold World.freeze
          split <;> simpa using hlt
        · unfold World.freeze; split <;> rfl
        · unfold World.freeze; split <;> rfl
        · unfold World.freeze; split <;> rfl
end rules
end Go.Proofs.YthcfakmmomfcaaaDoor
