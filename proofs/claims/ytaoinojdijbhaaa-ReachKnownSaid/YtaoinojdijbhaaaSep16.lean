/-
  The same, its rules for the walk.
-/
import Derived.Test.YtaoinojdijbhaaaSep15
set_option linter.unusedSimpArgs false
set_option linter.unusedVariables false
namespace Go.Proofs.Ytaoinojdijbhaaa
open Go.RowKit

/-- X holds in every frame of which this is known, of the memory of which this is known. -/
def GF (n : Nat) (ds : List Deferred) (fs : List (Nat × Value)) (E : Env) (L : List Res) (X : Act → Fam → Prop) : Prop := ∀ a, Fr n ds fs a → X a (Fam.st E L)

/-- What the loads of a region rest on. -/
def JL (js : List (Env × List Res)) : World → Prop := fun w => ∀ p, p ∈ js → ∃ M, St p.1 (M ++ p.2) w
theorem JL_cons {E : Env} {l : List Res} {js : List (Env × List Res)} : (fun w => JL js w ∧ ∃ M, St E (M ++ l) w) = JL ((E, l) :: js) := by
  funext w
  refine propext ⟨fun h p hp => ?_, fun h => ⟨fun p hp => h p (.tail _ hp), h _ (.head _)⟩⟩
  rcases List.mem_cons.1 hp with rfl | hp
  · exact h.2
  · exact h.1 p hp
def Jok (js : List (Env × List Res)) (E : Env) (L : List Res) : Prop := ∀ w, Fam.J (Fam.st E L) w → JL js w
theorem Jok.nil {E : Env} {L : List Res} : Jok [] E L := fun _ _ p hp => by cases hp
theorem mem_st {E : Env} {L M : List Res} {r : Res} {w : World} (hr : r ∈ L) (h : St E (M ++ L) w) : ∃ M, St E (M ++ [r]) w := by
  obtain ⟨s, t, rfl⟩ := List.append_of_mem hr
  refine ⟨M ++ (s ++ t), h.perm ?_⟩
  have : (M ++ (s ++ r :: t)).Perm (M ++ (r :: (s ++ t))) := List.Perm.append_left _ List.perm_middle
  refine this.trans ?_
  have h2 : (M ++ r :: (s ++ t)).Perm (r :: (M ++ (s ++ t))) := List.perm_middle
  exact h2.trans (List.perm_append_comm (l₁ := [r]) (l₂ := M ++ (s ++ t)))
theorem Jok.cons {E E1 : Env} {L : List Res} {r : Res} {js : List (Env × List Res)} (hE : E1.Le E) (hr : r ∈ L) (h : Jok js E L) : Jok ((E1, [r]) :: js) E L := fun w hw p hp => by
  rcases List.mem_cons.1 hp with rfl | hp
  · obtain ⟨M, hM⟩ := hw
    obtain ⟨M', h'⟩ := mem_st hr hM
    exact ⟨M', h'.weaken hE⟩
  · exact h w hw p hp
theorem Jok.consE {E E1 : Env} {L : List Res} {js : List (Env × List Res)} (hE : E1.Le E) (h : Jok js E L) : Jok ((E1, []) :: js) E L := fun w hw p hp => by
  rcases List.mem_cons.1 hp with rfl | hp
  · obtain ⟨M, hM⟩ := hw
    refine ⟨M, ?_⟩
    have := St.weaken (St.dropAll (M := M) hM) hE
    have h0 := St.perm hM List.perm_append_comm
    simpa using (St.dropAll (M := L) h0).weaken hE
  · exact h w hw p hp

def nodupB : List Nat → Bool
  | [] => true
  | x :: l => !l.contains x && nodupB l
theorem nodupB_spec : ∀ l, nodupB l = true → l.Nodup := by
  intro l
  induction l with
  | nil => intro _; exact List.nodup_nil
  | cons x l ih =>
    intro h
    simp only [nodupB, Bool.and_eq_true, Bool.not_eq_true', List.contains_eq_mem, decide_eq_false_iff_not] at h
    exact List.nodup_cons.2 ⟨h.1, ih h.2⟩
def drawB (l : List Oper) (m : Nat) (π : List (Nat × Nat)) : Bool :=
  Region.noSelect l.toArray && noDefer l && ((decide (m < l.length) && Region.sinkB .any l.toArray m && Region.chainB .any l.toArray m) || decide (m = l.length)) &&
  decide (π.length = m) && nodupB (π.map Prod.fst) && ((List.range m).all fun i => (π.map Prod.fst).contains i) && walkB l.toArray (l.length - m) m π (Array.replicate l.length false)

section draw
variable {P : Program} {ro : Option Nat} {n : Nat} {ds : List Deferred} {fs : List (Nat × Value)} {E : Env} {L L' : List Res} {Q : Exit → Act → World → Prop}

theorem G_drawX {id : Nat} {l : List Oper} (m : Nat) (π : List (Nat × Nat)) (hm : P.follows .mixedOrders = true) (hB : drawB l m π = true)
    (h : GF n ds fs E L (wpF P l.toArray (fun a Φ => ∀ M w, Φ.ok M w → wpListIn (Wd ro) 0 P l.toArray Q (l.drop m) a w) (JL []) π)) : G n ds fs E L ((Code.region id l.toArray true).wpIn (Wd ro) 0 P Q) := by
  intro a w ha hw
  simp only [drawB, Bool.and_eq_true, Bool.or_eq_true, decide_eq_true_eq, List.all_eq_true] at hB
  obtain ⟨⟨⟨⟨⟨⟨hsel, hnd⟩, hmm⟩, hlen⟩, hnodup⟩, hall⟩, hwalk⟩ := hB
  have hnd' : ∀ (i : Nat) (o : Oper) c, l.toArray[i]? = some o → o.op ≠ .defer c := by
    intro i o c ho hc'
    have hmem : o ∈ l := List.mem_of_getElem? (by simpa using ho)
    have := (List.all_eq_true.1 hnd) o hmem
    rw [hc'] at this; cases this
  have hml : m ≤ l.length := by rcases hmm with ⟨⟨h1, _⟩, _⟩ | h1 <;> omega
  have inv0 : HeadInv .any l.toArray m (Array.replicate l.length false) :=
    ⟨by simp, fun j oj _ hl => (by rw [getD_replicate_false] at hl; cases hl), fun t _ ht => getD_in (by simpa using ht) (getD_replicate_false _ _)⟩
  have hjm : ∀ listed, HeadInv .any l.toArray m listed → Jm l.toArray m listed := by
    intro listed inv i him hun t ht hr
    rcases hmm with ⟨⟨h1, hs⟩, hc⟩ | h1
    · exact tail_waits hs hc (by simpa using h1) inv (m - i) i rfl him hun t ht hr
    · obtain ⟨_, o, ho, _⟩ := mem_ready.1 hr
      have := (Array.getElem?_eq_some_iff.1 ho).1
      simp at this
      omega
  refine wpIn_region_any hm ?_
  have key := orders (P := P) (T := fun a Φ => ∀ M w, Φ.ok M w → wpListIn (Wd ro) 0 P l.toArray Q (l.drop m) a w)
    (TT := fun listed a w => Region.seqB .any l.toArray (l.length - m) m listed = true ∧ wpListIn (Wd ro) 0 P l.toArray Q (l.drop m) a w) (Region.noSelect_spec hsel) hjm
    (fun listed a w hT => seqB_ready hT.1) (fun listed a Φ M w h1 h2 h3 => ⟨h1, h2 M w h3⟩) π (JL []) m a (Fam.st E L) [] [] { w with drawn := w.drawn + 1 } (Array.replicate l.length false) (Array.replicate l.length false) a
    (by simpa using hlen.symm) (fun w hw p hp => by cases hp) (h a ha)
    ⟨hwalk, inv0, fun i h => h, by simp, fun i him => ⟨fun _ => ⟨by
        obtain ⟨p, hp, he⟩ := List.mem_map.1 (List.contains_iff_mem.1 (hall i (List.mem_range.2 him)))
        exact ⟨p.2, by rw [← he]; exact hp⟩, by simp⟩, fun _ => getD_in (by simp; omega) (getD_replicate_false _ _)⟩, nodupB_spec _ hnodup, by simp, by simp,
      fun i him => ⟨fun _ => by
        obtain ⟨p, hp, he⟩ := List.mem_map.1 (List.contains_iff_mem.1 (hall i (List.mem_range.2 him)))
        exact ⟨p.2, by rw [← he]; exact hp⟩, fun _ => getD_in (by simp; omega) (getD_replicate_false _ _)⟩, fun t _ ht => getD_in (by simpa using ht) (getD_replicate_false _ _)⟩
    ⟨rfl, rfl, fun _ _ => rfl, fun e he => by cases he⟩ (fun e he => by cases he) (show St E ([] ++ L) _ from hw.drew (w.drawn + 1))
  have := WJ.wp (ro := ro) (Q' := Q) (g := l.length - m) hnd' (fun listed a' w' hT => by
    have := seqIn (ro := ro) (P := P) (Q' := Q) (l.drop m) m listed a' w' (fun j => by simp) (by simpa using hT.1) hT.2
    simpa using this) _ _ _ _ key
  rw [show m + (l.length - m) = l.toArray.size by simp; omega] at this
  simpa using this
end draw

section rules
variable {P : Program} {ro : Option Nat} {n : Nat} {ds : List Deferred} {fs : List (Nat × Value)} {E : Env} {L L' : List Res} {ops : Array Oper} {T : Act → Fam → Prop} {π : List (Nat × Nat)} {i : Nat} {o : Oper} {J : World → Prop} {js : List (Env × List Res)}

theorem F_end {X : Act → World → Prop} (s : Sel L L') (h : G n ds fs E L' X) : GF n ds fs E L (wpF P ops (fun a Φ => ∀ M w, Φ.ok M w → X a w) J []) := fun a ha M w hw => h a w ha (s.st w (St.dropAll hw))

theorem F_pure {d : Nat} {v : Value} (h0 : ops[i]? = some o) (hv : ∀ E L, Val P o fs E L v) (hd : o.dst = some d) (hn : Nat.blt d n = true) (hg : Goes ops fs o)
    (h : GF n ds ((d, v) :: fs) E L (wpF P ops T J π)) : GF n ds fs E L (wpF P ops T J ((i, 0) :: π)) := fun a ha =>
  ⟨o, h0, by rw [if_pos (hg.wanted ha)]; exact ⟨v, fun w => (hv (Env.of w) []).2 n ds a w ha (St.start w), by rw [hd]; exact h _ (ha.put hn v)⟩⟩
theorem F_load {d : Nat} {v : Value} {r : Res} (h0 : ops[i]? = some o) (hr : r ∈ L) (hv : Val P o fs E [r] v) (hd : o.dst = some d) (hn : Nat.blt d n = true) (hg : Goes ops fs o)
    (h : GF n ds ((d, v) :: fs) E L (wpF P ops T (JL ((E, [r]) :: js)) π)) : GF n ds fs E L (wpF P ops T (JL js) ((i, 1) :: π)) := fun a ha =>
  ⟨o, h0, by
    rw [if_pos (hg.wanted ha)]
    refine ⟨v, fun w => ∃ M, St E (M ++ [r]) w, fun w ⟨M, hw⟩ => hv.2 n ds a w ha (St.dropAll hw), fun w ⟨M, hw⟩ => mem_st hr hw, ?_⟩
    rw [hd, JL_cons]; exact h _ (ha.put hn v)⟩
theorem F_loadE {d : Nat} {v : Value} (h0 : ops[i]? = some o) (hv : Val P o fs E [] v) (hd : o.dst = some d) (hn : Nat.blt d n = true) (hg : Goes ops fs o)
    (h : GF n ds ((d, v) :: fs) E L (wpF P ops T (JL ((E, []) :: js)) π)) : GF n ds fs E L (wpF P ops T (JL js) ((i, 1) :: π)) := fun a ha =>
  ⟨o, h0, by
    rw [if_pos (hg.wanted ha)]
    refine ⟨v, fun w => ∃ M, St E (M ++ []) w, fun w ⟨M, hw⟩ => hv.2 n ds a w ha (St.dropAll hw), fun w ⟨M, hw⟩ => ⟨M, by
      have h0 := St.perm hw List.perm_append_comm
      simpa using St.dropAll (M := L) h0⟩, ?_⟩
    rw [hd, JL_cons]; exact h _ (ha.put hn v)⟩
theorem F_storeAll {t : TypeId} {x y : Operand} {b off : Nat} {v : Value} {vs : List Value} {d : TypeDesc} {ag : Bool} {TT : TypeId} {cs cs' : Array Value} {sz : Nat} [ht : Ty P t d sz ag]
    (h0 : ops[i]? = some o) (ho : o.op = .store t x y) (hx : ev fs x = some (.pointer (some ⟨b, off, none⟩))) (hy : ev fs y = some v) (hc : v.cells = vs.toArray) (hs : vs.length = sz) (hone : ∀ v, v ∈ vs → v.oneCell' = true)
    (hd : o.dst = none) (hg : Goes ops fs o) (u : Upd L (.blk b (.cells cs TT (0, 0))) (.blk b (.cells cs' TT (0, 0))) L') (hl : off + vs.length ≤ cs.size) (hcs : putAll cs off vs = cs') (hj : Jok js E L')
    (h : GF n ds fs E L' (wpF P ops T (JL js) π)) : GF n ds fs E L (wpF P ops T (JL js) ((i, 4) :: π)) := fun a ha =>
  ⟨o, h0, by
    rw [if_pos (hg.wanted ha)]
    refine ⟨Fam.st E L', fun M w hw => ⟨w.putObj b (.cells cs' TT (0, 0)), ?_, St.put hw (u.app M)⟩, hj, ?_⟩
    · have hb : w.heap[b]? = some (.cells cs TT (0, 0)) := St.own hw _ (u.app M).mem
      have := run_storeCells (P := P) (b := b) (off := off) (T := TT) vs cs 0 w hb (by simpa using hl) hone
      simp only [Nat.add_zero, hcs] at this
      simp [execOp, ho, ha.eval hx, ha.eval hy, Instr.storeAt, Instr.sureAddr, storeVar, ht.size, Result.andThen, hc, hs, this]
    · rw [hd]; exact h _ ha⟩
theorem F_store1 {t : TypeId} {x y : Operand} {b : Nat} {v u : Value} {d : TypeDesc} {TT : TypeId} {ag : Bool} [ht : Ty P t d 1 ag]
    (h0 : ops[i]? = some o) (ho : o.op = .store t x y) (hx : ev fs x = some (.pointer (some ⟨b, 0, none⟩))) (hy : ev fs y = some v) (hc : v.cells = #[v]) (hone : v.oneCell' = true)
    (hd : o.dst = none) (hg : Goes ops fs o) (hu : Upd L (.blk b (.cells #[u] TT (0, 0))) (.blk b (.cells #[v] TT (0, 0))) L') (hj : Jok js E L')
    (h : GF n ds fs E L' (wpF P ops T (JL js) π)) : GF n ds fs E L (wpF P ops T (JL js) ((i, 4) :: π)) :=
  F_storeAll (vs := [v]) h0 ho hx hy hc rfl (by simpa using hone) hd hg hu (by simp) (by simp [putAll]) hj h
theorem F_storeAt {t : TypeId} {x y : Operand} {b off : Nat} {v : Value} {d : TypeDesc} {TT : TypeId} {cs cs' : Array Value} {ag : Bool} [ht : Ty P t d 1 ag]
    (h0 : ops[i]? = some o) (ho : o.op = .store t x y) (hx : ev fs x = some (.pointer (some ⟨b, off, none⟩))) (hy : ev fs y = some v) (hc : v.cells = #[v]) (hone : v.oneCell' = true)
    (hd : o.dst = none) (hg : Goes ops fs o) (hu : Upd L (.blk b (.cells cs TT (0, 0))) (.blk b (.cells cs' TT (0, 0))) L') (hl : off < cs.size) (hcs : cs.setIfInBounds off v = cs') (hj : Jok js E L')
    (h : GF n ds fs E L' (wpF P ops T (JL js) π)) : GF n ds fs E L (wpF P ops T (JL js) ((i, 4) :: π)) :=
  F_storeAll (vs := [v]) h0 ho hx hy hc rfl (by simpa using hone) hd hg hu (by simpa using Nat.succ_le_of_lt hl) (by simp [putAll, hcs]) hj h
theorem F_storeF {t : TypeId} {x y : Operand} {b off : Nat} {vs : List Value} {d : TypeDesc} {ag : Bool} {TT : TypeId} {cs cs' : Array Value} {sz : Nat} [ht : Ty P t d sz ag]
    (h0 : ops[i]? = some o) (ho : o.op = .store t x y) (hx : ev fs x = some (.pointer (some ⟨b, off, none⟩))) (hy : ev fs y = some (.agg vs.toArray)) (hs : vs.length = sz) (hone : ∀ v, v ∈ vs → v.oneCell' = true)
    (hd : o.dst = none) (hg : Goes ops fs o) (u : Upd L (.blk b (.cells cs TT (0, 0))) (.blk b (.cells cs' TT (0, 0))) L') (hl : off + vs.length ≤ cs.size) (hcs : putAll cs off vs = cs') (hj : Jok js E L')
    (h : GF n ds fs E L' (wpF P ops T (JL js) π)) : GF n ds fs E L (wpF P ops T (JL js) ((i, 4) :: π)) :=
  F_storeAll h0 ho hx hy rfl hs hone hd hg u hl hcs hj h
theorem F_stay {d k : Nat} (h0 : ops[i]? = some o) (hs : Stays ops fs o) (hd : o.dst = some d) (hn : Nat.blt d n = true) (h : GF n ds ((d, undef) :: fs) E L (wpF P ops T J π)) : GF n ds fs E L (wpF P ops T J ((i, k) :: π)) := fun a ha =>
  ⟨o, h0, by rw [if_neg (by rw [hs.wanted ha]; simp), hd]; exact h _ (ha.put hn undef)⟩
theorem F_stay0 {k : Nat} (h0 : ops[i]? = some o) (hs : Stays ops fs o) (hd : o.dst = none) (h : GF n ds fs E L (wpF P ops T J π)) : GF n ds fs E L (wpF P ops T J ((i, k) :: π)) := fun a ha =>
  ⟨o, h0, by rw [if_neg (by rw [hs.wanted ha]; simp), hd]; exact h _ ha⟩

theorem F_mk {d : Nat} {val : Nat → Value} {obj : Obj} (h0 : ops[i]? = some o) (he : ∀ a, Fr n ds fs a → ∀ w, (execOp a.eval o).run P w = .ok (.value (val w.heap.size)) (w.alloc obj)) (hd : o.dst = some d) (hn : Nat.blt d n = true) (hg : Goes ops fs o)
    (h : ∀ b, E.heap b = none → GF n ds ((d, val b) :: fs) E (.blk b obj :: L) (wpF P ops T J π)) : GF n ds fs E L (wpF P ops T J ((i, 2) :: π)) := fun a ha =>
  ⟨o, h0, by
    rw [if_pos (hg.wanted ha)]
    refine ⟨val, obj, he a ha, fun b ⟨M, w, hw⟩ => ?_⟩
    rw [hd, Fam.st_add]
    exact h b (St.apart hw b (by simp [Res.blk])).1 _ (ha.put hn _)⟩
theorem F_alloc {t : TypeId} {d : Nat} {z : Value} {cs : Array Value} [hz : Zero P t z cs] (h0 : ops[i]? = some o) (ho : o.op = .alloc t) (hd : o.dst = some d) (hn : Nat.blt d n = true) (hg : Goes ops fs o)
    (h : ∀ b, GF n ds ((d, .pointer (some ⟨b, 0, none⟩)) :: fs) E (.blk b (.cells cs t (0, 0)) :: L) (wpF P ops T J π)) : GF n ds fs E L (wpF P ops T J ((i, 2) :: π)) :=
  F_mk (val := fun b => .pointer (some ⟨b, 0, none⟩)) h0 (fun a ha w => by simp [execOp, ho, Instr.alloc, hz.zv, Result.andThen, newVar, newRow, hz.zc]) hd hn hg fun b _ => h b
theorem F_box {t : TypeId} {x : Operand} {d : Nat} {v : Value} {cs : Array Value} (h0 : ops[i]? = some o) (ho : o.op = .box t x) (hx : ev fs x = some v) (hc : v.cells = cs) (hd : o.dst = some d) (hn : Nat.blt d n = true) (hg : Goes ops fs o)
    (h : ∀ b, GF n ds ((d, .pointer (some ⟨b, 0, none⟩)) :: fs) E (.blk b (.cells cs t (0, 0)) :: L) (wpF P ops T J π)) : GF n ds fs E L (wpF P ops T J ((i, 2) :: π)) :=
  F_mk (val := fun b => .pointer (some ⟨b, 0, none⟩)) h0 (fun a ha w => by simp [execOp, ho, ha.eval hx, Instr.box, newVar, newRow, hc]) hd hn hg fun b _ => h b
theorem F_box1 {t : TypeId} {x : Operand} {d : Nat} {v : Value} (h0 : ops[i]? = some o) (ho : o.op = .box t x) (hx : ev fs x = some v) (hc : v.cells = #[v]) (hd : o.dst = some d) (hn : Nat.blt d n = true) (hg : Goes ops fs o)
    (h : ∀ b, GF n ds ((d, .pointer (some ⟨b, 0, none⟩)) :: fs) E (.blk b (.cells #[v] t (0, 0)) :: L) (wpF P ops T J π)) : GF n ds fs E L (wpF P ops T J ((i, 2) :: π)) := F_box h0 ho hx hc hd hn hg h
theorem F_boxA {t : TypeId} {x : Operand} {d : Nat} {cs : Array Value} (h0 : ops[i]? = some o) (ho : o.op = .box t x) (hx : ev fs x = some (.agg cs)) (hd : o.dst = some d) (hn : Nat.blt d n = true) (hg : Goes ops fs o)
    (h : ∀ b, GF n ds ((d, .pointer (some ⟨b, 0, none⟩)) :: fs) E (.blk b (.cells cs t (0, 0)) :: L) (wpF P ops T J π)) : GF n ds fs E L (wpF P ops T J ((i, 2) :: π)) := F_box h0 ho hx rfl hd hn hg h

/-! Slices written out -/
def fillS (sz : Nat) : List Value → List (Nat × Value) → Option (List Value)
  | l, [] => some l
  | l, (i, v) :: r => if v.cells.size = sz ∧ i * sz + sz ≤ l.length then fillS sz (setLs l (i * sz) v.cells.toList) r else none
def zeros (k : Nat) (zc : List Value) : List Value := (List.range k).map fun j => zc.toArray[j % zc.length]!
theorem fillS_of {sz : Nat} : ∀ (ps : List (Nat × Value)) (l cells : List Value), fillS sz l ps = some cells → Instr.fill (fun i => some (i * sz, sz)) l.toArray ps = some cells.toArray := by
  intro ps
  induction ps with
  | nil => intro l cells h; simp only [fillS, Option.some.injEq] at h; subst h; rfl
  | cons p ps ih =>
    obtain ⟨i, v⟩ := p
    intro l cells h
    simp only [fillS] at h
    split at h
    · rename_i hc
      simp only [Instr.fill]
      have : ¬ ((decide (v.cells.size ≠ sz) || decide (i * sz + v.cells.size > l.toArray.size)) = true) := by
        simp; omega
      rw [if_neg (by simpa using this)]
      have e := foldl_set v.cells.toList l (i * sz) 0
      have h2 : (v.cells.zipIdx.foldl (fun cs (p : Value × Nat) => cs.setIfInBounds (i * sz + p.2) p.1) l.toArray) = (setLs l (i * sz) v.cells.toList).toArray := by
        rw [← Array.foldl_toList, Array.toList_zipIdx]; exact e
      rw [show (Array.foldl (fun cs x => match x with | (c, j) => cs.setIfInBounds (i * sz + j) c) l.toArray v.cells.zipIdx) = (setLs l (i * sz) v.cells.toList).toArray from h2]
      exact ih _ _ h
    · cases h
theorem run_lit {t e : TypeId} {td : TypeDesc} {sz sz' : Nat} {ag ag' : Bool} [ht : Ty P t (.slice e) sz' ag'] [he : Ty P e td sz ag] {z : Value} {zc : List Value} [hz : Zero P e z zc.toArray] {k : Nat} {ps : List (Nat × Operand)} {vs : List (Nat × Value)} {cells : List Value} {a : Act} {w : World}
    (ha : Fr n ds fs a) (ho : o.op = .buildSlice t k ps.toArray) (hx : evps fs ps = some vs) (hk : 0 < k * sz ∧ k * sz ≤ 1000) (hf : fillS sz (zeros (k * sz) zc) vs = some cells) :
    (execOp a.eval o).run P w = .ok (.value (.slice (some ⟨w.heap.size, 0, none⟩) k k)) (w.alloc (.cells cells.toArray e)) := by
  have e1 := evps_eval ha ps vs hx
  have e3 : ((ps.toArray.map fun (i, x) => (i, a.eval x)) : Array (Nat × Value)) = vs.toArray := by
    rw [← e1]; simp
  have e2 := fillS_of vs _ cells hf
  have e4 : ((Array.range (k * sz)).map (fun j => zc.toArray[j % zc.toArray.size]!)) = (zeros (k * sz) zc).toArray := by
    rw [← List.toArray_range, List.map_toArray]
    simp [zeros]
  have h1 : ¬ (k * sz > 2 ^ 24) := by omega
  have h2 : ¬ (k * sz = 0) := by omega
  simp only [execOp, ho, e3]
  simp only [Instr.buildSlice, Sem.run_bind, ht.run, Result.andThen, he.size, if_neg h1, if_neg h2, hz.zv, hz.zc, Sem.run_pure, e4, e2, newRow]
  simp
theorem G_lit {t e : TypeId} {td : TypeDesc} {sz sz' : Nat} {ag ag' : Bool} [ht : Ty P t (.slice e) sz' ag'] [he : Ty P e td sz ag] {z : Value} {zc : List Value} [hz : Zero P e z zc.toArray] {k d : Nat} {ps : List (Nat × Operand)} {vs : List (Nat × Value)} {cells : List Value} {Q : Exit → Act → World → Prop} {rest : List Oper}
    (ho : o.op = .buildSlice t k ps.toArray) (hx : evps fs ps = some vs) (hk : 0 < k * sz ∧ k * sz ≤ 1000) (hf : fillS sz (zeros (k * sz) zc) vs = some cells) (hd : o.dst = some d) (hn : Nat.blt d n = true) (hg : Goes ops fs o)
    (h : ∀ b, G n ds ((d, .slice (some ⟨b, 0, none⟩) k k) :: fs) E (.blk b (.cells cells.toArray e (0, 0)) :: L) (wpListIn (Wd ro) 0 P ops Q rest)) : G n ds fs E L (wpListIn (Wd ro) 0 P ops Q (o :: rest)) :=
  G_any hg (by rw [ho]; intro c h; cases h) fun a w ha hw => by
    rw [run_lit ha ho hx hk hf]
    simp only [Oper.uponIn_value, hd]
    exact h w.heap.size _ _ (ha.put hn _) (hw.alloc _)

/-- A block that is known whole is shut for good. -/
noncomputable def Env.blk (E : Env) (b : Nat) (o : Obj) : Env := ⟨fun c => if c = b then some o else E.heap c, E.os, E.output, E.tape⟩
theorem Env.blk_le {E : Env} {b : Nat} {o : Obj} (h : E.heap b = none) : E.Le (E.blk b o) := ⟨fun c o' hc => by
  simp only [Env.blk]
  split
  · rename_i e; subst e; rw [h] at hc; cases hc
  · exact hc, rfl, rfl, rfl⟩
theorem St.shut {b : Nat} {o : Obj} {w : World} (hE : E.heap b = none) : St E (.blk b o :: L) w ↔ St (E.blk b o) L w := by
  constructor
  · intro h
    have hn := h.nodup
    simp only [List.flatMap_cons, Res.blk, List.singleton_append, List.nodup_cons] at hn
    refine ⟨fun c o' hc => ?_, fun r hr => h.own r (.tail _ hr), hn.2, fun c hc => ?_, h.os, h.out, h.tape⟩
    · simp only [Env.blk] at hc
      split at hc
      · rename_i e; subst e; cases hc; exact h.own _ (.head _)
      · exact h.env c o' hc
    · have := h.apart c (by simp only [List.flatMap_cons]; exact List.mem_append.2 (.inr hc))
      refine ⟨?_, this.2⟩
      simp only [Env.blk]
      rw [if_neg (fun e => by subst e; exact hn.1 hc)]
      exact this.1
  · intro h
    have hb : w.heap[b]? = some o := h.env b o (by simp [Env.blk])
    have hnb : b ∉ L.flatMap Res.ids := fun hm => by
      have := (h.apart b hm).1
      simp [Env.blk] at this
    refine ⟨fun c o' hc => h.env c o' ((Env.blk_le hE).1 c o' hc), fun r hr => ?_, ?_, fun c hc => ?_, h.os, h.out, h.tape⟩
    · rcases List.mem_cons.1 hr with rfl | hr
      · exact hb
      · exact h.own r hr
    · simp only [List.flatMap_cons, Res.blk, List.singleton_append, List.nodup_cons]
      exact ⟨hnb, h.nodup⟩
    · simp only [List.flatMap_cons, Res.blk, List.singleton_append, List.mem_cons] at hc
      rcases hc with rfl | hc
      · exact ⟨hE, (Array.getElem?_eq_some_iff.1 hb).1⟩
      · have := h.apart c hc
        refine ⟨?_, this.2⟩
        cases e : E.heap c with
        | none => rfl
        | some o' => rw [(Env.blk_le hE).1 c o' e] at this; cases this.1
theorem Fam.shut {b : Nat} {o : Obj} (hE : E.heap b = none) : Fam.st E (.blk b o :: L) = Fam.st (E.blk b o) L :=
  Fam.ext fun M w => ⟨fun h => (St.shut hE).1 (St.perm h List.perm_middle), fun h => St.perm ((St.shut hE).2 h) List.perm_middle.symm⟩
/-- A slice written out, shut at once. -/
theorem F_litZ {t e : TypeId} {td : TypeDesc} {sz sz' : Nat} {ag ag' : Bool} [ht : Ty P t (.slice e) sz' ag'] [he : Ty P e td sz ag] {z : Value} {zc : List Value} [hz : Zero P e z zc.toArray] {k d : Nat} {ps : List (Nat × Operand)} {vs : List (Nat × Value)} {cells : List Value}
    (h0 : ops[i]? = some o) (ho : o.op = .buildSlice t k ps.toArray) (hx : evps fs ps = some vs) (hk : 0 < k * sz ∧ k * sz ≤ 1000) (hf : fillS sz (zeros (k * sz) zc) vs = some cells) (hl : cells.length = k * sz) (hd : o.dst = some d) (hn : Nat.blt d n = true) (hg : Goes ops fs o)
    (h : ∀ b E', E.Le E' → SlE E' sz (some ⟨b, 0, none⟩) k cells → GF n ds ((d, .slice (some ⟨b, 0, none⟩) k k) :: fs) E' L (wpF P ops T J π)) : GF n ds fs E L (wpF P ops T J ((i, 2) :: π)) :=
  F_mk (val := fun b => .slice (some ⟨b, 0, none⟩) k k) h0 (fun a ha w => run_lit ha ho hx hk hf) hd hn hg fun b hb => by
    have := h b (E.blk b (.cells cells.toArray e)) (Env.blk_le hb) (SlE.lit (T := e) (fz := (0, 0)) (by show (E.blk b (.cells cells.toArray e)).heap b = some _; simp [Env.blk]) hl)
    unfold GF at this ⊢
    rw [Fam.shut hb]
    exact this
/-- A slice written out, shut at once, in a region that does not draw. -/
theorem G_litZ {t e : TypeId} {td : TypeDesc} {sz sz' : Nat} {ag ag' : Bool} [ht : Ty P t (.slice e) sz' ag'] [he : Ty P e td sz ag] {z : Value} {zc : List Value} [hz : Zero P e z zc.toArray] {k d : Nat} {ps : List (Nat × Operand)} {vs : List (Nat × Value)} {cells : List Value} {Q : Exit → Act → World → Prop} {rest : List Oper}
    (ho : o.op = .buildSlice t k ps.toArray) (hx : evps fs ps = some vs) (hk : 0 < k * sz ∧ k * sz ≤ 1000) (hf : fillS sz (zeros (k * sz) zc) vs = some cells) (hl : cells.length = k * sz) (hd : o.dst = some d) (hn : Nat.blt d n = true) (hg : Goes ops fs o)
    (h : ∀ b E', E.Le E' → SlE E' sz (some ⟨b, 0, none⟩) k cells → G n ds ((d, .slice (some ⟨b, 0, none⟩) k k) :: fs) E' L (wpListIn (Wd ro) 0 P ops Q rest)) : G n ds fs E L (wpListIn (Wd ro) 0 P ops Q (o :: rest)) :=
  G_lit ho hx hk hf hd hn hg fun b => G.freeze (.head _ _) fun E' hE hok => h b E' hE (SlE.lit hok hl)

/-! Calls -/
theorem F_callv {k : FuncId} [Ent P k] {args : Array Value} {d : Nat} {r : Value} (h0 : ops[i]? = some o) (ht : Goesto fs o k args) (hd : o.dst = some d) (hn : Nat.blt d n = true) (hg : Goes ops fs o)
    (hc : ∀ L, CallV P k args E L r) (h : GF n ds ((d, r) :: fs) E L (wpF P ops T J π)) : GF n ds fs E L (wpF P ops T J ((i, 3) :: π)) := fun a ha =>
  ⟨o, h0, by
    rw [if_pos (hg.wanted ha)]
    exact fun M w hw => by
      unfold Steps
      rw [ht.run ha]
      exact (hc (M ++ L) w hw).mono fun e w' ⟨he, hs⟩ => ⟨r, he, Fam.st E L, fun _ h => h, hs, by rw [hd]; exact h _ (ha.put hn r)⟩⟩
/-- A call that leaves what is owned as it is. -/
theorem F_call {k : FuncId} [Ent P k] {args : Array Value} {d : Nat} {Post : List Res → Value → Env → List Res → Prop} (h0 : ops[i]? = some o) (ht : Goesto fs o k args) (hd : o.dst = some d) (hn : Nat.blt d n = true) (hg : Goes ops fs o)
    (hc : ∀ L, CallS P k args E L (Post L)) (hf : ∀ L0 r E' L', Post L0 r E' L' → L' = L0 ∧ Post L r E' L)
    (h : ∀ r E', E.Le E' → Post L r E' L → GF n ds ((d, r) :: fs) E' L (wpF P ops T J π)) : GF n ds fs E L (wpF P ops T J ((i, 3) :: π)) := fun a ha =>
  ⟨o, h0, by
    rw [if_pos (hg.wanted ha)]
    intro M w hw
    unfold Steps
    rw [ht.run ha]
    refine (hc (M ++ L) w hw).mono ?_
    rintro e w' ⟨r, E', L', rfl, hE, hs, hp⟩
    obtain ⟨rfl, hp'⟩ := hf _ _ _ _ hp
    exact ⟨r, rfl, Fam.st E' L, fun w ⟨M, h⟩ => ⟨M, St.weaken h hE⟩, hs, by rw [hd]; exact h r E' hE hp' _ (ha.put hn r)⟩⟩

/-! Tests -/
theorem GF.bool {X : Act → Fam → Prop} (i : Nat) {b : Bool} (hi : look fs i = some (.bool b)) (ht : b = true → GF n ds ((i, .bool true) :: fs) E L X) (hf : b = false → GF n ds ((i, .bool false) :: fs) E L X) : GF n ds fs E L X := by
  have key : ∀ a : Act, Fr n ds fs a → Fr n ds ((i, .bool b) :: fs) a := fun a h => ⟨h.size, h.defers, fun j v hj => by
    simp only [Ytaoinojdijbhaaa.look] at hj
    by_cases e : i = j
    · subst e; simp at hj; subst hj; exact h.get _ _ hi
    · rw [beq_ne e] at hj
      exact h.get j v hj⟩
  intro a ha
  cases b with
  | true => exact ht rfl a (key a ha)
  | false => exact hf rfl a (key a ha)
theorem GF.bool_t {X : Act → Fam → Prop} (i : Nat) {b : Bool} (hi : look fs i = some (.bool b)) (hb : b = true) (h : GF n ds ((i, .bool true) :: fs) E L X) : GF n ds fs E L X := GF.bool i hi (fun _ => h) (fun e => by rw [hb] at e; cases e)
theorem GF.bool_f {X : Act → Fam → Prop} (i : Nat) {b : Bool} (hi : look fs i = some (.bool b)) (hb : b = false) (h : GF n ds ((i, .bool false) :: fs) E L X) : GF n ds fs E L X := GF.bool i hi (fun e => by rw [hb] at e; cases e) (fun _ => h)

/-- What is known where two ways meet: more may be shut, and more owned. -/
def JT (n : Nat) (ds : List Deferred) (fs : List (Nat × Value)) (E : Env) (L : List Res) : Act → Fam → Prop := fun a Φ => ∃ E' N, E.Le E' ∧ Fr n ds fs a ∧ Φ = Fam.st E' (L ++ N)
theorem JT_end {fs1 : List (Nat × Value)} {d c : Nat} {v : Value} {E1 : Env} {L1 : List Res} (k : Nat) (hfs : fs1.drop k = fs) (hd : look fs1 d = some v) (hf : ((fs1.take k).all fun p => Nat.beq p.1 d || (look fs p.1).isNone) = true) (hE : E.Le E1) (hL : L1.drop c = L) :
    GF n ds fs1 E1 L1 (wpF P ops (JT n ds ((d, v) :: fs) E L) J []) := fun a ha =>
  ⟨E1, L1.take c, hE, ⟨ha.size, ha.defers, fun i u hu => ha.get i u (look_end k hfs hd hf i u hu)⟩, Fam.st_perm (by subst hL; have := List.take_append_drop c L1; exact (List.Perm.of_eq this.symm).trans List.perm_append_comm)⟩
theorem F_join (k i d : Nat) {b : Bool} {vt vf : Value} (hi : look fs i = some (.bool b))
    (ht : b = true → GF n ds ((i, .bool true) :: fs) E L (wpF P ops (JT n ds ((d, vt) :: (i, .bool true) :: fs) E L) J (π.take k)))
    (hf : b = false → GF n ds ((i, .bool false) :: fs) E L (wpF P ops (JT n ds ((d, vf) :: (i, .bool false) :: fs) E L) J (π.take k)))
    (h : ∀ E' N, E.Le E' → GF n ds ((d, bif b then vt else vf) :: fs) E' (L ++ N) (wpF P ops T (JL []) (π.drop k))) (hk : ((π.drop k).all fun p => Nat.ble p.2 3) = true) : GF n ds fs E L (wpF P ops T J π) := by
  refine GF.bool i hi (fun e => ?_) (fun e => ?_)
  · intro a ha
    have := wpF_app (T := T) (J0 := JL []) (π.drop k) hk (π.take k) J a _ (wpF_mono (fun a' Φ' hh => by
      obtain ⟨E', N, h1, h2, rfl⟩ := hh
      have := h E' N h1 a' (by have := h2.unlit hi e; rw [e]; exact this)
      exact this) _ _ _ _ (ht e a ha))
    rwa [List.take_append_drop] at this
  · intro a ha
    have := wpF_app (T := T) (J0 := JL []) (π.drop k) hk (π.take k) J a _ (wpF_mono (fun a' Φ' hh => by
      obtain ⟨E', N, h1, h2, rfl⟩ := hh
      have := h E' N h1 a' (by have := h2.unlit hi e; rw [e]; exact this)
      exact this) _ _ _ _ (hf e a ha))
    rwa [List.take_append_drop] at this
theorem F_joinAnd (k i d : Nat) {b y : Bool} (hi : look fs i = some (.bool b))
    (ht : b = true → GF n ds ((i, .bool true) :: fs) E L (wpF P ops (JT n ds ((d, .bool y) :: (i, .bool true) :: fs) E L) J (π.take k)))
    (hf : b = false → GF n ds ((i, .bool false) :: fs) E L (wpF P ops (JT n ds ((d, .bool false) :: (i, .bool false) :: fs) E L) J (π.take k)))
    (h : ∀ E' N, E.Le E' → GF n ds ((d, .bool (b && y)) :: fs) E' (L ++ N) (wpF P ops T (JL []) (π.drop k))) (hk : ((π.drop k).all fun p => Nat.ble p.2 3) = true) : GF n ds fs E L (wpF P ops T J π) :=
  F_join k i d hi ht hf (by cases b <;> exact h) hk
theorem F_joinOr (k i d : Nat) {b y : Bool} (hi : look fs i = some (.bool b))
    (ht : b = true → GF n ds ((i, .bool true) :: fs) E L (wpF P ops (JT n ds ((d, .bool true) :: (i, .bool true) :: fs) E L) J (π.take k)))
    (hf : b = false → GF n ds ((i, .bool false) :: fs) E L (wpF P ops (JT n ds ((d, .bool y) :: (i, .bool false) :: fs) E L) J (π.take k)))
    (h : ∀ E' N, E.Le E' → GF n ds ((d, .bool (b || y)) :: fs) E' (L ++ N) (wpF P ops T (JL []) (π.drop k))) (hk : ((π.drop k).all fun p => Nat.ble p.2 3) = true) : GF n ds fs E L (wpF P ops T J π) :=
  F_join k i d hi ht hf (by cases b <;> exact h) hk

/-! The same where nothing is drawn: what hangs on the test may call. -/
def JE (n : Nat) (ds : List Deferred) (fs : List (Nat × Value)) (E : Env) (L : List Res) : Exit → Act → World → Prop := fun e a w => e = .normal ∧ ∃ E', E.Le E' ∧ Fr n ds fs a ∧ St E' L w
theorem JE_end {fs1 : List (Nat × Value)} {d c : Nat} {v : Value} {E1 : Env} {L1 : List Res} (k : Nat) (hfs : fs1.drop k = fs) (hd : look fs1 d = some v) (hf : ((fs1.take k).all fun p => Nat.beq p.1 d || (look fs p.1).isNone) = true) (hE : E.Le E1) (hL : L1.drop c = L) :
    G n ds fs1 E1 L1 (fun a w => JE n ds ((d, v) :: fs) E L .normal a w) := fun a w ha hw =>
  ⟨rfl, E1, hE, ⟨ha.size, ha.defers, fun i u hu => ha.get i u (look_end k hfs hd hf i u hu)⟩, by subst hL; exact hw.dropK c⟩
theorem G_joinE {l : List Oper} {Q : Exit → Act → World → Prop} (k i d : Nat) {b : Bool} {vt vf : Value} (hi : look fs i = some (.bool b))
    (ht : b = true → G n ds ((i, .bool true) :: fs) E L (wpListIn (Wd ro) 0 P ops (JE n ds ((d, vt) :: (i, .bool true) :: fs) E L) (l.take k)))
    (hf : b = false → G n ds ((i, .bool false) :: fs) E L (wpListIn (Wd ro) 0 P ops (JE n ds ((d, vf) :: (i, .bool false) :: fs) E L) (l.take k)))
    (h : ∀ E', E.Le E' → G n ds ((d, bif b then vt else vf) :: fs) E' L (wpListIn (Wd ro) 0 P ops Q (l.drop k))) : G n ds fs E L (wpListIn (Wd ro) 0 P ops Q l) := by
  refine G.bool i hi (fun e => ?_) (fun e => ?_)
  · intro a w ha hw
    have := wpListIn_app (Q := Q) (l.drop k) (fun e a w hne hq => hne hq.1) (fun a w ⟨_, E', h1, h2, h3⟩ => h E' h1 a w (by have := h2.unlit hi e; rw [e]; exact this) h3) (l.take k) a w (ht e a w ha hw)
    rwa [List.take_append_drop] at this
  · intro a w ha hw
    have := wpListIn_app (Q := Q) (l.drop k) (fun e a w hne hq => hne hq.1) (fun a w ⟨_, E', h1, h2, h3⟩ => h E' h1 a w (by have := h2.unlit hi e; rw [e]; exact this) h3) (l.take k) a w (hf e a w ha hw)
    rwa [List.take_append_drop] at this
theorem G_joinEAnd {l : List Oper} {Q : Exit → Act → World → Prop} (k i d : Nat) {b y : Bool} (hi : look fs i = some (.bool b))
    (ht : b = true → G n ds ((i, .bool true) :: fs) E L (wpListIn (Wd ro) 0 P ops (JE n ds ((d, .bool y) :: (i, .bool true) :: fs) E L) (l.take k)))
    (hf : b = false → G n ds ((i, .bool false) :: fs) E L (wpListIn (Wd ro) 0 P ops (JE n ds ((d, .bool false) :: (i, .bool false) :: fs) E L) (l.take k)))
    (h : ∀ E', E.Le E' → G n ds ((d, .bool (b && y)) :: fs) E' L (wpListIn (Wd ro) 0 P ops Q (l.drop k))) : G n ds fs E L (wpListIn (Wd ro) 0 P ops Q l) :=
  G_joinE k i d hi ht hf (by cases b <;> exact h)
theorem G_joinEOr {l : List Oper} {Q : Exit → Act → World → Prop} (k i d : Nat) {b y : Bool} (hi : look fs i = some (.bool b))
    (ht : b = true → G n ds ((i, .bool true) :: fs) E L (wpListIn (Wd ro) 0 P ops (JE n ds ((d, .bool true) :: (i, .bool true) :: fs) E L) (l.take k)))
    (hf : b = false → G n ds ((i, .bool false) :: fs) E L (wpListIn (Wd ro) 0 P ops (JE n ds ((d, .bool y) :: (i, .bool false) :: fs) E L) (l.take k)))
    (h : ∀ E', E.Le E' → G n ds ((d, .bool (b || y)) :: fs) E' L (wpListIn (Wd ro) 0 P ops Q (l.drop k))) : G n ds fs E L (wpListIn (Wd ro) 0 P ops Q l) :=
  G_joinE k i d hi ht hf (by cases b <;> exact h)
end rules
end Go.Proofs.Ytaoinojdijbhaaa
