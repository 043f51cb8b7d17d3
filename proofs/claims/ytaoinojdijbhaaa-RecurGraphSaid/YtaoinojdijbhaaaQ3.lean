/-
  Rules and contracts, packed: Sep16, Sep17, Sep19, Sep20, Sep21, Sep22, Sep23, Sep24.
-/
import Derived.Laws.Cover3
import Derived.Maps.RangeRun
import Derived.Laws.MakeOwn
import Derived.Laws.RangeAny
import Derived.Test.YtaoinojdijbhaaaQ2
set_option maxHeartbeats 1000000
set_option linter.unusedSimpArgs false
set_option linter.unusedVariables false
namespace Go.Proofs.Ytaoinojdijbhaaa
open Go.RowKit

/-- X holds in every frame of which this is known, of the memory of which this is known. -/
def GF (n : Nat) (ds : List Deferred) (fs : List (Nat × Value)) (E : Env) (L : List Res) (X : Act → Fam → Prop) : Prop := ∀ a, Fr n ds fs a → X a (Fam.st E L)

/-- What the loads of a region rest on. -/
def JL (js : List (Env × List Res)) : World → Prop := fun w => ∀ p, p ∈ js → ∃ M, St p.1 (M ++ p.2) w
theorem JL_cons {E : Env} {l : List Res} {js : List (Env × List Res)} : (fun w => JL js w ∧ ∃ M, St E (M ++ l) w) = JL ((E, l) :: js) := by
  funext w
  refine propext ⟨fun h p hp => ?_, fun h => ⟨fun p hp => h p (.tail _ hp), h _ (.head _)⟩⟩
  rcases List.mem_cons.1 hp with rfl | hp
  · exact h.2
  · exact h.1 p hp
def Jok (js : List (Env × List Res)) (E : Env) (L : List Res) : Prop := ∀ w, Fam.J (Fam.st E L) w → JL js w
theorem Jok.nil {E : Env} {L : List Res} : Jok [] E L := fun _ _ p hp => by cases hp
theorem mem_st {E : Env} {L M : List Res} {r : Res} {w : World} (hr : r ∈ L) (h : St E (M ++ L) w) : ∃ M, St E (M ++ [r]) w := by
  obtain ⟨s, t, rfl⟩ := List.append_of_mem hr
  refine ⟨M ++ (s ++ t), h.perm ?_⟩
  have : (M ++ (s ++ r :: t)).Perm (M ++ (r :: (s ++ t))) := List.Perm.append_left _ List.perm_middle
  refine this.trans ?_
  have h2 : (M ++ r :: (s ++ t)).Perm (r :: (M ++ (s ++ t))) := List.perm_middle
  exact h2.trans (List.perm_append_comm (l₁ := [r]) (l₂ := M ++ (s ++ t)))
theorem Jok.cons {E E1 : Env} {L : List Res} {r : Res} {js : List (Env × List Res)} (hE : E1.Le E) (hr : r ∈ L) (h : Jok js E L) : Jok ((E1, [r]) :: js) E L := fun w hw p hp => by
  rcases List.mem_cons.1 hp with rfl | hp
  · obtain ⟨M, hM⟩ := hw
    obtain ⟨M', h'⟩ := mem_st hr hM
    exact ⟨M', h'.weaken hE⟩
  · exact h w hw p hp
theorem Jok.consE {E E1 : Env} {L : List Res} {js : List (Env × List Res)} (hE : E1.Le E) (h : Jok js E L) : Jok ((E1, []) :: js) E L := fun w hw p hp => by
  rcases List.mem_cons.1 hp with rfl | hp
  · obtain ⟨M, hM⟩ := hw
    refine ⟨M, ?_⟩
    have := St.weaken (St.dropAll (M := M) hM) hE
    have h0 := St.perm hM List.perm_append_comm
    simpa using (St.dropAll (M := L) h0).weaken hE
  · exact h w hw p hp

def nodupB : List Nat → Bool
  | [] => true
  | x :: l => !l.contains x && nodupB l
theorem nodupB_spec : ∀ l, nodupB l = true → l.Nodup := by
  intro l
  induction l with
  | nil => intro _; exact List.nodup_nil
  | cons x l ih =>
    intro h
    simp only [nodupB, Bool.and_eq_true, Bool.not_eq_true', List.contains_eq_mem, decide_eq_false_iff_not] at h
    exact List.nodup_cons.2 ⟨h.1, ih h.2⟩
def drawB (l : List Oper) (m : Nat) (π : List (Nat × Nat)) : Bool :=
  Region.noSelect l.toArray && noDefer l && ((decide (m < l.length) && Region.sinkB .any l.toArray m && Region.chainB .any l.toArray m) || decide (m = l.length)) &&
  decide (π.length = m) && nodupB (π.map Prod.fst) && ((List.range m).all fun i => (π.map Prod.fst).contains i) && walkB l.toArray (l.length - m) m π (Array.replicate l.length false)

section draw
variable {P : Program} {ro : Option Nat} {n : Nat} {ds : List Deferred} {fs : List (Nat × Value)} {E : Env} {L L' : List Res} {Q : Exit → Act → World → Prop}

theorem G_drawX {id : Nat} {l : List Oper} (m : Nat) (π : List (Nat × Nat)) (hm : P.follows .mixedOrders = true) (hB : drawB l m π = true)
    (h : GF n ds fs E L (wpF P l.toArray (fun a Φ => ∀ M w, Φ.ok M w → wpListIn (Wd ro) 0 P l.toArray Q (l.drop m) a w) (JL []) π)) : G n ds fs E L ((Code.region id l.toArray true).wpIn (Wd ro) 0 P Q) := by
  intro a w ha hw
  simp only [drawB, Bool.and_eq_true, Bool.or_eq_true, decide_eq_true_eq, List.all_eq_true] at hB
  obtain ⟨⟨⟨⟨⟨⟨hsel, hnd⟩, hmm⟩, hlen⟩, hnodup⟩, hall⟩, hwalk⟩ := hB
  have hnd' : ∀ (i : Nat) (o : Oper) c, l.toArray[i]? = some o → o.op ≠ .defer c := by
    intro i o c ho hc'
    have hmem : o ∈ l := List.mem_of_getElem? (by simpa using ho)
    have := (List.all_eq_true.1 hnd) o hmem
    rw [hc'] at this; cases this
  have hml : m ≤ l.length := by rcases hmm with ⟨⟨h1, _⟩, _⟩ | h1 <;> omega
  have inv0 : HeadInv .any l.toArray m (Array.replicate l.length false) :=
    ⟨by simp, fun j oj _ hl => (by rw [getD_replicate_false] at hl; cases hl), fun t _ ht => getD_in (by simpa using ht) (getD_replicate_false _ _)⟩
  have hjm : ∀ listed, HeadInv .any l.toArray m listed → Jm l.toArray m listed := by
    intro listed inv i him hun t ht hr
    rcases hmm with ⟨⟨h1, hs⟩, hc⟩ | h1
    · exact tail_waits hs hc (by simpa using h1) inv (m - i) i rfl him hun t ht hr
    · obtain ⟨_, o, ho, _⟩ := mem_ready.1 hr
      have := (Array.getElem?_eq_some_iff.1 ho).1
      simp at this
      omega
  refine wpIn_region_any hm ?_
  have key := orders (P := P) (T := fun a Φ => ∀ M w, Φ.ok M w → wpListIn (Wd ro) 0 P l.toArray Q (l.drop m) a w)
    (TT := fun listed a w => Region.seqB .any l.toArray (l.length - m) m listed = true ∧ wpListIn (Wd ro) 0 P l.toArray Q (l.drop m) a w) (Region.noSelect_spec hsel) hjm
    (fun listed a w hT => seqB_ready hT.1) (fun listed a Φ M w h1 h2 h3 => ⟨h1, h2 M w h3⟩) π (JL []) m a (Fam.st E L) [] [] { w with drawn := w.drawn + 1 } (Array.replicate l.length false) (Array.replicate l.length false) a
    (by simpa using hlen.symm) (fun w hw p hp => by cases hp) (h a ha)
    ⟨hwalk, inv0, fun i h => h, by simp, fun i him => ⟨fun _ => ⟨by
        obtain ⟨p, hp, he⟩ := List.mem_map.1 (List.contains_iff_mem.1 (hall i (List.mem_range.2 him)))
        exact ⟨p.2, by rw [← he]; exact hp⟩, by simp⟩, fun _ => getD_in (by simp; omega) (getD_replicate_false _ _)⟩, nodupB_spec _ hnodup, by simp, by simp,
      fun i him => ⟨fun _ => by
        obtain ⟨p, hp, he⟩ := List.mem_map.1 (List.contains_iff_mem.1 (hall i (List.mem_range.2 him)))
        exact ⟨p.2, by rw [← he]; exact hp⟩, fun _ => getD_in (by simp; omega) (getD_replicate_false _ _)⟩, fun t _ ht => getD_in (by simpa using ht) (getD_replicate_false _ _)⟩
    ⟨rfl, rfl, fun _ _ => rfl, fun e he => by cases he⟩ (fun e he => by cases he) (show St E ([] ++ L) _ from hw.drew (w.drawn + 1))
  have := WJ.wp (ro := ro) (Q' := Q) (g := l.length - m) hnd' (fun listed a' w' hT => by
    have := seqIn (ro := ro) (P := P) (Q' := Q) (l.drop m) m listed a' w' (fun j => by simp) (by simpa using hT.1) hT.2
    simpa using this) _ _ _ _ key
  rw [show m + (l.length - m) = l.toArray.size by simp; omega] at this
  simpa using this
end draw

section rules
variable {P : Program} {ro : Option Nat} {n : Nat} {ds : List Deferred} {fs : List (Nat × Value)} {E : Env} {L L' : List Res} {ops : Array Oper} {T : Act → Fam → Prop} {π : List (Nat × Nat)} {i : Nat} {o : Oper} {J : World → Prop} {js : List (Env × List Res)}

theorem F_end {X : Act → World → Prop} (s : Sel L L') (h : G n ds fs E L' X) : GF n ds fs E L (wpF P ops (fun a Φ => ∀ M w, Φ.ok M w → X a w) J []) := fun a ha M w hw => h a w ha (s.st w (St.dropAll hw))

theorem F_pure {d : Nat} {v : Value} (h0 : ops[i]? = some o) (hv : ∀ E L, Val P o fs E L v) (hd : o.dst = some d) (hn : Nat.blt d n = true) (hg : Goes ops fs o)
    (h : GF n ds ((d, v) :: fs) E L (wpF P ops T J π)) : GF n ds fs E L (wpF P ops T J ((i, 0) :: π)) := fun a ha =>
  ⟨o, h0, by rw [if_pos (hg.wanted ha)]; exact ⟨v, fun w => (hv (Env.of w) []).2 n ds a w ha (St.start w), by rw [hd]; exact h _ (ha.put hn v)⟩⟩
theorem F_load {d : Nat} {v : Value} {r : Res} (h0 : ops[i]? = some o) (hr : r ∈ L) (hv : Val P o fs E [r] v) (hd : o.dst = some d) (hn : Nat.blt d n = true) (hg : Goes ops fs o)
    (h : GF n ds ((d, v) :: fs) E L (wpF P ops T (JL ((E, [r]) :: js)) π)) : GF n ds fs E L (wpF P ops T (JL js) ((i, 1) :: π)) := fun a ha =>
  ⟨o, h0, by
    rw [if_pos (hg.wanted ha)]
    refine ⟨v, fun w => ∃ M, St E (M ++ [r]) w, fun w ⟨M, hw⟩ => hv.2 n ds a w ha (St.dropAll hw), fun w ⟨M, hw⟩ => mem_st hr hw, ?_⟩
    rw [hd, JL_cons]; exact h _ (ha.put hn v)⟩
theorem F_loadE {d : Nat} {v : Value} (h0 : ops[i]? = some o) (hv : Val P o fs E [] v) (hd : o.dst = some d) (hn : Nat.blt d n = true) (hg : Goes ops fs o)
    (h : GF n ds ((d, v) :: fs) E L (wpF P ops T (JL ((E, []) :: js)) π)) : GF n ds fs E L (wpF P ops T (JL js) ((i, 1) :: π)) := fun a ha =>
  ⟨o, h0, by
    rw [if_pos (hg.wanted ha)]
    refine ⟨v, fun w => ∃ M, St E (M ++ []) w, fun w ⟨M, hw⟩ => hv.2 n ds a w ha (St.dropAll hw), fun w ⟨M, hw⟩ => ⟨M, by
      have h0 := St.perm hw List.perm_append_comm
      simpa using St.dropAll (M := L) h0⟩, ?_⟩
    rw [hd, JL_cons]; exact h _ (ha.put hn v)⟩
theorem F_storeAll {t : TypeId} {x y : Operand} {b off : Nat} {v : Value} {vs : List Value} {d : TypeDesc} {ag : Bool} {TT : TypeId} {cs cs' : Array Value} {sz : Nat} [ht : Ty P t d sz ag]
    (h0 : ops[i]? = some o) (ho : o.op = .store t x y) (hx : ev fs x = some (.pointer (some ⟨b, off, none⟩))) (hy : ev fs y = some v) (hc : v.cells = vs.toArray) (hs : vs.length = sz) (hone : ∀ v, v ∈ vs → v.oneCell' = true)
    (hd : o.dst = none) (hg : Goes ops fs o) (u : Upd L (.blk b (.cells cs TT (0, 0))) (.blk b (.cells cs' TT (0, 0))) L') (hl : off + vs.length ≤ cs.size) (hcs : putAll cs off vs = cs') (hj : Jok js E L')
    (h : GF n ds fs E L' (wpF P ops T (JL js) π)) : GF n ds fs E L (wpF P ops T (JL js) ((i, 4) :: π)) := fun a ha =>
  ⟨o, h0, by
    rw [if_pos (hg.wanted ha)]
    refine ⟨Fam.st E L', fun M w hw => ⟨w.putObj b (.cells cs' TT (0, 0)), ?_, St.put hw (u.app M)⟩, hj, ?_⟩
    · have hb : w.heap[b]? = some (.cells cs TT (0, 0)) := St.own hw _ (u.app M).mem
      have := run_storeCells (P := P) (b := b) (off := off) (T := TT) vs cs 0 w hb (by simpa using hl) hone
      simp only [Nat.add_zero, hcs] at this
      simp [execOp, ho, ha.eval hx, ha.eval hy, Instr.storeAt, Instr.sureAddr, storeVar, ht.size, Result.andThen, hc, hs, this]
    · rw [hd]; exact h _ ha⟩
theorem F_store1 {t : TypeId} {x y : Operand} {b : Nat} {v u : Value} {d : TypeDesc} {TT : TypeId} {ag : Bool} [ht : Ty P t d 1 ag]
    (h0 : ops[i]? = some o) (ho : o.op = .store t x y) (hx : ev fs x = some (.pointer (some ⟨b, 0, none⟩))) (hy : ev fs y = some v) (hc : v.cells = #[v]) (hone : v.oneCell' = true)
    (hd : o.dst = none) (hg : Goes ops fs o) (hu : Upd L (.blk b (.cells #[u] TT (0, 0))) (.blk b (.cells #[v] TT (0, 0))) L') (hj : Jok js E L')
    (h : GF n ds fs E L' (wpF P ops T (JL js) π)) : GF n ds fs E L (wpF P ops T (JL js) ((i, 4) :: π)) :=
  F_storeAll (vs := [v]) h0 ho hx hy hc rfl (by simpa using hone) hd hg hu (by simp) (by simp [putAll]) hj h
theorem F_storeAt {t : TypeId} {x y : Operand} {b off : Nat} {v : Value} {d : TypeDesc} {TT : TypeId} {cs cs' : Array Value} {ag : Bool} [ht : Ty P t d 1 ag]
    (h0 : ops[i]? = some o) (ho : o.op = .store t x y) (hx : ev fs x = some (.pointer (some ⟨b, off, none⟩))) (hy : ev fs y = some v) (hc : v.cells = #[v]) (hone : v.oneCell' = true)
    (hd : o.dst = none) (hg : Goes ops fs o) (hu : Upd L (.blk b (.cells cs TT (0, 0))) (.blk b (.cells cs' TT (0, 0))) L') (hl : off < cs.size) (hcs : cs.setIfInBounds off v = cs') (hj : Jok js E L')
    (h : GF n ds fs E L' (wpF P ops T (JL js) π)) : GF n ds fs E L (wpF P ops T (JL js) ((i, 4) :: π)) :=
  F_storeAll (vs := [v]) h0 ho hx hy hc rfl (by simpa using hone) hd hg hu (by simpa using Nat.succ_le_of_lt hl) (by simp [putAll, hcs]) hj h
theorem F_storeF {t : TypeId} {x y : Operand} {b off : Nat} {vs : List Value} {d : TypeDesc} {ag : Bool} {TT : TypeId} {cs cs' : Array Value} {sz : Nat} [ht : Ty P t d sz ag]
    (h0 : ops[i]? = some o) (ho : o.op = .store t x y) (hx : ev fs x = some (.pointer (some ⟨b, off, none⟩))) (hy : ev fs y = some (.agg vs.toArray)) (hs : vs.length = sz) (hone : ∀ v, v ∈ vs → v.oneCell' = true)
    (hd : o.dst = none) (hg : Goes ops fs o) (u : Upd L (.blk b (.cells cs TT (0, 0))) (.blk b (.cells cs' TT (0, 0))) L') (hl : off + vs.length ≤ cs.size) (hcs : putAll cs off vs = cs') (hj : Jok js E L')
    (h : GF n ds fs E L' (wpF P ops T (JL js) π)) : GF n ds fs E L (wpF P ops T (JL js) ((i, 4) :: π)) :=
  F_storeAll h0 ho hx hy rfl hs hone hd hg u hl hcs hj h
theorem F_stay {d k : Nat} (h0 : ops[i]? = some o) (hs : Stays ops fs o) (hd : o.dst = some d) (hn : Nat.blt d n = true) (h : GF n ds ((d, undef) :: fs) E L (wpF P ops T J π)) : GF n ds fs E L (wpF P ops T J ((i, k) :: π)) := fun a ha =>
  ⟨o, h0, by rw [if_neg (by rw [hs.wanted ha]; simp), hd]; exact h _ (ha.put hn undef)⟩
theorem F_stay0 {k : Nat} (h0 : ops[i]? = some o) (hs : Stays ops fs o) (hd : o.dst = none) (h : GF n ds fs E L (wpF P ops T J π)) : GF n ds fs E L (wpF P ops T J ((i, k) :: π)) := fun a ha =>
  ⟨o, h0, by rw [if_neg (by rw [hs.wanted ha]; simp), hd]; exact h _ ha⟩

theorem F_mk {d : Nat} {val : Nat → Value} {obj : Obj} (h0 : ops[i]? = some o) (he : ∀ a, Fr n ds fs a → ∀ w, (execOp a.eval o).run P w = .ok (.value (val w.heap.size)) (w.alloc obj)) (hd : o.dst = some d) (hn : Nat.blt d n = true) (hg : Goes ops fs o)
    (h : ∀ b, E.heap b = none → GF n ds ((d, val b) :: fs) E (.blk b obj :: L) (wpF P ops T J π)) : GF n ds fs E L (wpF P ops T J ((i, 2) :: π)) := fun a ha =>
  ⟨o, h0, by
    rw [if_pos (hg.wanted ha)]
    refine ⟨val, obj, he a ha, fun b ⟨M, w, hw⟩ => ?_⟩
    rw [hd, Fam.st_add]
    exact h b (St.apart hw b (by simp [Res.blk])).1 _ (ha.put hn _)⟩
theorem F_alloc {t : TypeId} {d : Nat} {z : Value} {cs : Array Value} [hz : Zero P t z cs] (h0 : ops[i]? = some o) (ho : o.op = .alloc t) (hd : o.dst = some d) (hn : Nat.blt d n = true) (hg : Goes ops fs o)
    (h : ∀ b, GF n ds ((d, .pointer (some ⟨b, 0, none⟩)) :: fs) E (.blk b (.cells cs t (0, 0)) :: L) (wpF P ops T J π)) : GF n ds fs E L (wpF P ops T J ((i, 2) :: π)) :=
  F_mk (val := fun b => .pointer (some ⟨b, 0, none⟩)) h0 (fun a ha w => by simp [execOp, ho, Instr.alloc, hz.zv, Result.andThen, newVar, newRow, hz.zc]) hd hn hg fun b _ => h b
theorem F_box {t : TypeId} {x : Operand} {d : Nat} {v : Value} {cs : Array Value} (h0 : ops[i]? = some o) (ho : o.op = .box t x) (hx : ev fs x = some v) (hc : v.cells = cs) (hd : o.dst = some d) (hn : Nat.blt d n = true) (hg : Goes ops fs o)
    (h : ∀ b, GF n ds ((d, .pointer (some ⟨b, 0, none⟩)) :: fs) E (.blk b (.cells cs t (0, 0)) :: L) (wpF P ops T J π)) : GF n ds fs E L (wpF P ops T J ((i, 2) :: π)) :=
  F_mk (val := fun b => .pointer (some ⟨b, 0, none⟩)) h0 (fun a ha w => by simp [execOp, ho, ha.eval hx, Instr.box, newVar, newRow, hc]) hd hn hg fun b _ => h b
theorem F_box1 {t : TypeId} {x : Operand} {d : Nat} {v : Value} (h0 : ops[i]? = some o) (ho : o.op = .box t x) (hx : ev fs x = some v) (hc : v.cells = #[v]) (hd : o.dst = some d) (hn : Nat.blt d n = true) (hg : Goes ops fs o)
    (h : ∀ b, GF n ds ((d, .pointer (some ⟨b, 0, none⟩)) :: fs) E (.blk b (.cells #[v] t (0, 0)) :: L) (wpF P ops T J π)) : GF n ds fs E L (wpF P ops T J ((i, 2) :: π)) := F_box h0 ho hx hc hd hn hg h
theorem F_boxA {t : TypeId} {x : Operand} {d : Nat} {cs : Array Value} (h0 : ops[i]? = some o) (ho : o.op = .box t x) (hx : ev fs x = some (.agg cs)) (hd : o.dst = some d) (hn : Nat.blt d n = true) (hg : Goes ops fs o)
    (h : ∀ b, GF n ds ((d, .pointer (some ⟨b, 0, none⟩)) :: fs) E (.blk b (.cells cs t (0, 0)) :: L) (wpF P ops T J π)) : GF n ds fs E L (wpF P ops T J ((i, 2) :: π)) := F_box h0 ho hx rfl hd hn hg h

/-! Slices written out -/
def fillS (sz : Nat) : List Value → List (Nat × Value) → Option (List Value)
  | l, [] => some l
  | l, (i, v) :: r => if v.cells.size = sz ∧ i * sz + sz ≤ l.length then fillS sz (setLs l (i * sz) v.cells.toList) r else none
def zeros (k : Nat) (zc : List Value) : List Value := (List.range k).map fun j => zc.toArray[j % zc.length]!
theorem fillS_of {sz : Nat} : ∀ (ps : List (Nat × Value)) (l cells : List Value), fillS sz l ps = some cells → Instr.fill (fun i => some (i * sz, sz)) l.toArray ps = some cells.toArray := by
  intro ps
  induction ps with
  | nil => intro l cells h; simp only [fillS, Option.some.injEq] at h; subst h; rfl
  | cons p ps ih =>
    obtain ⟨i, v⟩ := p
    intro l cells h
    simp only [fillS] at h
    split at h
    · rename_i hc
      simp only [Instr.fill]
      have : ¬ ((decide (v.cells.size ≠ sz) || decide (i * sz + v.cells.size > l.toArray.size)) = true) := by
        simp; omega
      rw [if_neg (by simpa using this)]
      have e := foldl_set v.cells.toList l (i * sz) 0
      have h2 : (v.cells.zipIdx.foldl (fun cs (p : Value × Nat) => cs.setIfInBounds (i * sz + p.2) p.1) l.toArray) = (setLs l (i * sz) v.cells.toList).toArray := by
        rw [← Array.foldl_toList, Array.toList_zipIdx]; exact e
      rw [show (Array.foldl (fun cs x => match x with | (c, j) => cs.setIfInBounds (i * sz + j) c) l.toArray v.cells.zipIdx) = (setLs l (i * sz) v.cells.toList).toArray from h2]
      exact ih _ _ h
    · cases h
theorem run_lit {t e : TypeId} {td : TypeDesc} {sz sz' : Nat} {ag ag' : Bool} [ht : Ty P t (.slice e) sz' ag'] [he : Ty P e td sz ag] {z : Value} {zc : List Value} [hz : Zero P e z zc.toArray] {k : Nat} {ps : List (Nat × Operand)} {vs : List (Nat × Value)} {cells : List Value} {a : Act} {w : World}
    (ha : Fr n ds fs a) (ho : o.op = .buildSlice t k ps.toArray) (hx : evps fs ps = some vs) (hk : 0 < k * sz ∧ k * sz ≤ 1000) (hf : fillS sz (zeros (k * sz) zc) vs = some cells) :
    (execOp a.eval o).run P w = .ok (.value (.slice (some ⟨w.heap.size, 0, none⟩) k k)) (w.alloc (.cells cells.toArray e)) := by
  have e1 := evps_eval ha ps vs hx
  have e3 : ((ps.toArray.map fun (i, x) => (i, a.eval x)) : Array (Nat × Value)) = vs.toArray := by
    rw [← e1]; simp
  have e2 := fillS_of vs _ cells hf
  have e4 : ((Array.range (k * sz)).map (fun j => zc.toArray[j % zc.toArray.size]!)) = (zeros (k * sz) zc).toArray := by
    rw [← List.toArray_range, List.map_toArray]
    simp [zeros]
  have h1 : ¬ (k * sz > 2 ^ 24) := by omega
  have h2 : ¬ (k * sz = 0) := by omega
  simp only [execOp, ho, e3]
  simp only [Instr.buildSlice, Sem.run_bind, ht.run, Result.andThen, he.size, if_neg h1, if_neg h2, hz.zv, hz.zc, Sem.run_pure, e4, e2, newRow]
  simp
theorem G_lit {t e : TypeId} {td : TypeDesc} {sz sz' : Nat} {ag ag' : Bool} [ht : Ty P t (.slice e) sz' ag'] [he : Ty P e td sz ag] {z : Value} {zc : List Value} [hz : Zero P e z zc.toArray] {k d : Nat} {ps : List (Nat × Operand)} {vs : List (Nat × Value)} {cells : List Value} {Q : Exit → Act → World → Prop} {rest : List Oper}
    (ho : o.op = .buildSlice t k ps.toArray) (hx : evps fs ps = some vs) (hk : 0 < k * sz ∧ k * sz ≤ 1000) (hf : fillS sz (zeros (k * sz) zc) vs = some cells) (hd : o.dst = some d) (hn : Nat.blt d n = true) (hg : Goes ops fs o)
    (h : ∀ b, G n ds ((d, .slice (some ⟨b, 0, none⟩) k k) :: fs) E (.blk b (.cells cells.toArray e (0, 0)) :: L) (wpListIn (Wd ro) 0 P ops Q rest)) : G n ds fs E L (wpListIn (Wd ro) 0 P ops Q (o :: rest)) :=
  G_any hg (by rw [ho]; intro c h; cases h) fun a w ha hw => by
    rw [run_lit ha ho hx hk hf]
    simp only [Oper.uponIn_value, hd]
    exact h w.heap.size _ _ (ha.put hn _) (hw.alloc _)

/-- A block that is known whole is shut for good. -/
noncomputable def Env.blk (E : Env) (b : Nat) (o : Obj) : Env := ⟨fun c => if c = b then some o else E.heap c, E.os, E.output, E.tape⟩
theorem Env.blk_le {E : Env} {b : Nat} {o : Obj} (h : E.heap b = none) : E.Le (E.blk b o) := ⟨fun c o' hc => by
  simp only [Env.blk]
  split
  · rename_i e; subst e; rw [h] at hc; cases hc
  · exact hc, rfl, rfl, rfl⟩
theorem St.shut {b : Nat} {o : Obj} {w : World} (hE : E.heap b = none) : St E (.blk b o :: L) w ↔ St (E.blk b o) L w := by
  constructor
  · intro h
    have hn := h.nodup
    simp only [List.flatMap_cons, Res.blk, List.singleton_append, List.nodup_cons] at hn
    refine ⟨fun c o' hc => ?_, fun r hr => h.own r (.tail _ hr), hn.2, fun c hc => ?_, h.os, h.out, h.tape⟩
    · simp only [Env.blk] at hc
      split at hc
      · rename_i e; subst e; cases hc; exact h.own _ (.head _)
      · exact h.env c o' hc
    · have := h.apart c (by simp only [List.flatMap_cons]; exact List.mem_append.2 (.inr hc))
      refine ⟨?_, this.2⟩
      simp only [Env.blk]
      rw [if_neg (fun e => by subst e; exact hn.1 hc)]
      exact this.1
  · intro h
    have hb : w.heap[b]? = some o := h.env b o (by simp [Env.blk])
    have hnb : b ∉ L.flatMap Res.ids := fun hm => by
      have := (h.apart b hm).1
      simp [Env.blk] at this
    refine ⟨fun c o' hc => h.env c o' ((Env.blk_le hE).1 c o' hc), fun r hr => ?_, ?_, fun c hc => ?_, h.os, h.out, h.tape⟩
    · rcases List.mem_cons.1 hr with rfl | hr
      · exact hb
      · exact h.own r hr
    · simp only [List.flatMap_cons, Res.blk, List.singleton_append, List.nodup_cons]
      exact ⟨hnb, h.nodup⟩
    · simp only [List.flatMap_cons, Res.blk, List.singleton_append, List.mem_cons] at hc
      rcases hc with rfl | hc
      · exact ⟨hE, (Array.getElem?_eq_some_iff.1 hb).1⟩
      · have := h.apart c hc
        refine ⟨?_, this.2⟩
        cases e : E.heap c with
        | none => rfl
        | some o' => rw [(Env.blk_le hE).1 c o' e] at this; cases this.1
theorem Fam.shut {b : Nat} {o : Obj} (hE : E.heap b = none) : Fam.st E (.blk b o :: L) = Fam.st (E.blk b o) L :=
  Fam.ext fun M w => ⟨fun h => (St.shut hE).1 (St.perm h List.perm_middle), fun h => St.perm ((St.shut hE).2 h) List.perm_middle.symm⟩
/-- A slice written out, shut at once. -/
theorem F_litZ {t e : TypeId} {td : TypeDesc} {sz sz' : Nat} {ag ag' : Bool} [ht : Ty P t (.slice e) sz' ag'] [he : Ty P e td sz ag] {z : Value} {zc : List Value} [hz : Zero P e z zc.toArray] {k d : Nat} {ps : List (Nat × Operand)} {vs : List (Nat × Value)} {cells : List Value}
    (h0 : ops[i]? = some o) (ho : o.op = .buildSlice t k ps.toArray) (hx : evps fs ps = some vs) (hk : 0 < k * sz ∧ k * sz ≤ 1000) (hf : fillS sz (zeros (k * sz) zc) vs = some cells) (hl : cells.length = k * sz) (hd : o.dst = some d) (hn : Nat.blt d n = true) (hg : Goes ops fs o)
    (h : ∀ b E', E.Le E' → SlE E' sz (some ⟨b, 0, none⟩) k cells → GF n ds ((d, .slice (some ⟨b, 0, none⟩) k k) :: fs) E' L (wpF P ops T J π)) : GF n ds fs E L (wpF P ops T J ((i, 2) :: π)) :=
  F_mk (val := fun b => .slice (some ⟨b, 0, none⟩) k k) h0 (fun a ha w => run_lit ha ho hx hk hf) hd hn hg fun b hb => by
    have := h b (E.blk b (.cells cells.toArray e)) (Env.blk_le hb) (SlE.lit (T := e) (fz := (0, 0)) (by show (E.blk b (.cells cells.toArray e)).heap b = some _; simp [Env.blk]) hl)
    unfold GF at this ⊢
    rw [Fam.shut hb]
    exact this
/-- A slice written out, shut at once, in a region that does not draw. -/
theorem G_litZ {t e : TypeId} {td : TypeDesc} {sz sz' : Nat} {ag ag' : Bool} [ht : Ty P t (.slice e) sz' ag'] [he : Ty P e td sz ag] {z : Value} {zc : List Value} [hz : Zero P e z zc.toArray] {k d : Nat} {ps : List (Nat × Operand)} {vs : List (Nat × Value)} {cells : List Value} {Q : Exit → Act → World → Prop} {rest : List Oper}
    (ho : o.op = .buildSlice t k ps.toArray) (hx : evps fs ps = some vs) (hk : 0 < k * sz ∧ k * sz ≤ 1000) (hf : fillS sz (zeros (k * sz) zc) vs = some cells) (hl : cells.length = k * sz) (hd : o.dst = some d) (hn : Nat.blt d n = true) (hg : Goes ops fs o)
    (h : ∀ b E', E.Le E' → SlE E' sz (some ⟨b, 0, none⟩) k cells → G n ds ((d, .slice (some ⟨b, 0, none⟩) k k) :: fs) E' L (wpListIn (Wd ro) 0 P ops Q rest)) : G n ds fs E L (wpListIn (Wd ro) 0 P ops Q (o :: rest)) :=
  G_lit ho hx hk hf hd hn hg fun b => G.freeze (.head _ _) fun E' hE hok => h b E' hE (SlE.lit hok hl)

/-! Calls -/
theorem F_callv {k : FuncId} [Ent P k] {args : Array Value} {d : Nat} {r : Value} (h0 : ops[i]? = some o) (ht : Goesto fs o k args) (hd : o.dst = some d) (hn : Nat.blt d n = true) (hg : Goes ops fs o)
    (hc : ∀ L, CallV P k args E L r) (h : GF n ds ((d, r) :: fs) E L (wpF P ops T J π)) : GF n ds fs E L (wpF P ops T J ((i, 3) :: π)) := fun a ha =>
  ⟨o, h0, by
    rw [if_pos (hg.wanted ha)]
    exact fun M w hw => by
      unfold Steps
      rw [ht.run ha]
      exact (hc (M ++ L) w hw).mono fun e w' ⟨he, hs⟩ => ⟨r, he, Fam.st E L, fun _ h => h, hs, by rw [hd]; exact h _ (ha.put hn r)⟩⟩
/-- A call that leaves what is owned as it is. -/
theorem F_call {k : FuncId} [Ent P k] {args : Array Value} {d : Nat} {Post : List Res → Value → Env → List Res → Prop} (h0 : ops[i]? = some o) (ht : Goesto fs o k args) (hd : o.dst = some d) (hn : Nat.blt d n = true) (hg : Goes ops fs o)
    (hc : ∀ L, CallS P k args E L (Post L)) (hf : ∀ L0 r E' L', Post L0 r E' L' → L' = L0 ∧ Post L r E' L)
    (h : ∀ r E', E.Le E' → Post L r E' L → GF n ds ((d, r) :: fs) E' L (wpF P ops T J π)) : GF n ds fs E L (wpF P ops T J ((i, 3) :: π)) := fun a ha =>
  ⟨o, h0, by
    rw [if_pos (hg.wanted ha)]
    intro M w hw
    unfold Steps
    rw [ht.run ha]
    refine (hc (M ++ L) w hw).mono ?_
    rintro e w' ⟨r, E', L', rfl, hE, hs, hp⟩
    obtain ⟨rfl, hp'⟩ := hf _ _ _ _ hp
    exact ⟨r, rfl, Fam.st E' L, fun w ⟨M, h⟩ => ⟨M, St.weaken h hE⟩, hs, by rw [hd]; exact h r E' hE hp' _ (ha.put hn r)⟩⟩

/-! Tests -/
theorem GF.bool {X : Act → Fam → Prop} (i : Nat) {b : Bool} (hi : look fs i = some (.bool b)) (ht : b = true → GF n ds ((i, .bool true) :: fs) E L X) (hf : b = false → GF n ds ((i, .bool false) :: fs) E L X) : GF n ds fs E L X := by
  have key : ∀ a : Act, Fr n ds fs a → Fr n ds ((i, .bool b) :: fs) a := fun a h => ⟨h.size, h.defers, fun j v hj => by
    simp only [Ytaoinojdijbhaaa.look] at hj
    by_cases e : i = j
    · subst e; simp at hj; subst hj; exact h.get _ _ hi
    · rw [beq_ne e] at hj
      exact h.get j v hj⟩
  intro a ha
  cases b with
  | true => exact ht rfl a (key a ha)
  | false => exact hf rfl a (key a ha)
theorem GF.bool_t {X : Act → Fam → Prop} (i : Nat) {b : Bool} (hi : look fs i = some (.bool b)) (hb : b = true) (h : GF n ds ((i, .bool true) :: fs) E L X) : GF n ds fs E L X := GF.bool i hi (fun _ => h) (fun e => by rw [hb] at e; cases e)
theorem GF.bool_f {X : Act → Fam → Prop} (i : Nat) {b : Bool} (hi : look fs i = some (.bool b)) (hb : b = false) (h : GF n ds ((i, .bool false) :: fs) E L X) : GF n ds fs E L X := GF.bool i hi (fun e => by rw [hb] at e; cases e) (fun _ => h)

/-- What is known where two ways meet: more may be shut, and more owned. -/
def JT (n : Nat) (ds : List Deferred) (fs : List (Nat × Value)) (E : Env) (L : List Res) : Act → Fam → Prop := fun a Φ => ∃ E' N, E.Le E' ∧ Fr n ds fs a ∧ Φ = Fam.st E' (L ++ N)
theorem JT_end {fs1 : List (Nat × Value)} {d c : Nat} {v : Value} {E1 : Env} {L1 : List Res} (k : Nat) (hfs : fs1.drop k = fs) (hd : look fs1 d = some v) (hf : ((fs1.take k).all fun p => Nat.beq p.1 d || (look fs p.1).isNone) = true) (hE : E.Le E1) (hL : L1.drop c = L) :
    GF n ds fs1 E1 L1 (wpF P ops (JT n ds ((d, v) :: fs) E L) J []) := fun a ha =>
  ⟨E1, L1.take c, hE, ⟨ha.size, ha.defers, fun i u hu => ha.get i u (look_end k hfs hd hf i u hu)⟩, Fam.st_perm (by subst hL; have := List.take_append_drop c L1; exact (List.Perm.of_eq this.symm).trans List.perm_append_comm)⟩
theorem F_join (k i d : Nat) {b : Bool} {vt vf : Value} (hi : look fs i = some (.bool b))
    (ht : b = true → GF n ds ((i, .bool true) :: fs) E L (wpF P ops (JT n ds ((d, vt) :: (i, .bool true) :: fs) E L) J (π.take k)))
    (hf : b = false → GF n ds ((i, .bool false) :: fs) E L (wpF P ops (JT n ds ((d, vf) :: (i, .bool false) :: fs) E L) J (π.take k)))
    (h : ∀ E' N, E.Le E' → GF n ds ((d, bif b then vt else vf) :: fs) E' (L ++ N) (wpF P ops T (JL []) (π.drop k))) (hk : ((π.drop k).all fun p => Nat.ble p.2 3) = true) : GF n ds fs E L (wpF P ops T J π) := by
  refine GF.bool i hi (fun e => ?_) (fun e => ?_)
  · intro a ha
    have := wpF_app (T := T) (J0 := JL []) (π.drop k) hk (π.take k) J a _ (wpF_mono (fun a' Φ' hh => by
      obtain ⟨E', N, h1, h2, rfl⟩ := hh
      have := h E' N h1 a' (by have := h2.unlit hi e; rw [e]; exact this)
      exact this) _ _ _ _ (ht e a ha))
    rwa [List.take_append_drop] at this
  · intro a ha
    have := wpF_app (T := T) (J0 := JL []) (π.drop k) hk (π.take k) J a _ (wpF_mono (fun a' Φ' hh => by
      obtain ⟨E', N, h1, h2, rfl⟩ := hh
      have := h E' N h1 a' (by have := h2.unlit hi e; rw [e]; exact this)
      exact this) _ _ _ _ (hf e a ha))
    rwa [List.take_append_drop] at this
theorem F_joinAnd (k i d : Nat) {b y : Bool} (hi : look fs i = some (.bool b))
    (ht : b = true → GF n ds ((i, .bool true) :: fs) E L (wpF P ops (JT n ds ((d, .bool y) :: (i, .bool true) :: fs) E L) J (π.take k)))
    (hf : b = false → GF n ds ((i, .bool false) :: fs) E L (wpF P ops (JT n ds ((d, .bool false) :: (i, .bool false) :: fs) E L) J (π.take k)))
    (h : ∀ E' N, E.Le E' → GF n ds ((d, .bool (b && y)) :: fs) E' (L ++ N) (wpF P ops T (JL []) (π.drop k))) (hk : ((π.drop k).all fun p => Nat.ble p.2 3) = true) : GF n ds fs E L (wpF P ops T J π) :=
  F_join k i d hi ht hf (by cases b <;> exact h) hk
theorem F_joinOr (k i d : Nat) {b y : Bool} (hi : look fs i = some (.bool b))
    (ht : b = true → GF n ds ((i, .bool true) :: fs) E L (wpF P ops (JT n ds ((d, .bool true) :: (i, .bool true) :: fs) E L) J (π.take k)))
    (hf : b = false → GF n ds ((i, .bool false) :: fs) E L (wpF P ops (JT n ds ((d, .bool y) :: (i, .bool false) :: fs) E L) J (π.take k)))
    (h : ∀ E' N, E.Le E' → GF n ds ((d, .bool (b || y)) :: fs) E' (L ++ N) (wpF P ops T (JL []) (π.drop k))) (hk : ((π.drop k).all fun p => Nat.ble p.2 3) = true) : GF n ds fs E L (wpF P ops T J π) :=
  F_join k i d hi ht hf (by cases b <;> exact h) hk

/-! The same where nothing is drawn: what hangs on the test may call. -/
def JE (n : Nat) (ds : List Deferred) (fs : List (Nat × Value)) (E : Env) (L : List Res) : Exit → Act → World → Prop := fun e a w => e = .normal ∧ ∃ E', E.Le E' ∧ Fr n ds fs a ∧ St E' L w
theorem JE_end {fs1 : List (Nat × Value)} {d c : Nat} {v : Value} {E1 : Env} {L1 : List Res} (k : Nat) (hfs : fs1.drop k = fs) (hd : look fs1 d = some v) (hf : ((fs1.take k).all fun p => Nat.beq p.1 d || (look fs p.1).isNone) = true) (hE : E.Le E1) (hL : L1.drop c = L) :
    G n ds fs1 E1 L1 (fun a w => JE n ds ((d, v) :: fs) E L .normal a w) := fun a w ha hw =>
  ⟨rfl, E1, hE, ⟨ha.size, ha.defers, fun i u hu => ha.get i u (look_end k hfs hd hf i u hu)⟩, by subst hL; exact hw.dropK c⟩
theorem G_joinE {l : List Oper} {Q : Exit → Act → World → Prop} (k i d : Nat) {b : Bool} {vt vf : Value} (hi : look fs i = some (.bool b))
    (ht : b = true → G n ds ((i, .bool true) :: fs) E L (wpListIn (Wd ro) 0 P ops (JE n ds ((d, vt) :: (i, .bool true) :: fs) E L) (l.take k)))
    (hf : b = false → G n ds ((i, .bool false) :: fs) E L (wpListIn (Wd ro) 0 P ops (JE n ds ((d, vf) :: (i, .bool false) :: fs) E L) (l.take k)))
    (h : ∀ E', E.Le E' → G n ds ((d, bif b then vt else vf) :: fs) E' L (wpListIn (Wd ro) 0 P ops Q (l.drop k))) : G n ds fs E L (wpListIn (Wd ro) 0 P ops Q l) := by
  refine G.bool i hi (fun e => ?_) (fun e => ?_)
  · intro a w ha hw
    have := wpListIn_app (Q := Q) (l.drop k) (fun e a w hne hq => hne hq.1) (fun a w ⟨_, E', h1, h2, h3⟩ => h E' h1 a w (by have := h2.unlit hi e; rw [e]; exact this) h3) (l.take k) a w (ht e a w ha hw)
    rwa [List.take_append_drop] at this
  · intro a w ha hw
    have := wpListIn_app (Q := Q) (l.drop k) (fun e a w hne hq => hne hq.1) (fun a w ⟨_, E', h1, h2, h3⟩ => h E' h1 a w (by have := h2.unlit hi e; rw [e]; exact this) h3) (l.take k) a w (hf e a w ha hw)
    rwa [List.take_append_drop] at this
theorem G_joinEAnd {l : List Oper} {Q : Exit → Act → World → Prop} (k i d : Nat) {b y : Bool} (hi : look fs i = some (.bool b))
    (ht : b = true → G n ds ((i, .bool true) :: fs) E L (wpListIn (Wd ro) 0 P ops (JE n ds ((d, .bool y) :: (i, .bool true) :: fs) E L) (l.take k)))
    (hf : b = false → G n ds ((i, .bool false) :: fs) E L (wpListIn (Wd ro) 0 P ops (JE n ds ((d, .bool false) :: (i, .bool false) :: fs) E L) (l.take k)))
    (h : ∀ E', E.Le E' → G n ds ((d, .bool (b && y)) :: fs) E' L (wpListIn (Wd ro) 0 P ops Q (l.drop k))) : G n ds fs E L (wpListIn (Wd ro) 0 P ops Q l) :=
  G_joinE k i d hi ht hf (by cases b <;> exact h)
theorem G_joinEOr {l : List Oper} {Q : Exit → Act → World → Prop} (k i d : Nat) {b y : Bool} (hi : look fs i = some (.bool b))
    (ht : b = true → G n ds ((i, .bool true) :: fs) E L (wpListIn (Wd ro) 0 P ops (JE n ds ((d, .bool true) :: (i, .bool true) :: fs) E L) (l.take k)))
    (hf : b = false → G n ds ((i, .bool false) :: fs) E L (wpListIn (Wd ro) 0 P ops (JE n ds ((d, .bool y) :: (i, .bool false) :: fs) E L) (l.take k)))
    (h : ∀ E', E.Le E' → G n ds ((d, .bool (b || y)) :: fs) E' L (wpListIn (Wd ro) 0 P ops Q (l.drop k))) : G n ds fs E L (wpListIn (Wd ro) 0 P ops Q l) :=
  G_joinE k i d hi ht hf (by cases b <;> exact h)
end rules
end Go.Proofs.Ytaoinojdijbhaaa
set_option linter.unusedSimpArgs false
set_option linter.unusedVariables false
namespace Go.Proofs.Ytaoinojdijbhaaa
open Go.RowKit
section
variable {P : Program} {ro : Option Nat} {n : Nat} {ds : List Deferred} {fs : List (Nat × Value)} {E : Env} {L L' : List Res} {X : Act → World → Prop}
/-- A slice written out becomes one that may be appended to. -/
theorem G.blkSl {b k sz : Nat} {e : TypeId} {l : List Value} (hl : l.length = k * sz) (hk : k ≤ maxLen) (h : G n ds fs E (.sl e sz (some ⟨b, 0, none⟩) k k l :: L) X) : G n ds fs E (.blk b (.cells l.toArray e (0, 0)) :: L) X := fun a w ha hw => by
  refine h a w ha ⟨hw.env, fun r hr => ?_, hw.nodup, hw.apart, hw.os, hw.out, hw.tape⟩
  rcases List.mem_cons.1 hr with rfl | hr
  · have := hw.own _ (.head _)
    exact ⟨hl, .inr ⟨b, l.toArray, rfl, this, Nat.le_refl _, hk, by simpa using hl, by simp [← hl]⟩⟩
  · exact hw.own r (.tail _ hr)
end
end Go.Proofs.Ytaoinojdijbhaaa
set_option linter.unusedSimpArgs false
set_option linter.unusedVariables false
namespace Go.Proofs.Ytaoinojdijbhaaa
open Go.RowKit

theorem SlE.pre {E : Env} {b : Nat} {l r : List Value} {T : TypeId} {fz : Nat × Nat} {n sz : Nat} (h : (Res.blk b (.cells (l.toArray ++ r.toArray) T fz)).ok E.heap) (hl : l.length = n * sz) : SlE E sz (some ⟨b, 0, none⟩) n l :=
  ⟨hl, .inr ⟨_, rfl, .inl rfl, fun j v hj => by
    have hb : E.heap b = some (.cells (l.toArray ++ r.toArray) T fz) := h
    have hj1 := (List.getElem?_eq_some_iff.1 hj).1
    have hc : (l.toArray ++ r.toArray)[j]? = some v := by
      rw [Array.getElem?_append_left (by simpa using hj1)]
      simpa using hj
    by_cases e : j = 0
    · subst e; simpa [Env.cell, Addr.add, hb] using hc
    · simpa [Env.cell, Addr.add, e, hb] using hc⟩⟩

/-- Where the rest of a slice begins. -/
def tailAt (a : Option Addr) (l c sz : Nat) : Option Addr := if c = l then a else a.map (·.add (l * sz))
theorem SlE.tail {E : Env} {sz : Nat} {a : Option Addr} {n : Nat} {vals : List Value} (h : SlE E sz a n vals) {l c : Nat} (hl : l ≤ n) (hc : n ≤ c) : SlE E sz (tailAt a l c sz) (n - l) (vals.drop (l * sz)) := by
  obtain ⟨h1, h2⟩ := h
  refine ⟨by rw [List.length_drop, h1, Nat.sub_mul], ?_⟩
  unfold tailAt
  split
  · rename_i e
    have hn : n - l = 0 := by omega
    have hd : vals.drop (l * sz) = [] := List.drop_eq_nil_of_le (by rw [h1]; exact Nat.mul_le_mul_right _ (by omega))
    rw [hn, hd]
    rcases h2 with ⟨h3, _⟩ | ⟨p, h3, _, _⟩
    · exact .inl ⟨h3, rfl⟩
    · exact .inr ⟨p, h3, .inr rfl, fun j v hj => by cases hj⟩
  · rcases h2 with ⟨rfl, h4⟩ | ⟨p, rfl, h4, h5⟩
    · exact .inl ⟨rfl, by omega⟩
    · refine .inr ⟨p.add (l * sz), rfl, ?_, fun j v hj => ?_⟩
      · rcases h4 with h4 | h4
        · left
          unfold Addr.add
          split
          · exact h4
          · rfl
        · right; omega
      · rw [Addr.add_add]
        exact h5 _ _ (by rwa [List.getElem?_drop] at hj)
theorem SlE.head {E : Env} {sz : Nat} {a : Option Addr} {n : Nat} {vals : List Value} (h : SlE E sz a n vals) {i : Nat} (hi : i ≤ n) : SlE E sz a i (vals.take (i * sz)) := by
  obtain ⟨h1, h2⟩ := h
  refine ⟨by rw [List.length_take, h1]; exact Nat.min_eq_left (Nat.mul_le_mul_right _ hi), ?_⟩
  rcases h2 with ⟨h3, h4⟩ | ⟨p, h3, h4, h5⟩
  · exact .inl ⟨h3, by omega⟩
  · refine .inr ⟨p, h3, h4.imp id (fun h => by omega), fun j v hj => h5 j v ?_⟩
    rw [List.getElem?_take] at hj
    split at hj
    · exact hj
    · cases hj

section
variable {P : Program} {ro : Option Nat} {n : Nat} {ds : List Deferred} {fs : List (Nat × Value)} {E : Env} {L : List Res} {o : Oper}
theorem V_sl3 {t e : TypeId} {sz : Nat} {ag : Bool} {d : TypeDesc} {sz' : Nat} {ag' : Bool} [ht : Ty P t (.slice e) sz ag] [he : Ty P e d sz' ag'] {x y z : Operand} {a : Option Addr} {m c : Nat} {i j : Int}
    (ho : o.op = .slice t x none (some y) (some z)) (hx : ev fs x = some (.slice a m c)) (hy : ev fs y = some (.int .i64 i)) (hz : ev fs z = some (.int .i64 j)) (h0 : 0 ≤ i) (h1 : i ≤ j) (h2 : j ≤ c) : Val P o fs E L (.slice a i.toNat j.toNat) :=
  ⟨(by rw [ho]; intro c h; cases h), fun n ds a' w ha _ => by
    have hj : 0 ≤ j := by omega
    have h4 : max j 0 = j := by omega
    have hm : (a.map fun x => x.add 0) = a := by cases a <;> simp [Addr.add]
    simp [execOp, ho, ha.eval hx, ha.eval hy, ha.eval hz, Instr.sliceAt, Instr.slice, Instr.sliceBounds, Instr.sliceBound, ht.run, he.size, Result.andThen, asIntOf, h0, h1, h2, hj, h4, hm]⟩
theorem V_sl3n {t e : TypeId} {sz : Nat} {ag : Bool} {d : TypeDesc} {sz' : Nat} {ag' : Bool} [ht : Ty P t (.slice e) sz ag] [he : Ty P e d sz' ag'] {x y z : Operand} {a : Option Addr} {m c i j : Nat}
    (ho : o.op = .slice t x none (some y) (some z)) (hx : ev fs x = some (.slice a m c)) (hy : ev fs y = some (.int .i64 (i : Int))) (hz : ev fs z = some (.int .i64 (j : Int))) (h1 : i ≤ j) (h2 : j ≤ c) : Val P o fs E L (.slice a i j) :=
  V_sl3 ho hx hy hz (by omega) (by omega) (by omega)
theorem V_slTail {t e : TypeId} {sz : Nat} {ag : Bool} {d : TypeDesc} {sz' : Nat} {ag' : Bool} [ht : Ty P t (.slice e) sz ag] [he : Ty P e d sz' ag'] {x y : Operand} {a : Option Addr} {m c : Nat} {i : Int}
    (ho : o.op = .slice t x (some y) none none) (hx : ev fs x = some (.slice a m c)) (hy : ev fs y = some (.int .i64 i)) (h0 : 0 ≤ i) (h1 : i ≤ m) : Val P o fs E L (.slice (tailAt a i.toNat c sz') (m - i.toNat) (c - i.toNat)) :=
  ⟨(by rw [ho]; intro c h; cases h), fun n ds a' w ha _ => by
    simp [execOp, ho, ha.eval hx, ha.eval hy, Instr.sliceAt, Instr.slice, Instr.sliceBounds, Instr.sliceBound, ht.run, he.size, Result.andThen, asIntOf, h0, h1, tailAt]⟩
theorem V_slTail1 {t e : TypeId} {sz : Nat} {ag : Bool} {d : TypeDesc} {sz' : Nat} {ag' : Bool} [ht : Ty P t (.slice e) sz ag] [he : Ty P e d sz' ag'] {x y : Operand} {a : Option Addr} {m c : Nat}
    (ho : o.op = .slice t x (some y) none none) (hx : ev fs x = some (.slice a m c)) (hy : ev fs y = some (.int .i64 1)) (h1 : 1 ≤ m) : Val P o fs E L (.slice (tailAt a 1 c sz') (m - 1) (c - 1)) :=
  V_slTail ho hx hy (by omega) (by omega)
theorem V_slHead {t e : TypeId} {sz : Nat} {ag : Bool} {d : TypeDesc} {sz' : Nat} {ag' : Bool} [ht : Ty P t (.slice e) sz ag] [he : Ty P e d sz' ag'] {x y : Operand} {a : Option Addr} {m c : Nat} {i : Int}
    (ho : o.op = .slice t x none (some y) none) (hx : ev fs x = some (.slice a m c)) (hy : ev fs y = some (.int .i64 i)) (h0 : 0 ≤ i) (h1 : i ≤ c) : Val P o fs E L (.slice a i.toNat c) :=
  ⟨(by rw [ho]; intro c h; cases h), fun n ds a' w ha _ => by
    have hm : (a.map fun x => x.add 0) = a := by cases a <;> simp [Addr.add]
    simp [execOp, ho, ha.eval hx, ha.eval hy, Instr.sliceAt, Instr.slice, Instr.sliceBounds, Instr.sliceBound, ht.run, he.size, Result.andThen, asIntOf, h0, h1, hm]⟩
theorem V_fieldAddrE {t ft : TypeId} {x : Operand} {i off sz' : Nat} {d : TypeDesc} {sz : Nat} {ag : Bool} [hf : Fld P t i off ft] [hft : Ty P ft d sz ag] {a : Option Addr} {k m : Nat} {vals : List Value} (ho : o.op = .fieldAddr t x i) (hx : ev fs x = some (.pointer (some (elemAt a k)))) (hr : SlE E sz' a m vals) (hm : 0 < m) (hs : sz ≠ 0) :
    Val P o fs E L (.pointer (some (elemAt a (k + off)))) := by
  rcases hr.2 with ⟨_, h0⟩ | ⟨⟨b, o', sp⟩, rfl, h1, _⟩
  · omega
  · rcases h1 with h1 | h1
    · simp only at h1
      subst h1
      have e1 : elemAt (some ⟨b, o', none⟩) k = ⟨b, o' + k, none⟩ := addr_add b o' k
      have e2 : elemAt (some ⟨b, o', none⟩) (k + off) = ⟨b, o' + k + off, none⟩ := by rw [elemAt, Option.getD_some, addr_add, Nat.add_assoc]
      rw [e1] at hx
      rw [e2]
      exact V_fieldAddr ho hx hs
    · omega
theorem V_eqlN {t e : TypeId} {u : TypeId} {sz : Nat} {ag : Bool} [ht : Ty P t (.slice e) sz ag] {x y : Operand} {a : Option Addr} {m c : Nat} (ho : o.op = .binOp .eql t x y u) (hx : ev fs x = some (.slice a m c)) (hy : ev fs y = some (.slice none 0 0)) : Val P o fs E L (.bool a.isNone) :=
  V_bin ho hx hy fun w => ⟨by simp [eqGuard], by simp [binOp, run_equal_slice_nil (P := P) w t e a m c ht.und]⟩
theorem V_loadAS {t : TypeId} {x : Operand} {d : TypeDesc} {sz sz' : Nat} [ht : Ty P t d sz' true] {a : Option Addr} {k k' m : Nat} {vals vs : List Value} (ho : o.op = .load t x) (hx : ev fs x = some (.pointer (some (elemAt a k)))) (hr : Rd E L sz a m vals)
    (hv : (vals.drop k').take sz' = vs) (hk : k = k') (hs : vs.length = sz') : Val P o fs E L (.agg vs.toArray) :=
  V_loadA ho hx (hr.cells fun j v hj => by
    subst hv
    rw [List.getElem?_take] at hj
    split at hj
    · rw [hk, ← List.getElem?_drop]; exact hj
    · cases hj) hs
end

/-- A slice of the call's own is shut for good. -/
theorem G.freezeSl {n : Nat} {ds : List Deferred} {fs : List (Nat × Value)} {E : Env} {L L' : List Res} {X : Act → World → Prop} {e : TypeId} {sz k c : Nat} {a : Option Addr} {xs : List Value} (d : Del L (.sl e sz a k c xs) L')
    (h : ∀ E', E.Le E' → SlE E' sz a k xs → k ≤ c → G n ds fs E' L' X) : G n ds fs E L X :=
  G.freeze d fun E' hE hok => h E' hE (SlE.sl hok) (by
    obtain ⟨_, h2⟩ := hok
    rcases h2 with ⟨_, _, h3⟩ | ⟨_, _, _, _, h3, _⟩
    · omega
    · exact h3)

/-- append onto a full slice. -/
theorem run_append_fresh {P : Program} {w : World} {t ty e : TypeId} {z : Value} {sz bytes : Nat} (ht : P.underlying t = some (.slice e)) (hi : Inf P e z sz bytes)
    {a : Option Addr} {k : Nat} {xs : List Value} (hx : xs.length = k * sz) (ha : (a = none ∧ k = 0) ∨ ∃ p, a = some p ∧ ∀ j v, xs[j]? = some v → w.cell? (p.add j) = some v) {p : Addr} {m c : Nat} {ys : List Value} (hl : ys.length = m * sz)
    (hy : ∀ j v, ys[j]? = some v → w.cell? (p.add j) = some v) (hm : 0 < m) (hb : (k + m) * bytes ≤ 140737488355328) (h63 : k + m ≤ 9223372036854775807) :
    ∃ c' r, k + m ≤ c' ∧ (Builtin.append_ #[t, t] ty #[.slice a k k, .slice (some p) m c]).run P w = .ok (.slice (some ⟨w.heap.size, 0, none⟩) (k + m) c') (w.drew.alloc (.cells ((xs ++ ys).toArray ++ r) e)) := by
  obtain ⟨i, hi1, hi2, rfl, rfl, hi5⟩ := hi.inf
  rcases ha with ⟨rfl, rfl⟩ | ⟨q, rfl, hq⟩
  · have hx0 : xs = [] := List.eq_nil_of_length_eq_zero (by simpa using hx)
    subst hx0
    have hr := run_append_nil (P := P) w t ty e i z ht hi1 hi2 p m c ys hl hy (by omega) (by omega) (by simp only [Nat.zero_add] at hb; omega)
    have hge := grownCap_ge w m 0 e
    simp only [Nat.zero_add, List.nil_append]
    exact ⟨_, _, by omega, hr⟩
  · have hr := run_append_grow (P := P) w t ty e i z ht hi1 hi2 q k k xs hx hq p m c ys hl hy (by omega) (by omega) (growslice_fits (by omega) hb)
    have hge := grownCap_ge w (k + m) k e
    exact ⟨_, Builtin.zeroCells z.cells (grownCap w (k + m) k e - (k + m)), hge, by rw [show (xs ++ ys).toArray = xs.toArray ++ ys.toArray by simp]; exact hr⟩

section
variable {P : Program} {ro : Option Nat} {n : Nat} {ds : List Deferred} {fs : List (Nat × Value)} {E : Env} {L : List Res} {ops : Array Oper} {T : Act → Fam → Prop} {π : List (Nat × Nat)} {i : Nat} {o : Oper} {J : World → Prop}
theorem F_appendZ {s x : Operand} {t e : TypeId} {d : Nat} {sz' : Nat} {ag' : Bool} {z : Value} {sz bytes : Nat} [ht : Ty P t (.slice e) sz' ag'] [hi : Inf P e z sz bytes] {a a2 : Option Addr} {k m c2 : Nat} {xs ys : List Value}
    (h0 : ops[i]? = some o) (ho : o.op = .call { callee := .builtin .append, args := #[s, x], argTypes := #[t, t] }) (hs : ev fs s = some (.slice a k k)) (hx : ev fs x = some (.slice a2 m c2)) (hr1 : SlE E sz a k xs) (hr2 : SlE E sz a2 m ys)
    (hm : 0 < m) (hb : (k + m) * bytes ≤ 140737488355328) (h63 : k + m ≤ 9223372036854775807) (hd : o.dst = some d) (hn : Nat.blt d n = true) (hg : Goes ops fs o)
    (h : ∀ b c' E', E.Le E' → SlE E' sz (some ⟨b, 0, none⟩) (k + m) (xs ++ ys) → k + m ≤ c' → GF n ds ((d, .slice (some ⟨b, 0, none⟩) (k + m) c') :: fs) E' L (wpF P ops T J π)) : GF n ds fs E L (wpF P ops T J ((i, 3) :: π)) := fun a0 ha =>
  ⟨o, h0, by
    rw [if_pos (hg.wanted ha)]
    intro M w hw
    have q1 : ∃ p, a2 = some p ∧ ∀ j v, ys[j]? = some v → w.cell? (p.add j) = some v := by
      rcases hr2.2 with ⟨_, h3⟩ | ⟨p, h3, _, h5⟩
      · omega
      · exact ⟨p, h3, fun j v hj => Env.cell_st (h5 j v hj) hw⟩
    obtain ⟨p, rfl, hy⟩ := q1
    have q2 : (a = none ∧ k = 0) ∨ ∃ p, a = some p ∧ ∀ j v, xs[j]? = some v → w.cell? (p.add j) = some v := by
      rcases hr1.2 with h3 | ⟨p, h3, _, h5⟩
      · exact .inl h3
      · exact .inr ⟨p, h3, fun j v hj => Env.cell_st (h5 j v hj) hw⟩
    obtain ⟨c', r, hc', hrun⟩ := run_append_fresh (P := P) (w := w) (ty := o.type) ht.und hi hr1.1 q2 (c := c2) hr2.1 hy hm hb h63
    unfold Steps
    have e1 : (execOp a0.eval o).run P w = .ok (.value (.slice (some ⟨w.heap.size, 0, none⟩) (k + m) c')) (w.drew.alloc (.cells ((xs ++ ys).toArray ++ r) e)) := by
      simp [execOp, ho, resolve, invoke, builtin, ha.eval hs, ha.eval hx, hrun, Result.andThen]
    rw [e1]
    have s1 := (hw.drew (w.drawn + 1)).alloc (.cells ((xs ++ ys).toArray ++ r) e)
    obtain ⟨E', g1, g2, g3⟩ := s1.freeze
    refine ⟨Fam.st E' L, fun w ⟨M, h⟩ => ⟨M, St.weaken h g1⟩, g2, ?_⟩
    rw [hd]
    have g4 : SlE E' sz (some ⟨w.heap.size, 0, none⟩) (k + m) (xs ++ ys) := SlE.pre (r := r.toList) (T := e) (fz := (0, 0)) (by simpa using g3) (by rw [List.length_append, hr1.1, hr2.1, Nat.add_mul])
    exact h _ c' E' g1 g4 hc' _ (ha.put hn _)⟩
end
section
variable {P : Program} {ro : Option Nat} {n : Nat} {ds : List Deferred} {fs : List (Nat × Value)} {E : Env} {L : List Res} {ops : Array Oper} {Q : Exit → Act → World → Prop} {rest : List Oper} {o : Oper}
theorem G_lit0z {t e : TypeId} {td : TypeDesc} {sz sz' : Nat} {ag ag' : Bool} [ht : Ty P t (.slice e) sz ag] [he : Ty P e td sz' ag'] {z : Value} {zc : Array Value} [hz : Zero P e z zc] {d : Nat}
    (ho : o.op = .buildSlice t 0 #[]) (hd : o.dst = some d) (hn : Nat.blt d n = true) (hg : Goes ops fs o)
    (h : ∀ b, G n ds ((d, .slice (some ⟨b, 0, none⟩) 0 0) :: fs) E (.sl e sz' (some ⟨b, 0, none⟩) 0 0 [] :: L) (wpListIn (Wd ro) 0 P ops Q rest)) : G n ds fs E L (wpListIn (Wd ro) 0 P ops Q (o :: rest)) :=
  G_any hg (by rw [ho]; intro c h; cases h) fun a w ha hw => by
    have e1 : (execOp a.eval o).run P w = .ok (.value (.slice (some ⟨w.heap.size, 0, none⟩) 0 0)) (w.alloc (.cells #[] e)) := by
      simp [execOp, ho, Instr.buildSlice, ht.run, he.size, hz.zv, hz.zc, Result.andThen, newRow]
      rw [show Array.range 0 = #[] by decide]
      simp [Instr.fill]
    rw [e1]
    simp only [Oper.uponIn_value, hd]
    have hb := hw.alloc (.cells #[] e)
    refine h w.heap.size _ _ (ha.put hn _) ⟨hb.env, fun r hr => ?_, hb.nodup, hb.apart, hb.os, hb.out, hb.tape⟩
    rcases List.mem_cons.1 hr with rfl | hr
    · have h0 : (w.alloc (.cells #[] e)).heap[w.heap.size]? = some (.cells #[] e) := World.alloc_heap_new w _
      exact ⟨by simp, .inr ⟨_, _, rfl, h0, Nat.le_refl _, Nat.zero_le _, by simp, by simp⟩⟩
    · exact hb.own r (List.mem_cons_of_mem _ hr)
end
end Go.Proofs.Ytaoinojdijbhaaa
set_option linter.unusedSimpArgs false
set_option linter.unusedVariables false
set_option linter.unusedSectionVars false
namespace Go.Proofs.Ytaoinojdijbhaaa
open Go.RowKit

section entries
variable {α : Type}
def ents (enc : α → Value) : List (α × Value) → Nat → List MapEntry
  | [], _ => []
  | (a, v) :: l, i => ⟨enc a, v, i⟩ :: ents enc l (i + 1)
def mobj (enc : α → Value) (kv : List (α × Value)) : Obj := .map (ents enc kv 0).toArray kv.length
theorem ents_len (enc : α → Value) : ∀ (kv : List (α × Value)) i, (ents enc kv i).length = kv.length := by
  intro kv
  induction kv with
  | nil => intro i; rfl
  | cons p l ih => intro i; obtain ⟨a, v⟩ := p; simp [ents, ih]
theorem ents_get (enc : α → Value) : ∀ (kv : List (α × Value)) (i k : Nat), (ents enc kv i)[k]? = (kv[k]?).map (fun p => ⟨enc p.1, p.2, i + k⟩) := by
  intro kv
  induction kv with
  | nil => intro i k; simp [ents]
  | cons p l ih =>
    intro i k
    obtain ⟨a, v⟩ := p
    cases k with
    | zero => simp [ents]
    | succ k => simp only [ents, List.getElem?_cons_succ, ih]; rw [show i + 1 + k = i + (k + 1) by omega]
theorem ents_append (enc : α → Value) : ∀ (a b : List (α × Value)) i, ents enc (a ++ b) i = ents enc a i ++ ents enc b (i + a.length) := by
  intro a
  induction a with
  | nil => intro b i; simp [ents]
  | cons p l ih => intro b i; obtain ⟨x, v⟩ := p; simp only [List.cons_append, ents, ih, List.length_cons]; rw [show i + 1 + l.length = i + (l.length + 1) by omega]
theorem ents_born (enc : α → Value) : ∀ (kv : List (α × Value)) (i : Nat) (e : MapEntry), e ∈ ents enc kv i → ∃ k p, kv[k]? = some p ∧ e = ⟨enc p.1, p.2, i + k⟩ := by
  intro kv i e he
  obtain ⟨k, hk⟩ := List.mem_iff_getElem?.1 he
  rw [ents_get, Option.map_eq_some_iff] at hk
  obtain ⟨p, h1, h2⟩ := hk
  exact ⟨k, p, h1, h2.symm⟩
theorem ents_borns (enc : α → Value) : ∀ (kv : List (α × Value)) (i : Nat), (ents enc kv i).map (·.born) = List.range' i kv.length := by
  intro kv
  induction kv with
  | nil => intro i; rfl
  | cons p l ih => intro i; obtain ⟨a, v⟩ := p; simp only [ents, List.map_cons, ih, List.length_cons, List.range'_succ]
end entries
section model
variable {α : Type} [DecidableEq α]
def mget : List (α × Value) → α → Option Value
  | [], _ => none
  | (b, v) :: l, a => if a = b then some v else mget l a
def mput : List (α × Value) → α → Value → List (α × Value)
  | [], a, v => [(a, v)]
  | (b, u) :: l, a, v => if a = b then (b, v) :: l else (b, u) :: mput l a v
def mfind : List (α × Value) → α → Nat → Option (Nat × Value)
  | [], _, _ => none
  | (b, v) :: l, a, i => if a = b then some (i, v) else mfind l a (i + 1)
theorem mfind_mget : ∀ (kv : List (α × Value)) a i, (mfind kv a i).map (·.2) = mget kv a := by
  intro kv
  induction kv with
  | nil => intro a i; rfl
  | cons p l ih => intro a i; obtain ⟨b, v⟩ := p; simp only [mfind, mget]; split; rfl; exact ih _ _
theorem mfind_none : ∀ (kv : List (α × Value)) a i v, mfind kv a i = none → mput kv a v = kv ++ [(a, v)] := by
  intro kv
  induction kv with
  | nil => intro a i v _; rfl
  | cons p l ih =>
    intro a i v h
    obtain ⟨b, u⟩ := p
    simp only [mfind, mput] at h ⊢
    split at h
    · cases h
    · rename_i hne
      rw [if_neg hne, ih a (i + 1) v h, List.cons_append]
theorem mfind_some (enc : α → Value) : ∀ (kv : List (α × Value)) a i v k u, mfind kv a i = some (k, u) → i ≤ k ∧ kv[k - i]? = some (a, u) ∧ (mput kv a v).length = kv.length ∧
    ents enc (mput kv a v) i = (ents enc kv i).modify (k - i) (fun e => { e with key := enc a, val := v }) := by
  intro kv
  induction kv with
  | nil => intro a i v k u h; cases h
  | cons p l ih =>
    intro a i v k u h
    obtain ⟨b, x⟩ := p
    simp only [mfind] at h
    split at h
    · rename_i hab
      subst hab
      simp only [Option.some.injEq, Prod.mk.injEq] at h
      obtain ⟨rfl, rfl⟩ := h
      simp [mput, ents]
    · rename_i hne
      obtain ⟨h1, h2, h3, h4⟩ := ih a (i + 1) v k u h
      have e : k - i = (k - (i + 1)) + 1 := by omega
      refine ⟨by omega, ?_, ?_, ?_⟩
      · rw [e, List.getElem?_cons_succ]; exact h2
      · simp only [mput, if_neg hne, List.length_cons, h3]
      · simp only [mput, if_neg hne, ents]
        rw [e, List.modify_succ_cons, h4]
theorem mget_mput (kv : List (α × Value)) (a : α) (v : Value) (b : α) : mget (mput kv a v) b = if b = a then some v else mget kv b := by
  induction kv with
  | nil => simp only [mput, mget]
  | cons p l ih =>
    obtain ⟨c, u⟩ := p
    simp only [mput]
    split
    · rename_i h
      subst h
      simp only [mget]
      split <;> rfl
    · rename_i h
      simp only [mget, ih]
      split
      · rename_i h2
        subst h2
        rw [if_neg (fun e => h e.symm)]
      · rfl
end model

/-- How the keys of type t are written: they are compared at once. -/
class KeyT {α : Type} [DecidableEq α] (P : Program) (t : TypeId) (enc : α → Value) : Prop where
  chk : ∀ a b w, (Instr.checkKey b 10000 t (enc a)).run P w = .ok () w
  find : ∀ a kv w, (Instr.findKey t (enc a) (ents enc kv 0)).run P w = .ok (mfind kv a 0) w
  bits : ∀ a, Instr.sameBits 10000 (enc a) (enc a) = true

abbrev kI (n : Int) : Value := .int .i64 n
abbrev kS (s : List UInt8) : Value := .string (S s)

theorem find_now {α : Type} [DecidableEq α] {enc : α → Value} {kind : TypeDesc} (h : ∀ a b, Instr.sameNow kind (enc a) (enc b) = some (decide (a = b))) (a : α) : ∀ (kv : List (α × Value)) (j i : Nat), Instr.findNow kind (enc a) (ents enc kv j) i = some (mfind kv a i) := by
  intro kv
  induction kv with
  | nil => intro j i; rfl
  | cons p l ih =>
    intro j i
    obtain ⟨b, v⟩ := p
    simp only [ents, Instr.findNow, h, mfind]
    by_cases e : a = b
    · simp [e]
    · simp [e, ih]

theorem checkKey_plain {P : Program} {t : TypeId} {d : TypeDesc} {sz : Nat} {ag : Bool} (ht : Ty P t d sz ag) (hd : d = .int .i64 ∨ d = .string) (v : Value) (b : Bool) (w : World) : (Instr.checkKey b 10000 t v).run P w = .ok () w := by
  rw [show (10000 : Nat) = 9999 + 1 from rfl]
  unfold Instr.checkKey
  simp only [Sem.run_bind, ht.run, Result.andThen]
  rcases hd with rfl | rfl <;> rfl
theorem S_beq (a b : List UInt8) : (S a == S b) = decide (a = b) := by
  have e : (S a == S b) = ((S a).data == (S b).data) := rfl
  rw [e, Bool.eq_iff_iff, decide_eq_true_eq]
  simp [S]
instance keyI {P : Program} {t : TypeId} {sz : Nat} {ag : Bool} [ht : Ty P t (.int .i64) sz ag] : KeyT P t kI where
  chk a b w := checkKey_plain ht (.inl rfl) _ b w
  find a kv w := by
    simp only [Instr.findKey, Sem.run_bind, ht.run, Result.andThen]
    rw [find_now (enc := kI) (fun a b => by simp [Instr.sameNow, kI]; rfl)]
    rfl
  bits a := by simp [Instr.sameBits]
instance keyS {P : Program} {t : TypeId} {sz : Nat} {ag : Bool} [ht : Ty P t .string sz ag] : KeyT P t kS where
  chk a b w := checkKey_plain ht (.inr rfl) _ b w
  find a kv w := by
    simp only [Instr.findKey, Sem.run_bind, ht.run, Result.andThen]
    rw [find_now (enc := kS) (fun a b => by simp only [Instr.sameNow, kS, S_beq])]
    rfl
  bits a := by simp only [kS, Instr.sameBits, S_beq, decide_true]

section rules
variable {P : Program} {ro : Option Nat} {n : Nat} {ds : List Deferred} {fs : List (Nat × Value)} {E : Env} {L L' : List Res} {ops : Array Oper} {Q : Exit → Act → World → Prop} {o : Oper} {rest : List Oper}
variable {α : Type} [DecidableEq α] {enc : α → Value}

theorem G_makeMap {t key elem : TypeId} {sz : Nat} {ag : Bool} [ht : Ty P t (.map key elem) sz ag] {d : Nat} (enc : α → Value) [hk : KeyT P key enc] (ho : o.op = .makeMap t none) (hd : o.dst = some d) (hn : Nat.blt d n = true) (hg : Goes ops fs o)
    (h : ∀ b, G n ds ((d, .map (some b)) :: fs) E (.blk b (mobj enc []) :: L) (wpListIn (Wd ro) 0 P ops Q rest)) : G n ds fs E L (wpListIn (Wd ro) 0 P ops Q (o :: rest)) :=
  G_any hg (by rw [ho]; intro c h; cases h) fun a w ha hw => by
    have e : (execOp a.eval o).run P w = .ok (.value (.map (some w.heap.size))) (w.alloc (mobj enc [])) := by
      simp [execOp, ho, Instr.makeMap, Result.andThen, mobj, ents]
    rw [e]
    simp only [Oper.uponIn_value, hd]
    exact h w.heap.size _ _ (ha.put hn _) (hw.alloc _)

theorem V_lookup {t key elem : TypeId} {sz : Nat} {ag : Bool} [ht : Ty P t (.map key elem) sz ag] (enc : α → Value) [hk : KeyT P key enc] {z : Value} {zc : Array Value} [hz : Zero P elem z zc] {x y : Operand} {b : Nat} {kv : List (α × Value)} (a : α)
    (ho : o.op = .lookup t x y false) (hx : ev fs x = some (.map (some b))) (hy : ev fs y = some (enc a)) (hm : Res.blk b (mobj enc kv) ∈ L) : Val P o fs E L ((mget kv a).getD z) :=
  ⟨(by rw [ho]; intro c h; cases h), fun n ds a' w ha hw => by
    have hb : w.heap[b]? = some (mobj enc kv) := hw.own _ hm
    have hg : (getObj b).run P w = .ok (mobj enc kv) w := by simp [getObj, Sem.run, hb, mobj]
    have e1 : (ents enc kv 0).toArray.toList = ents enc kv 0 := by simp
    have e2 := hk.find a kv w
    rw [← mfind_mget kv a 0]
    simp only [execOp, ho, ha.eval hx, ha.eval hy, Instr.lookup, Sem.run_bind, ht.run, Result.andThen, hg, mobj, Sem.run_pure, hk.chk, e1, e2]
    cases mfind kv a 0 with
    | none => simp [hz.zv, Result.andThen]
    | some p => obtain ⟨i, v⟩ := p; simp⟩
theorem V_lookupOk {t key elem : TypeId} {sz : Nat} {ag : Bool} [ht : Ty P t (.map key elem) sz ag] (enc : α → Value) [hk : KeyT P key enc] {z : Value} {zc : Array Value} [hz : Zero P elem z zc] {x y : Operand} {b : Nat} {kv : List (α × Value)} (a : α)
    (ho : o.op = .lookup t x y true) (hx : ev fs x = some (.map (some b))) (hy : ev fs y = some (enc a)) (hm : Res.blk b (mobj enc kv) ∈ L) : Val P o fs E L (.tuple #[(mget kv a).getD z, .bool (mget kv a).isSome]) :=
  ⟨(by rw [ho]; intro c h; cases h), fun n ds a' w ha hw => by
    have hb : w.heap[b]? = some (mobj enc kv) := hw.own _ hm
    have hg : (getObj b).run P w = .ok (mobj enc kv) w := by simp [getObj, Sem.run, hb, mobj]
    have e1 : (ents enc kv 0).toArray.toList = ents enc kv 0 := by simp
    have e2 := hk.find a kv w
    rw [← mfind_mget kv a 0]
    simp only [execOp, ho, ha.eval hx, ha.eval hy, Instr.lookup, Sem.run_bind, ht.run, Result.andThen, hg, mobj, Sem.run_pure, hk.chk, e1, e2]
    cases mfind kv a 0 with
    | none => simp [hz.zv, Result.andThen]
    | some p => obtain ⟨i, v⟩ := p; simp⟩

theorem run_mapUpdate {t key elem : TypeId} {sz : Nat} {ag : Bool} [ht : Ty P t (.map key elem) sz ag] [hk : KeyT P key enc] {b : Nat} {kv : List (α × Value)} (a : α) (v : Value) {w : World} (hb : w.heap[b]? = some (mobj enc kv)) :
    (Instr.mapUpdate t (.map (some b)) (enc a) v).run P w = .ok () (w.putObj b (mobj enc (mput kv a v))) := by
  have hg : (getObj b).run P w = .ok (mobj enc kv) w := by simp [getObj, Sem.run, hb, mobj]
  have hs : ∀ o' : Obj, (setObj b o').run P w = .ok () (w.putObj b o') := fun o' => by simp [setObj, Sem.run, hb, mobj, World.putObj]
  have e1 : (ents enc kv 0).toArray.toList = ents enc kv 0 := by simp
  have e2 := hk.find a kv w
  simp only [Instr.mapUpdate, Sem.run_bind, ht.run, Result.andThen, hg, mobj, hk.chk, e1, e2]
  cases hf : mfind kv a 0 with
  | none =>
    have h1 := mfind_none kv a 0 v hf
    have h2 : (ents enc kv 0).toArray.push ⟨enc a, v, kv.length⟩ = (ents enc (mput kv a v) 0).toArray := by
      rw [h1, ents_append]; simp [ents]
    simp only [hs, h2, h1, List.length_append, List.length_singleton]
  | some p =>
    obtain ⟨i, u⟩ := p
    obtain ⟨_, h2, h3, h4⟩ := mfind_some enc kv a 0 v i u hf
    rw [Nat.sub_zero] at h2 h4
    have hkey : (((ents enc kv 0).toArray[i]?).map (·.key)).getD (enc a) = enc a := by simp [ents_get, h2]
    have hmod : (ents enc kv 0).toArray.modify i (fun e => { e with key := enc a, val := v }) = (ents enc (mput kv a v) 0).toArray := by
      rw [h4]; apply Array.ext'; simp
    simp only [hkey, Instr.keyThatStays, hk.bits, if_true, Sem.run_bind, Sem.run_pure, Result.andThen, hs, hmod, h3]
theorem G_mapUpdate {t key elem : TypeId} {sz : Nat} {ag : Bool} [ht : Ty P t (.map key elem) sz ag] (enc : α → Value) [hk : KeyT P key enc] {x y z : Operand} {b : Nat} {kv : List (α × Value)} (a : α) {v : Value}
    (ho : o.op = .mapUpdate t x y z ∨ o.op = .insert t x y z) (hx : ev fs x = some (.map (some b))) (hy : ev fs y = some (enc a)) (hz : ev fs z = some v) (hd : o.dst = none) (hg : Goes ops fs o)
    (u : Upd L (.blk b (mobj enc kv)) (.blk b (mobj enc (mput kv a v))) L')
    (h : G n ds fs E L' (wpListIn (Wd ro) 0 P ops Q rest)) : G n ds fs E L (wpListIn (Wd ro) 0 P ops Q (o :: rest)) :=
  G_any hg (by rcases ho with ho | ho <;> (rw [ho]; intro c h; cases h)) fun a' w ha hw => by
    have hb : w.heap[b]? = some (mobj enc kv) := hw.own _ u.mem
    have e : (execOp a'.eval o).run P w = .ok .skip (w.putObj b (mobj enc (mput kv a v))) := by
      rcases ho with ho | ho <;> simp [execOp, ho, ha.eval hx, ha.eval hy, ha.eval hz, run_mapUpdate (t := t) (key := key) (elem := elem) a v hb, Result.andThen]
    rw [e]
    simp only [Oper.uponIn_skip, hd]
    exact h _ _ ha (hw.put u)
theorem V_lenM {x : Operand} {t : TypeId} {key elem : TypeId} {sz : Nat} {ag : Bool} [ht : Ty P t (.map key elem) sz ag] {b : Nat} (enc : α → Value) {kv : List (α × Value)} (ho : o.op = .call { callee := .builtin .len, args := #[x], argTypes := #[t] })
    (hx : ev fs x = some (.map (some b))) (hm : Res.blk b (mobj enc kv) ∈ L) (hl : kv.length ≤ 9223372036854775807) : Val P o fs E L (.int .i64 kv.length) :=
  ⟨(by rw [ho]; intro c h; cases h), fun n ds a' w ha hw => by
    have hb : w.heap[b]? = some (mobj enc kv) := hw.own _ hm
    have hg : (getObj b).run P w = .ok (mobj enc kv) w := by simp [getObj, Sem.run, hb, mobj]
    rw [mobj] at hg
    simp [execOp, ho, resolve, invoke, builtin, ha.eval hx, Builtin.len_, ht.run, hg, Result.andThen, ents_len, goInt]⟩

/-! ### The loop over a map -/
/-- An iterator over the map in block m; these entries have been handed out. -/
def miter (m k : Nat) (seen : List Nat) (c : Nat) : Obj := .mapIter (some m) k seen.toArray c
theorem G_rangeM {t key elem : TypeId} {sz : Nat} {ag : Bool} [ht : Ty P t (.map key elem) sz ag] (enc : α → Value) {x : Operand} {m : Nat} {kv : List (α × Value)} {d : Nat} (ho : o.op = .range t x) (hx : ev fs x = some (.map (some m)))
    (hm : Res.blk m (mobj enc kv) ∈ L) (hd : o.dst = some d) (hn : Nat.blt d n = true) (hg : Goes ops fs o)
    (h : ∀ b, G n ds ((d, .pointer (some ⟨b, 0, none⟩)) :: fs) E (.blk b (miter m kv.length [] kv.length) :: L) (wpListIn (Wd ro) 0 P ops Q rest)) : G n ds fs E L (wpListIn (Wd ro) 0 P ops Q (o :: rest)) :=
  G_any hg (by rw [ho]; intro c h; cases h) fun a w ha hw => by
    have hb : w.heap[m]? = some (mobj enc kv) := hw.own _ hm
    have hgo : (getObj m).run P w = .ok (mobj enc kv) w := by simp [getObj, Sem.run, hb, mobj]
    have e : (execOp a.eval o).run P w = .ok (.value (.pointer (some ⟨w.heap.size, 0, none⟩))) (w.alloc (miter m kv.length [] kv.length)) := by
      simp [execOp, ho, ha.eval hx, Instr.range, ht.run, hgo, mobj, miter, Result.andThen]
    rw [e]
    simp only [Oper.uponIn_value, hd]
    exact h w.heap.size _ _ (ha.put hn _) (hw.alloc _)
/-- The next entry, whichever it is: or all have been handed out. -/
theorem G_nextM {LL : Nat → List Res} (enc : α → Value) {x : Operand} {b m c d : Nat} {kv : List (α × Value)} {seen : List Nat} (ho : o.op = .next x false) (hx : ev fs x = some (.pointer (some ⟨b, 0, none⟩)))
    (hm : Res.blk m (mobj enc kv) ∈ L) (hc : kv.length ≤ c) (hd : o.dst = some d) (hn : Nat.blt d n = true) (hg : Goes ops fs o)
    (u : ∀ i, Upd L (.blk b (miter m kv.length seen c)) (.blk b (miter m kv.length (seen ++ [i]) kv.length)) (LL i))
    (h1 : (∀ i, i < kv.length → i ∈ seen) → G n ds ((d, .tuple #[.bool false]) :: fs) E L (wpListIn (Wd ro) 0 P ops Q rest))
    (h2 : ∀ i p, i ∉ seen → kv[i]? = some p → G n ds ((d, .tuple #[.bool true, enc p.1, p.2]) :: fs) E (LL i) (wpListIn (Wd ro) 0 P ops Q rest)) : G n ds fs E L (wpListIn (Wd ro) 0 P ops Q (o :: rest)) :=
  G_any hg (by rw [ho]; intro c h; cases h) fun a w ha hw => by
    have hb : w.heap[m]? = some (.map (ents enc kv 0).toArray kv.length) := hw.own _ hm
    have hr : w.heap[b]? = some (.mapIter (some m) kv.length seen.toArray c) := hw.own _ (u 0).mem
    have hold : ∀ e, e ∈ (ents enc kv 0).toArray.toList → e.born < kv.length := by
      intro e he
      obtain ⟨k, p, h1, rfl⟩ := ents_born enc kv 0 e (by simpa using he)
      have := (List.getElem?_eq_some_iff.1 h1).1
      simpa using this
    have hmem : ∀ e, e ∈ (leftOf (ents enc kv 0).toArray seen.toArray).toList ↔ e ∈ ents enc kv 0 ∧ e.born ∉ seen := by
      intro e
      simp [leftOf]
    rcases run_next_at (P := P) w o.type b m kv.length c seen.toArray _ _ hr hb hold hc with ⟨h0, hrun⟩ | ⟨e, he, w1, hw1, hrun⟩
    · have e : (execOp a.eval o).run P w = .ok (.value (.tuple #[.bool false])) w := by simp [execOp, ho, ha.eval hx, hrun, Result.andThen]
      rw [e]
      simp only [Oper.uponIn_value, hd]
      refine h1 ?_ _ _ (ha.put hn _) hw
      intro i hi
      refine Decidable.byContradiction fun hni => ?_
      have hmm := (hmem ⟨enc kv[i].1, kv[i].2, i⟩).2 ⟨List.mem_iff_getElem?.2 ⟨i, by rw [ents_get, List.getElem?_eq_getElem hi]; simp⟩, hni⟩
      have hz : (leftOf (ents enc kv 0).toArray seen.toArray).toList = [] := List.eq_nil_of_length_eq_zero (by simpa using h0)
      rw [hz] at hmm
      cases hmm
    · obtain ⟨he1, he2⟩ := (hmem e).1 he
      obtain ⟨k, p, hk, rfl⟩ := ents_born enc kv 0 e he1
      simp only [Nat.zero_add] at he2 hrun
      have e : (execOp a.eval o).run P w = .ok (.value (.tuple #[.bool true, enc p.1, p.2])) (ChangeMaps.setBlock w1 b (.mapIter (some m) kv.length (seen.toArray.push k) kv.length)) := by simp [execOp, ho, ha.eval hx, hrun, Result.andThen]
      rw [e]
      simp only [Oper.uponIn_value, hd]
      have hset : ChangeMaps.setBlock w1 b (.mapIter (some m) kv.length (seen.toArray.push k) kv.length) = w1.putObj b (miter m kv.length (seen ++ [k]) kv.length) := by
        simp [ChangeMaps.setBlock, World.putObj, miter]
      rw [hset]
      have hw' : St E L w1 := by rcases hw1 with rfl | rfl; exact hw; exact hw.drew _
      exact h2 k p he2 hk _ _ (ha.put hn _) (hw'.put (u k))
theorem V_entryM (enc : α → Value) {x : Operand} {b m i : Nat} {kv : List (α × Value)} {seen : List Nat} {p : α × Value} (ho : o.op = .entry x) (hx : ev fs x = some (.pointer (some ⟨b, 0, none⟩)))
    (hb : Res.blk b (miter m kv.length (seen ++ [i]) kv.length) ∈ L) (hm : Res.blk m (mobj enc kv) ∈ L) (hp : kv[i]? = some p) : Val P o fs E L (.tuple #[enc p.1, p.2]) :=
  ⟨(by rw [ho]; intro c h; cases h), fun n ds a w ha hw => by
    have h1 : w.heap[m]? = some (.map (ents enc kv 0).toArray kv.length) := hw.own _ hm
    have h2 : w.heap[b]? = some (.mapIter (some m) kv.length (seen.toArray.push i) kv.length) := by
      have := hw.own _ hb
      simpa [Res.blk, miter] using this
    have h3 : (⟨enc p.1, p.2, i⟩ : MapEntry) ∈ (ents enc kv 0).toArray.toList := by
      simp only [List.mem_iff_getElem?]
      exact ⟨i, by simp [ents_get, hp]⟩
    have h4 : (((ents enc kv 0).toArray.toList).map (·.born)).Nodup := by
      simp only [ents_borns]
      exact List.nodup_range'
    have hrun := run_entry_at (P := P) w b m kv.length seen.toArray _ _ ⟨enc p.1, p.2, i⟩ h2 h1 h3 h4
    simp [execOp, ho, ha.eval hx, hrun, Result.andThen]⟩
end rules
end Go.Proofs.Ytaoinojdijbhaaa
set_option linter.unusedSimpArgs false
set_option linter.unusedVariables false
set_option linter.unusedSectionVars false
namespace Go.Proofs.Ytaoinojdijbhaaa
open Go.RowKit

section rules
variable {P : Program} {ro : Option Nat} {n : Nat} {ds : List Deferred} {fs : List (Nat × Value)} {E : Env} {L L' : List Res} {ops : Array Oper} {Q : Exit → Act → World → Prop} {o : Oper} {rest : List Oper} {X : Act → World → Prop}
variable {T : Act → Fam → Prop} {π : List (Nat × Nat)} {i : Nat} {js : List (Env × List Res)}

theorem madeCells_one (zc : Value) (n : Nat) : madeCells #[zc] n = (List.replicate n zc).toArray := by
  apply Array.ext'
  simp [madeCells]
  apply List.ext_getElem
  · simp
  · intro i h1 h2
    simp [Nat.mod_one]
/-- make([]T, m). -/
theorem G_makeSlice {t e : TypeId} {sz : Nat} {ag : Bool} [ht : Ty P t (.slice e) sz ag] {z zc : Value} {bytes : Nat} [hi : Inf P e z 1 bytes] [hz : Zero P e z #[zc]] {x y : Operand} {m : Int} {d : Nat}
    (ho : o.op = .makeSlice t x y) (hx : ev fs x = some (.int .i64 m)) (hy : ev fs y = some (.int .i64 m)) (h0 : 0 ≤ m) (h1 : bytes * m ≤ 281474976710656) (h2 : m ≤ 9223372036854775807) (hd : o.dst = some d) (hn : Nat.blt d n = true) (hg : Goes ops fs o)
    (h : ∀ b, G n ds ((d, .slice (some ⟨b, 0, none⟩) m.toNat m.toNat) :: fs) E (.blk b (.cells (List.replicate m.toNat zc).toArray e (0, 0)) :: L) (wpListIn (Wd ro) 0 P ops Q rest)) : G n ds fs E L (wpListIn (Wd ro) 0 P ops Q (o :: rest)) :=
  G_any hg (by rw [ho]; intro c h; cases h) fun a w ha hw => by
    obtain ⟨inf, hi1, hi2, hi3, hi4, hi5⟩ := hi.inf
    have hzc : z.cells = #[zc] := hz.zc
    have hr := run_make (P := P) (w := w) t e inf z ht.und hi1 hi2 .i64 .i64 m m h0 (Int.le_refl _) (by rw [hi4]; exact h1) h2
    rw [hi3, hzc, Nat.mul_one, madeCells_one] at hr
    have e : (execOp a.eval o).run P w = .ok (.value (.slice (some ⟨w.heap.size, 0, none⟩) m.toNat m.toNat)) (w.alloc (.cells (List.replicate m.toNat zc).toArray e)) := by
      simp [execOp, ho, ha.eval hx, ha.eval hy, hr, Result.andThen]
    rw [e]
    simp only [Oper.uponIn_value, hd]
    exact h w.heap.size _ _ (ha.put hn _) (hw.alloc _)
theorem V_idxB {x y : Operand} {t e : TypeId} {d : TypeDesc} {sz sz' : Nat} {ag ag' : Bool} [ht : Ty P t (.slice e) sz' ag'] [he : Ty P e d sz ag] {b m c : Nat} {k : IntKind} {i : Int}
    (ho : o.op = .indexAddr t x y) (hx : ev fs x = some (.slice (some ⟨b, 0, none⟩) m c)) (hy : ev fs y = some (.int k i)) (h0 : 0 ≤ i) (h1 : i < m) : Val P o fs E L (.pointer (some ⟨b, i.toNat * sz, none⟩)) :=
  ⟨(by rw [ho]; intro c h; cases h), fun n ds a' w ha hw => by
    have hl : i.toNat < m := by omega
    have hni : ¬ i < 0 := by omega
    have e2 := addr_add b 0 (i.toNat * sz)
    rw [Nat.zero_add] at e2
    simp [execOp, ho, ha.eval hx, ha.eval hy, Instr.indexAt, asIntOf, ht.run, he.size, Result.andThen, h0, h1, e2]⟩
theorem V_idxB1 {x y : Operand} {t e : TypeId} {d : TypeDesc} {sz' : Nat} {ag ag' : Bool} [ht : Ty P t (.slice e) sz' ag'] [he : Ty P e d 1 ag] {b m c : Nat} {k : IntKind} {i : Int}
    (ho : o.op = .indexAddr t x y) (hx : ev fs x = some (.slice (some ⟨b, 0, none⟩) m c)) (hy : ev fs y = some (.int k i)) (h0 : 0 ≤ i) (h1 : i < m) : Val P o fs E L (.pointer (some ⟨b, i.toNat, none⟩)) := by
  have := V_idxB (P := P) (E := E) (L := L) (ht := ht) (he := he) ho hx hy h0 h1
  rwa [Nat.mul_one] at this
theorem V_idxB1n {x y : Operand} {t e : TypeId} {d : TypeDesc} {sz' : Nat} {ag ag' : Bool} [ht : Ty P t (.slice e) sz' ag'] [he : Ty P e d 1 ag] {b m c : Nat} {k : IntKind} {i : Nat}
    (ho : o.op = .indexAddr t x y) (hx : ev fs x = some (.slice (some ⟨b, 0, none⟩) m c)) (hy : ev fs y = some (.int k (i : Int))) (h1 : i < m) : Val P o fs E L (.pointer (some ⟨b, i, none⟩)) :=
  V_idxB1 (ht := ht) (he := he) ho hx hy (by omega) (by omega)
/-- A store of one cell anywhere. -/
theorem G_storeB {t : TypeId} {x y : Operand} {b off : Nat} {v : Value} {d : TypeDesc} {TT : TypeId} {l : List Value} {ag : Bool} [ht : Ty P t d 1 ag]
    (ho : o.op = .store t x y) (hx : ev fs x = some (.pointer (some ⟨b, off, none⟩))) (hy : ev fs y = some v) (hc : v.cells = #[v]) (hone : v.oneCell' = true)
    (hd : o.dst = none) (hg : Goes ops fs o) (hu : Upd L (.blk b (.cells l.toArray TT (0, 0))) (.blk b (.cells (l.set off v).toArray TT (0, 0))) L') (hl : off < l.length)
    (h : G n ds fs E L' (wpListIn (Wd ro) 0 P ops Q rest)) : G n ds fs E L (wpListIn (Wd ro) 0 P ops Q (o :: rest)) :=
  G_storeAt ho hx hy hc hone hd hg hu (by simpa using hl) (by simp) h
theorem F_storeB {t : TypeId} {x y : Operand} {b off : Nat} {v : Value} {d : TypeDesc} {TT : TypeId} {l : List Value} {ag : Bool} [ht : Ty P t d 1 ag]
    (h0 : ops[i]? = some o) (ho : o.op = .store t x y) (hx : ev fs x = some (.pointer (some ⟨b, off, none⟩))) (hy : ev fs y = some v) (hc : v.cells = #[v]) (hone : v.oneCell' = true)
    (hd : o.dst = none) (hg : Goes ops fs o) (hu : Upd L (.blk b (.cells l.toArray TT (0, 0))) (.blk b (.cells (l.set off v).toArray TT (0, 0))) L') (hl : off < l.length) (hj : Jok js E L')
    (h : GF n ds fs E L' (wpF P ops T (JL js) π)) : GF n ds fs E L (wpF P ops T (JL js) ((i, 4) :: π)) :=
  F_storeAt h0 ho hx hy hc hone hd hg hu (by simpa using hl) (by simp) hj h
/-- An array is shut for good: it is a slice that may be read. -/
theorem G.freezeB {b k sz : Nat} {TT : TypeId} {l : List Value} (d : Del L (.blk b (.cells l.toArray TT (0, 0))) L') (hl : l.length = k * sz) (h : ∀ E', E.Le E' → SlE E' sz (some ⟨b, 0, none⟩) k l → G n ds fs E' L' X) : G n ds fs E L X :=
  G.freeze d fun E' hE hok => h E' hE (SlE.lit hok hl)

/-! ### The loop over a string -/
theorem G_rangeStr {t : TypeId} {sz : Nat} {ag : Bool} [ht : Ty P t .string sz ag] {x : Operand} {s : List UInt8} {d : Nat} (ho : o.op = .range t x) (hx : ev fs x = some (.string (S s))) (hd : o.dst = some d) (hn : Nat.blt d n = true) (hg : Goes ops fs o)
    (h : ∀ b, G n ds ((d, .pointer (some ⟨b, 0, none⟩)) :: fs) E (.blk b (.stringIter (S s) 0) :: L) (wpListIn (Wd ro) 0 P ops Q rest)) : G n ds fs E L (wpListIn (Wd ro) 0 P ops Q (o :: rest)) :=
  G_any hg (by rw [ho]; intro c h; cases h) fun a w ha hw => by
    have e : (execOp a.eval o).run P w = .ok (.value (.pointer (some ⟨w.heap.size, 0, none⟩))) (w.alloc (.stringIter (S s) 0)) := by
      simp [execOp, ho, ha.eval hx, Instr.range, ht.run, Result.andThen]
    rw [e]
    simp only [Oper.uponIn_value, hd]
    exact h w.heap.size _ _ (ha.put hn _) (hw.alloc _)
/-- The string's end. -/
theorem G_nextStrEnd {x : Operand} {b d pos : Nat} {s : List UInt8} (ho : o.op = .next x true) (hx : ev fs x = some (.pointer (some ⟨b, 0, none⟩))) (hm : Res.blk b (.stringIter (S s) pos) ∈ L) (hp : s.length ≤ pos) (hd : o.dst = some d) (hn : Nat.blt d n = true) (hg : Goes ops fs o)
    (h : G n ds ((d, .tuple #[.bool false]) :: fs) E L (wpListIn (Wd ro) 0 P ops Q rest)) : G n ds fs E L (wpListIn (Wd ro) 0 P ops Q (o :: rest)) :=
  G_any hg (by rw [ho]; intro c h; cases h) fun a w ha hw => by
    have hb : w.heap[b]? = some (.stringIter (S s) pos) := hw.own _ hm
    have hgo : (getObj b).run P w = .ok (.stringIter (S s) pos) w := by simp [getObj, Sem.run, hb]
    have hn' : ¬ pos < (S s).size := by rw [S_size]; omega
    have e : (execOp a.eval o).run P w = .ok (.value (.tuple #[.bool false])) w := by
      simp [execOp, ho, ha.eval hx, Instr.next, hgo, Result.andThen, hn']
    rw [e]
    simp only [Oper.uponIn_value, hd]
    exact h _ _ (ha.put hn _) hw
/-- The next rune of a string: a plain byte, or something that is none. -/
theorem G_nextStr {LL : Nat → List Res} {x : Operand} {b d pos : Nat} {s : List UInt8} (ho : o.op = .next x true) (hx : ev fs x = some (.pointer (some ⟨b, 0, none⟩))) (hp : pos < s.length) (hd : o.dst = some d) (hn : Nat.blt d n = true) (hg : Goes ops fs o)
    (u : ∀ q, Upd L (.blk b (.stringIter (S s) pos)) (.blk b (.stringIter (S s) q)) (LL q))
    (h1 : s[pos].toNat < 128 → G n ds ((d, .tuple #[.bool true, .int .i64 pos, .int .i32 s[pos].toNat]) :: fs) E (LL (pos + 1)) (wpListIn (Wd ro) 0 P ops Q rest))
    (h2 : 128 ≤ s[pos].toNat → ∀ c q, 128 ≤ c → c ≤ 2147483647 → pos < q → G n ds ((d, .tuple #[.bool true, .int .i64 pos, .int .i32 (c : Nat)]) :: fs) E (LL q) (wpListIn (Wd ro) 0 P ops Q rest)) : G n ds fs E L (wpListIn (Wd ro) 0 P ops Q (o :: rest)) :=
  G_any hg (by rw [ho]; intro c h; cases h) fun a w ha hw => by
    have hb : w.heap[b]? = some (.stringIter (S s) pos) := hw.own _ (u 0).mem
    have hgo : (getObj b).run P w = .ok (.stringIter (S s) pos) w := by simp [getObj, Sem.run, hb]
    have hs : ∀ q, (setObj b (.stringIter (S s) q)).run P w = .ok () (w.putObj b (.stringIter (S s) q)) := fun q => by simp [setObj, Sem.run, hb, World.putObj]
    have hps : pos < (S s).size := by rw [S_size]; exact hp
    have e : (execOp a.eval o).run P w = .ok (.value (.tuple #[.bool true, .int .i64 pos, .int .i32 ((Utf8.decode (S s) pos).1 : Nat)])) (w.putObj b (.stringIter (S s) (pos + (Utf8.decode (S s) pos).2))) := by
      simp [execOp, ho, ha.eval hx, Instr.next, hgo, Result.andThen, hps, hs, goInt]
    rw [e]
    simp only [Oper.uponIn_value, hd]
    have hget : ((S s)[pos]'hps) = s[pos] := by simp [S, ByteArray.getElem_eq_getElem_data]; rfl
    by_cases hlt : s[pos].toNat < 128
    · have hdec := decode_ascii (S s) pos hps (by rw [hget]; exact hlt)
      rw [hget] at hdec
      rw [hdec]
      exact h1 hlt _ _ (ha.put hn _) (hw.put (u _))
    · have hdec := decode_high (S s) pos hps (by rw [hget]; omega)
      exact h2 (by omega) _ _ hdec.1 (decode_le (S s) pos) (by omega) _ _ (ha.put hn _) (hw.put (u _))
end rules
end Go.Proofs.Ytaoinojdijbhaaa
set_option linter.unusedSimpArgs false
set_option linter.unusedVariables false
set_option linter.unusedSectionVars false
namespace Go.Proofs.Ytaoinojdijbhaaa
open Go.RowKit

section rules
variable {P : Program} {ro : Option Nat} {n : Nat} {ds : List Deferred} {fs : List (Nat × Value)} {E : Env} {L L' : List Res} {ops : Array Oper} {Q : Exit → Act → World → Prop} {o : Oper} {rest : List Oper} {X : Act → World → Prop}

theorem V_buildArr {t e : TypeId} {m sz szt : Nat} {ag ag' : Bool} {td : TypeDesc} [ht : Ty P t (.array m e) szt ag] [he : Ty P e td sz ag'] {zc : List Value} [hz : Zero P t (.agg zc.toArray) zc.toArray] {ps : List (Nat × Operand)} {vs : List (Nat × Value)} {cells : List Value} (ho : o.op = .build t ps.toArray)
    (hx : evps fs ps = some vs) (hf : fillS sz zc vs = some cells) : Val P o fs E L (.agg cells.toArray) :=
  ⟨(by rw [ho]; intro c h; cases h), fun n ds a w ha _ => by
    have e1 := evps_eval ha ps vs hx
    have e2 := fillS_of vs zc cells hf
    have e3 : ((ps.toArray.map fun (i, x) => (i, a.eval x)) : Array (Nat × Value)) = vs.toArray := by
      rw [← e1]; simp
    simp only [execOp, ho, e3]
    simp only [Instr.build, Sem.run_bind, hz.zv, Result.andThen, ht.run, he.size, hz.zc, e2, Sem.run_pure]⟩
/-- An array in memory, sliced whole. -/
theorem V_slArr {t e : TypeId} {m sz szt : Nat} {ag ag' : Bool} {td : TypeDesc} [ht : Ty P t (.array m e) szt ag] [he : Ty P e td sz ag'] {x : Operand} {p : Addr}
    (ho : o.op = .slice t x none none none) (hx : ev fs x = some (.pointer (some p))) : Val P o fs E L (.slice (some p) m m) :=
  ⟨(by rw [ho]; intro c h; cases h), fun n ds a w ha _ => by
    have : p.add 0 = p := by simp [Addr.add]
    simp [execOp, ho, ha.eval hx, Instr.sliceAt, Instr.sureAddr, Instr.sliceBounds, ht.run, he.size, Result.andThen, this]⟩
/-- An array in memory, its first elements. -/
theorem V_slArrTo {t e : TypeId} {m sz szt : Nat} {ag ag' : Bool} {td : TypeDesc} [ht : Ty P t (.array m e) szt ag] [he : Ty P e td sz ag'] {x y : Operand} {p : Addr} {k : IntKind} {i : Int}
    (ho : o.op = .slice t x none (some y) none) (hx : ev fs x = some (.pointer (some p))) (hy : ev fs y = some (.int k i)) (h0 : 0 ≤ i) (h1 : i ≤ m) : Val P o fs E L (.slice (some p) i.toNat m) :=
  ⟨(by rw [ho]; intro c h; cases h), fun n ds a w ha _ => by
    have : p.add 0 = p := by simp [Addr.add]
    simp [execOp, ho, ha.eval hx, ha.eval hy, Instr.sliceAt, Instr.sureAddr, Instr.sliceBounds, Instr.sliceBound, asIntOf, h0, h1, ht.run, he.size, Result.andThen, this]⟩
/-- An element of an array that is a value. -/
theorem V_idxArr {t e : TypeId} {m szt : Nat} {ag : Bool} {td : TypeDesc} [ht : Ty P t (.array m e) szt ag] [he : Ty P e td 1 false] {x y : Operand} {cs : List Value} {k : IntKind} {i : Int} {v : Value}
    (ho : o.op = .index t x y) (hx : ev fs x = some (.agg cs.toArray)) (hy : ev fs y = some (.int k i)) (h0 : 0 ≤ i) (h1 : i < m) (hv : cs[i.toNat]? = some v) : Val P o fs E L v :=
  ⟨(by rw [ho]; intro c h; cases h), fun n ds a w ha _ => by
    simp [execOp, ho, ha.eval hx, ha.eval hy, Instr.index, asIntOf, h0, h1, ht.run, he.size, part, he.agg', Result.andThen, hv]⟩
/-- The place of an element of an array in memory. -/
theorem V_idxAddrArr {x y : Operand} {t e : TypeId} {d : TypeDesc} {m sz sz' : Nat} {ag ag' : Bool} [ht : Ty P t (.array m e) sz' ag'] [he : Ty P e d sz ag] {b off : Nat} {k : IntKind} {i : Int}
    (ho : o.op = .indexAddr t x y) (hx : ev fs x = some (.pointer (some ⟨b, off, none⟩))) (hy : ev fs y = some (.int k i)) (h0 : 0 ≤ i) (h1 : i < m) : Val P o fs E L (.pointer (some ⟨b, off + i.toNat * sz, none⟩)) :=
  ⟨(by rw [ho]; intro c h; cases h), fun n ds a' w ha hw => by
    have hl : i.toNat < m := by omega
    have hni : ¬ i < 0 := by omega
    have e2 := addr_add b off (i.toNat * sz)
    simp [execOp, ho, ha.eval hx, ha.eval hy, Instr.indexAt, Instr.sureAddr, asIntOf, ht.run, he.size, Result.andThen, h0, h1, e2]⟩
end rules
end Go.Proofs.Ytaoinojdijbhaaa
set_option linter.unusedSimpArgs false
set_option linter.unusedVariables false
set_option linter.unusedSectionVars false
namespace Go.Proofs.Ytaoinojdijbhaaa
open Go.RowKit

theorem St.conv {E : Env} {L : List Res} {r r' : Res} {w : World} (h : St E (r :: L) w) (hi : r'.ids = r.ids) (hok : r'.ok (fun b => w.heap[b]?)) : St E (r' :: L) w :=
  ⟨h.env, fun x hx => by rcases List.mem_cons.1 hx with rfl | hx; exact hok; exact h.own x (.tail _ hx), by simpa [hi] using h.nodup, fun b hb => h.apart b (by simpa [hi] using hb), h.os, h.out, h.tape⟩

theorem slOk.fresh {w : World} {e : TypeId} {sz k c : Nat} {xs r : List Value} (hl : xs.length = k * sz) (hk : k ≤ c) (hc : c ≤ maxLen) (hr : r.length = (c - k) * sz) :
    slOk e sz (some ⟨w.heap.size, 0, none⟩) k c xs (fun b => (w.alloc (.cells (xs ++ r).toArray e)).heap[b]?) :=
  ⟨hl, .inr ⟨w.heap.size, _, rfl, World.alloc_heap_new w _, hk, hc, by simp only [List.size_toArray, List.length_append, hl, hr, ← Nat.add_mul]; congr 1; omega, by simp [← hl]⟩⟩

theorem run_append_own2 {P : Program} {w : World} {t ty e : TypeId} {z : Value} {sz bytes : Nat} (ht : P.underlying t = some (.slice e)) (hi : Inf P e z sz bytes)
    {g k cap : Nat} {xs : List Value} (hok : slOk e sz (some ⟨g, 0, none⟩) k cap xs (fun b => w.heap[b]?)) {a2 : Option Addr} {m c : Nat} {ys : List Value} (hl : ys.length = m * sz)
    (hy : (a2 = none ∧ m = 0) ∨ ∃ p, a2 = some p ∧ ∀ j v, ys[j]? = some v → w.cell? (p.add j) = some v) (h1 : ∀ v, v ∈ ys → v.oneCell' = true) (hb : (k + m) * bytes ≤ 140737488355328) (h63 : k + m ≤ 9223372036854775807) :
    (∃ c' w', (Builtin.append_ #[t, t] ty #[.slice (some ⟨g, 0, none⟩) k cap, .slice a2 m c]).run P w = .ok (.slice (some ⟨g, 0, none⟩) (k + m) c') w' ∧ slOk e sz (some ⟨g, 0, none⟩) (k + m) c' (xs ++ ys) (fun b => w'.heap[b]?) ∧ c' = cap ∧
      w.heap.size ≤ w'.heap.size ∧ w'.os = w.os ∧ w'.output = w.output ∧ w'.tape = w.tape ∧ (∀ b, b ≠ g → b < w.heap.size → w'.heap[b]? = w.heap[b]?)) ∨
    (∃ c' o, (Builtin.append_ #[t, t] ty #[.slice (some ⟨g, 0, none⟩) k cap, .slice a2 m c]).run P w = .ok (.slice (some ⟨w.heap.size, 0, none⟩) (k + m) c') (w.drew.alloc o) ∧
      slOk e sz (some ⟨w.heap.size, 0, none⟩) (k + m) c' (xs ++ ys) (fun b => (w.drew.alloc o).heap[b]?)) := by
  obtain ⟨i, hi1, hi2, rfl, rfl, hi5⟩ := hi.inf
  have hok0 := hok
  obtain ⟨hl0, h | ⟨g', cur, hg', hg, hnc, hcm, hcs, htake⟩⟩ := hok
  · cases h.1
  cases hg'
  have hlen : (xs ++ ys).length = (k + m) * i.size := by rw [List.length_append, hl0, hl, Nat.add_mul]
  rcases hy with ⟨rfl, rfl⟩ | ⟨p, rfl, hy⟩
  · have hys : ys = [] := List.eq_nil_of_length_eq_zero (by simpa using hl)
    subst hys
    refine .inl ⟨cap, w, ?_, by simpa using hok0, rfl, Nat.le_refl _, rfl, rfl, rfl, fun _ _ _ => rfl⟩
    have := run_append_sl0 (P := P) (w := w) (t := t) (ty := ty) (c := c) ht hi hok0
    simpa using this
  · by_cases hroom : k + m ≤ cap
    · left
      have hfit : k * i.size + ys.length ≤ cur.size := by rw [hl, hcs, ← Nat.add_mul]; exact Nat.mul_le_mul_right _ hroom
      have hr := run_append_room (P := P) w t ty e i ht hi1 g k cap cur hg p m c ys hl hy h1 hroom hfit
      refine ⟨cap, _, hr, ⟨hlen, .inr ⟨g, _, rfl, setRow_heap w g cur _ e _ hg, hroom, hcm, ?_, ?_⟩⟩, rfl, by simp, rfl, rfl, rfl, fun b hne _ => setRow_other w g b _ hne⟩
      · simp only [List.size_toArray, List.length_append, List.length_take, List.length_drop, Array.length_toList]
        omega
      · rw [htake, ← hlen]
        exact List.take_left
    · right
      have holds : ∀ j u, xs[j]? = some u → w.cell? ((⟨g, 0, none⟩ : Addr).add j) = some u := hok0.owns.cells (g := g) rfl
      have hr := run_append_grow (P := P) w t ty e i z ht hi1 hi2 ⟨g, 0, none⟩ k cap xs hl0 holds p m c ys hl hy (by omega) (by omega) (growslice_fits (by omega) hb)
      have hge := grownCap_ge w (k + m) cap e
      refine ⟨_, _, hr, ⟨hlen, .inr ⟨_, _, rfl, World.alloc_heap_new w.drew _, hge, grownCap_le_maxLen w (k + m) cap e (by simp only [maxLen]; omega), ?_, ?_⟩⟩⟩
      · simp only [Array.size_append, List.size_toArray, size_zeroCells, hi5, hl0, hl, ← Nat.add_mul]
        congr 1
        omega
      · simp only [Array.toList_append, List.append_assoc]
        rw [← List.append_assoc, ← hlen]
        exact List.take_left
section
variable {P : Program} {ro : Option Nat} {n : Nat} {ds : List Deferred} {fs : List (Nat × Value)} {E : Env} {L : List Res} {ops : Array Oper} {T : Act → Fam → Prop} {π : List (Nat × Nat)} {i : Nat} {o : Oper} {J : World → Prop}
/-- The empty slice written out, in a region that draws its order. -/
theorem F_lit0Z {t e : TypeId} {td : TypeDesc} {sz sz' : Nat} {ag ag' : Bool} [ht : Ty P t (.slice e) sz' ag'] [he : Ty P e td sz ag] {z : Value} {zc : Array Value} [hz : Zero P e z zc] {d : Nat}
    (h0 : ops[i]? = some o) (ho : o.op = .buildSlice t 0 #[]) (hd : o.dst = some d) (hn : Nat.blt d n = true) (hg : Goes ops fs o)
    (h : ∀ b E', E.Le E' → SlE E' sz (some ⟨b, 0, none⟩) 0 [] → GF n ds ((d, .slice (some ⟨b, 0, none⟩) 0 0) :: fs) E' L (wpF P ops T J π)) : GF n ds fs E L (wpF P ops T J ((i, 2) :: π)) :=
  F_mk (val := fun b => .slice (some ⟨b, 0, none⟩) 0 0) (obj := .cells #[] e) h0 (fun a ha w => by
    simp [execOp, ho, Instr.buildSlice, ht.run, he.size, hz.zv, hz.zc, Result.andThen, newRow]
    rw [show Array.range 0 = #[] by decide]
    simp [Instr.fill]) hd hn hg fun b hb => by
    have := h b (E.blk b (.cells #[] e)) (Env.blk_le hb) ⟨by simp, .inr ⟨_, rfl, .inr rfl, fun j v hj => by simp at hj⟩⟩
    unfold GF at this ⊢
    rw [Fam.shut hb]
    exact this
/-- append onto a full slice; what comes out is the call's own. -/
theorem F_appendO {s x : Operand} {t e : TypeId} {d : Nat} {sz' : Nat} {ag' : Bool} {z : Value} {sz bytes : Nat} [ht : Ty P t (.slice e) sz' ag'] [hi : Inf P e z sz bytes] {a a2 : Option Addr} {k m c2 : Nat} {xs ys : List Value}
    (h0 : ops[i]? = some o) (ho : o.op = .call { callee := .builtin .append, args := #[s, x], argTypes := #[t, t] }) (hs : ev fs s = some (.slice a k k)) (hx : ev fs x = some (.slice a2 m c2)) (hr1 : SlE E sz a k xs) (hr2 : SlE E sz a2 m ys)
    (hm : 0 < m) (hb : (k + m) * bytes ≤ 140737488355328) (h63 : k + m ≤ 9223372036854775807) (hd : o.dst = some d) (hn : Nat.blt d n = true) (hg : Goes ops fs o)
    (h : ∀ b c', GF n ds ((d, .slice (some ⟨b, 0, none⟩) (k + m) c') :: fs) E (.sl e sz (some ⟨b, 0, none⟩) (k + m) c' (xs ++ ys) :: L) (wpF P ops T J π)) : GF n ds fs E L (wpF P ops T J ((i, 3) :: π)) := fun a0 ha =>
  ⟨o, h0, by
    rw [if_pos (hg.wanted ha)]
    intro M w hw
    obtain ⟨p, rfl, hy⟩ : ∃ p, a2 = some p ∧ ∀ j v, ys[j]? = some v → w.cell? (p.add j) = some v := by
      rcases hr2.2 with ⟨_, h3⟩ | ⟨p, h3, _, h5⟩
      · omega
      · exact ⟨p, h3, fun j v hj => Env.cell_st (h5 j v hj) hw⟩
    obtain ⟨i', hi1, hi2, rfl, rfl, hi5⟩ := hi.inf
    have key : ∃ c', k + m ≤ c' ∧ c' ≤ maxLen ∧ (Builtin.append_ #[t, t] o.type #[.slice a k k, .slice (some p) m c2]).run P w = .ok (.slice (some ⟨w.heap.size, 0, none⟩) (k + m) c') (w.drew.alloc (.cells ((xs ++ ys) ++ (Builtin.zeroCells z.cells (c' - (k + m))).toList).toArray e)) := by
      rcases hr1.2 with ⟨rfl, rfl⟩ | ⟨q, rfl, _, hq⟩
      · have hx0 : xs = [] := List.eq_nil_of_length_eq_zero (by simpa using hr1.1)
        subst hx0
        have hr := run_append_nil (P := P) w t o.type e i' z ht.und hi1 hi2 p m c2 ys hr2.1 hy (by omega) (by omega) (by simp only [Nat.zero_add] at hb; omega)
        have hge := grownCap_ge w m 0 e
        refine ⟨grownCap w m 0 e, by omega, grownCap_le_maxLen w m 0 e (by simp only [maxLen]; omega), ?_⟩
        rw [hr]
        simp
        congr 2
        apply Array.ext'
        simp
      · have hr := run_append_grow (P := P) w t o.type e i' z ht.und hi1 hi2 q k k xs hr1.1 (fun j v hj => Env.cell_st (hq j v hj) hw) p m c2 ys hr2.1 hy (by omega) (by omega) (growslice_fits (by omega) hb)
        have hge := grownCap_ge w (k + m) k e
        refine ⟨grownCap w (k + m) k e, hge, grownCap_le_maxLen w (k + m) k e (by simp only [maxLen]; omega), ?_⟩
        rw [hr]
        simp
        congr 2
        apply Array.ext'
        simp
    obtain ⟨c', hc1, hc2, hrun⟩ := key
    unfold Steps
    have e1 : (execOp a0.eval o).run P w = .ok (.value (.slice (some ⟨w.heap.size, 0, none⟩) (k + m) c')) (w.drew.alloc (.cells ((xs ++ ys) ++ (Builtin.zeroCells z.cells (c' - (k + m))).toList).toArray e)) := by
      simp only [execOp, ho, resolve, invoke, builtin, ha.eval hs, ha.eval hx, hrun, Result.andThen, Sem.run_bind, Sem.run_pure, List.map_toArray, List.map_cons, List.map_nil]
    rw [e1]
    have s1 := (hw.drew (w.drawn + 1)).alloc (.cells ((xs ++ ys) ++ (Builtin.zeroCells z.cells (c' - (k + m))).toList).toArray e)
    have hok := slOk.fresh (w := w.drew) (e := e) (sz := i'.size) (k := k + m) (c := c') (xs := xs ++ ys) (r := (Builtin.zeroCells z.cells (c' - (k + m))).toList) (by rw [List.length_append, hr1.1, hr2.1, Nat.add_mul]) hc1 hc2 (by simp [size_zeroCells, hi5])
    have s2 : St E (.sl e i'.size (some ⟨w.heap.size, 0, none⟩) (k + m) c' (xs ++ ys) :: (M ++ L)) (w.drew.alloc (.cells ((xs ++ ys) ++ (Builtin.zeroCells z.cells (c' - (k + m))).toList).toArray e)) := s1.conv rfl hok
    refine ⟨Fam.st E (.sl e i'.size (some ⟨w.heap.size, 0, none⟩) (k + m) c' (xs ++ ys) :: L), fun w' ⟨M', h'⟩ => ⟨M' ++ [_], by show St E ((M' ++ [_]) ++ L) w'; rw [List.append_assoc]; exact h'⟩, s2.perm List.perm_middle.symm, ?_⟩
    rw [hd]
    exact h _ c' _ (ha.put hn _)⟩
/-- append onto a slice of the call's own; where it does not grow it is the same block. -/
theorem F_append2 {s x : Operand} {t e : TypeId} {d : Nat} {sz' : Nat} {ag' : Bool} {z : Value} {sz bytes : Nat} [ht : Ty P t (.slice e) sz' ag'] [hi : Inf P e z sz bytes] {g : Nat} {a2 : Option Addr} {k cap m c2 : Nat} {xs ys : List Value} {L' : Nat → Nat → List Res}
    (h0 : ops[i]? = some o) (ho : o.op = .call { callee := .builtin .append, args := #[s, x], argTypes := #[t, t] }) (hs : ev fs s = some (.slice (some ⟨g, 0, none⟩) k cap)) (hx : ev fs x = some (.slice a2 m c2)) (hr2 : SlE E sz a2 m ys) (h1 : ∀ v, v ∈ ys → v.oneCell' = true)
    (hb : (k + m) * bytes ≤ 140737488355328) (h63 : k + m ≤ 9223372036854775807) (hd : o.dst = some d) (hn : Nat.blt d n = true) (hg : Goes ops fs o)
    (u : ∀ b' c', Upd L (.sl e sz (some ⟨g, 0, none⟩) k cap xs) (.sl e sz (some ⟨b', 0, none⟩) (k + m) c' (xs ++ ys)) (L' b' c'))
    (h : ∀ b c' N, GF n ds ((d, .slice (some ⟨b, 0, none⟩) (k + m) c') :: fs) E (L' b c' ++ N) (wpF P ops T J π)) : GF n ds fs E L (wpF P ops T J ((i, 3) :: π)) := fun a0 ha =>
  ⟨o, h0, by
    rw [if_pos (hg.wanted ha)]
    intro M w hw
    have hok : slOk e sz (some ⟨g, 0, none⟩) k cap xs (fun b => w.heap[b]?) := hw.own _ (List.mem_append.2 (.inr (u g cap).mem))
    have hy : (a2 = none ∧ m = 0) ∨ ∃ p, a2 = some p ∧ ∀ j v, ys[j]? = some v → w.cell? (p.add j) = some v := by
      rcases hr2.2 with h3 | ⟨p, h3, _, h5⟩
      · exact .inl h3
      · exact .inr ⟨p, h3, fun j v hj => Env.cell_st (h5 j v hj) hw⟩
    have hruns := run_append_own2 (P := P) (w := w) (ty := o.type) ht.und hi hok (c := c2) hr2.1 hy h1 hb h63
    have hmap : ∀ (r : Value) w', (Builtin.append_ #[t, t] o.type #[.slice (some ⟨g, 0, none⟩) k cap, .slice a2 m c2]).run P w = .ok r w' → (execOp a0.eval o).run P w = .ok (.value r) w' := fun r w' hrun => by
      simp [execOp, ho, resolve, invoke, builtin, ha.eval hs, ha.eval hx, hrun, Result.andThen]
    unfold Steps
    rcases hruns with ⟨c', w', hrun, hok', rfl, hsz, hos, hout, htape, hkeep⟩ | ⟨c', ob, hrun, hok'⟩
    · rw [hmap _ _ hrun]
      obtain ⟨M1, p1, p2⟩ := (u g c').perm
      have hback : ∀ h, slOk e sz (some ⟨g, 0, none⟩) (k + m) c' (xs ++ ys) h → slOk e sz (some ⟨g, 0, none⟩) k c' xs h := by
        rintro hh ⟨q1, q2 | ⟨g', cur, q2, q3, q4, q5, q6, q7⟩⟩
        · cases q2.1
        · cases q2
          refine ⟨hok.1, .inr ⟨g, cur, rfl, q3, by omega, q5, q6, ?_⟩⟩
          have : (cur.toList.take ((k + m) * sz)).take (k * sz) = (xs ++ ys).take (k * sz) := by rw [q7]
          rw [List.take_take, Nat.min_eq_left (Nat.mul_le_mul_right _ (by omega)), ← hok.1, List.take_left] at this
          rw [← hok.1]; exact this
      refine ⟨Fam.st E (L' g c'), fun w2 ⟨M', h'⟩ => ⟨M', ?_⟩, ?_, ?_⟩
      · have h2 : St E (.sl e sz (some ⟨g, 0, none⟩) (k + m) c' (xs ++ ys) :: (M' ++ M1)) w2 := h'.perm ((p2.append_left M').trans List.perm_middle)
        have h3 : St E (.sl e sz (some ⟨g, 0, none⟩) k c' xs :: (M' ++ M1)) w2 := h2.conv rfl (hback _ (h2.own _ (.head _)))
        exact h3.perm (List.perm_middle.symm.trans (p1.symm.append_left M'))
      · refine hw.update (Upd.app M (u g c')) hsz (fun b hb' hlt => hkeep b (fun he => hb' (by simp [Res.sl, he])) hlt) hok' (fun b hb' => ?_) (by simp [Res.sl]) hos hout htape
        simp only [Res.sl, Option.map_some, Option.toList_some, List.mem_singleton] at hb' ⊢
        subst hb'
        refine .inl ⟨rfl, ?_⟩
        obtain ⟨_, q | ⟨g', cur, q2, q3, _⟩⟩ := hok'
        · cases q.1
        · cases q2; exact (Array.getElem?_eq_some_iff.1 q3).1
      · rw [hd]
        have := h g c' [] _ (ha.put hn _)
        rwa [List.append_nil] at this
    · rw [hmap _ _ hrun]
      obtain ⟨M1, p1, p2⟩ := (u w.heap.size c').perm
      have s1 := (hw.drew (w.drawn + 1)).alloc ob
      have s2 : St E (.sl e sz (some ⟨w.heap.size, 0, none⟩) (k + m) c' (xs ++ ys) :: (M ++ L)) (w.drew.alloc ob) := s1.conv rfl hok'
      refine ⟨Fam.st E (L' w.heap.size c' ++ [.sl e sz (some ⟨g, 0, none⟩) k cap xs]), fun w2 ⟨M', h'⟩ => ⟨.sl e sz (some ⟨w.heap.size, 0, none⟩) (k + m) c' (xs ++ ys) :: M', ?_⟩, ?_, ?_⟩
      · show St E ((_ :: M') ++ L) w2
        refine h'.perm ?_
        refine (((p2.append_right _).append_left M').trans ?_)
        refine List.perm_middle.trans ?_
        refine List.Perm.cons _ (List.Perm.append_left M' ?_)
        exact List.perm_append_comm.trans p1.symm
      · show St E (M ++ (L' w.heap.size c' ++ _)) _
        refine s2.perm ?_
        refine (List.Perm.cons _ (p1.append_left M)).trans ?_
        refine List.perm_middle.symm.trans (List.Perm.append_left M ?_)
        have hq : (.sl e sz (some ⟨w.heap.size, 0, none⟩) (k + m) c' (xs ++ ys) :: .sl e sz (some ⟨g, 0, none⟩) k cap xs :: M1 : List Res).Perm (.sl e sz (some ⟨w.heap.size, 0, none⟩) (k + m) c' (xs ++ ys) :: (M1 ++ [.sl e sz (some ⟨g, 0, none⟩) k cap xs])) := List.Perm.cons _ (List.perm_append_comm (l₁ := [_]) (l₂ := M1))
        exact hq.trans (p2.symm.append_right _)
      · rw [hd]
        exact h _ c' _ _ (ha.put hn _)⟩
end
section
variable {P : Program} {ro : Option Nat} {n : Nat} {ds : List Deferred} {fs : List (Nat × Value)} {E : Env} {L : List Res} {ops : Array Oper} {Q : Exit → Act → World → Prop} {rest : List Oper} {o : Oper}
/-- append onto a full slice, in order; it may be that nothing is added. -/
theorem G_appendZ {s x : Operand} {t e : TypeId} {d : Nat} {sz' : Nat} {ag' : Bool} {z : Value} {sz bytes : Nat} [ht : Ty P t (.slice e) sz' ag'] [hi : Inf P e z sz bytes] {a a2 : Option Addr} {k m c2 : Nat} {xs ys : List Value}
    (ho : o.op = .call { callee := .builtin .append, args := #[s, x], argTypes := #[t, t] }) (hs : ev fs s = some (.slice a k k)) (hx : ev fs x = some (.slice a2 m c2)) (hr1 : SlE E sz a k xs) (hr2 : SlE E sz a2 m ys)
    (hb : (k + m) * bytes ≤ 140737488355328) (h63 : k + m ≤ 9223372036854775807) (hd : o.dst = some d) (hn : Nat.blt d n = true) (hg : Goes ops fs o)
    (h : ∀ a' c' E', E.Le E' → SlE E' sz a' (k + m) (xs ++ ys) → k + m ≤ c' → G n ds ((d, .slice a' (k + m) c') :: fs) E' L (wpListIn (Wd ro) 0 P ops Q rest)) : G n ds fs E L (wpListIn (Wd ro) 0 P ops Q (o :: rest)) :=
  G_any hg (by rw [ho]; intro c h; cases h) fun a0 w ha hw => by
    by_cases hm : m = 0
    · subst hm
      have hys : ys = [] := List.eq_nil_of_length_eq_zero (by simpa using hr2.1)
      subst hys
      obtain ⟨i, hi1, hi2, rfl, rfl, hi5⟩ := hi.inf
      have hrun : (Builtin.append_ #[t, t] o.type #[.slice a k k, .slice a2 0 c2]).run P w = .ok (.slice a k k) w := by
        rcases hr1.2 with ⟨rfl, rfl⟩ | ⟨q, rfl, _, _⟩ <;> rcases hr2.2 with ⟨rfl, _⟩ | ⟨q2, rfl, _, _⟩ <;>
          simp [Builtin.append_, run_underlying ht.und, sizeOf, typeInfo, hi1, Builtin.lenOf, Builtin.firstCells, storeCells, loadCells, loadCellsFrom, Result.andThen]
      have e1 : (execOp a0.eval o).run P w = .ok (.value (.slice a k k)) w := by
        simp [execOp, ho, resolve, invoke, builtin, ha.eval hs, ha.eval hx, hrun, Result.andThen]
      rw [e1]
      simp only [Oper.uponIn_value, hd]
      exact h a k E (.refl _) (by simpa using hr1) (Nat.le_refl _) _ _ (ha.put hn _) hw
    · have q1 : ∃ p, a2 = some p ∧ ∀ j v, ys[j]? = some v → w.cell? (p.add j) = some v := by
        rcases hr2.2 with ⟨_, h3⟩ | ⟨p, h3, _, h5⟩
        · omega
        · exact ⟨p, h3, fun j v hj => Env.cell_st (h5 j v hj) hw⟩
      obtain ⟨p, rfl, hy⟩ := q1
      have q2 : (a = none ∧ k = 0) ∨ ∃ p, a = some p ∧ ∀ j v, xs[j]? = some v → w.cell? (p.add j) = some v := by
        rcases hr1.2 with h3 | ⟨p, h3, _, h5⟩
        · exact .inl h3
        · exact .inr ⟨p, h3, fun j v hj => Env.cell_st (h5 j v hj) hw⟩
      obtain ⟨c', r, hc', hrun⟩ := run_append_fresh (P := P) (w := w) (ty := o.type) ht.und hi hr1.1 q2 (c := c2) hr2.1 hy (by omega) hb h63
      have e1 : (execOp a0.eval o).run P w = .ok (.value (.slice (some ⟨w.heap.size, 0, none⟩) (k + m) c')) (w.drew.alloc (.cells ((xs ++ ys).toArray ++ r) e)) := by
        simp [execOp, ho, resolve, invoke, builtin, ha.eval hs, ha.eval hx, hrun, Result.andThen]
      rw [e1]
      simp only [Oper.uponIn_value, hd]
      have s1 := (hw.drew (w.drawn + 1)).alloc (.cells ((xs ++ ys).toArray ++ r) e)
      obtain ⟨E', g1, g2, g3⟩ := s1.freeze
      have g4 : SlE E' sz (some ⟨w.heap.size, 0, none⟩) (k + m) (xs ++ ys) := SlE.pre (r := r.toList) (T := e) (fz := (0, 0)) (by simpa using g3) (by rw [List.length_append, hr1.1, hr2.1, Nat.add_mul])
      exact h _ c' E' g1 g4 hc' _ _ (ha.put hn _) g2
end
end Go.Proofs.Ytaoinojdijbhaaa
set_option linter.unusedSimpArgs false
set_option linter.unusedVariables false
set_option linter.unusedSectionVars false
namespace Go.Proofs.Ytaoinojdijbhaaa
open Go.RowKit
section
variable {P : Program} {ro : Option Nat} {n : Nat} {ds : List Deferred} {fs : List (Nat × Value)} {E : Env} {L : List Res} {ops : Array Oper} {T : Act → Fam → Prop} {π : List (Nat × Nat)} {i : Nat} {o : Oper} {J : World → Prop}
theorem F_callvM {k : FuncId} [Ent P k] {args : Array Value} {d : Nat} {r : Value} (h0 : ops[i]? = some o) (ht : Goesto fs o k args) (hd : o.dst = some d) (hn : Nat.blt d n = true) (hg : Goes ops fs o)
    (hc : ∀ M, CallV P k args E (M ++ L) r) (h : GF n ds ((d, r) :: fs) E L (wpF P ops T J π)) : GF n ds fs E L (wpF P ops T J ((i, 3) :: π)) := fun a ha =>
  ⟨o, h0, by
    rw [if_pos (hg.wanted ha)]
    exact fun M w hw => by
      unfold Steps
      rw [ht.run ha]
      exact (hc M w hw).mono fun e w' ⟨he, hs⟩ => ⟨r, he, Fam.st E L, fun _ h => h, hs, by rw [hd]; exact h _ (ha.put hn r)⟩⟩
end
section
variable {P : Program} {fs : List (Nat × Value)} {E E0 : Env} {L : List Res} {o : Oper}
theorem V_fieldAddrX {t ft : TypeId} {x : Operand} {i off sz' : Nat} {d : TypeDesc} {sz : Nat} {ag : Bool} [hf : Fld P t i off ft] [hft : Ty P ft d sz ag] {a : Option Addr} {k m : Nat} {vals : List Value} (ho : o.op = .fieldAddr t x i) (hx : ev fs x = some (.pointer (some (elemAt a k)))) (hr : SlE E0 sz' a m vals) (hm : 0 < m) (hs : sz ≠ 0) :
    Val P o fs E L (.pointer (some (elemAt a (k + off)))) := by
  rcases hr.2 with ⟨_, h0⟩ | ⟨⟨b, o', sp⟩, rfl, h1, _⟩
  · omega
  · rcases h1 with h1 | h1
    · simp only at h1
      subst h1
      have e1 : elemAt (some ⟨b, o', none⟩) k = ⟨b, o' + k, none⟩ := addr_add b o' k
      have e2 : elemAt (some ⟨b, o', none⟩) (k + off) = ⟨b, o' + k + off, none⟩ := by rw [elemAt, Option.getD_some, addr_add, Nat.add_assoc]
      rw [e1] at hx
      rw [e2]
      exact V_fieldAddr ho hx hs
    · omega
end
end Go.Proofs.Ytaoinojdijbhaaa
