/-
  Rules and contracts, packed: Sep29, Sep31, A1, A2, A3, A4, A5, A6, A7, A8.
-/
import Derived.Laws.CopyRow
import Derived.Laws.IdiomCopy
import Derived.Lib.MakeNoZero
import Derived.Test.YthcfakmmomfcaaaDoorQ3
set_option maxHeartbeats 1000000
namespace Go.Proofs.YthcfakmmomfcaaaDoor
open Go.RowKit

section rules
variable {P : Program} {ro : Option Nat} {n : Nat} {ds : List Deferred} {fs : List (Nat × Value)} {E : Env} {L : List Res} {ops : Array Oper} {Q : Exit → Act → World → Prop} {rest : List Oper} {o : Oper}
theorem Rd.more {sz m : Nat} {a : Option Addr} {vals : List Value} (r : Res) (h : Rd E L sz a m vals) : Rd E (r :: L) sz a m vals := ⟨h.1, fun w hw => h.2 w hw.drop⟩
theorem Rd.env {E' : Env} {sz m : Nat} {a : Option Addr} {vals : List Value} (h : Rd E L sz a m vals) (hE : E.Le E') : Rd E' L sz a m vals := ⟨h.1, fun w hw => h.2 w (hw.weaken hE)⟩
theorem V_cap {t e : TypeId} {sz : Nat} {ag : Bool} [ht : Ty P t (.slice e) sz ag] {x : Operand} {a : Option Addr} {m c : Nat} (ho : o.op = .call { callee := .builtin .cap, args := #[x], argTypes := #[t] }) (hx : ev fs x = some (.slice a m c)) : Val P o fs E L (.int .i64 c) :=
  ⟨(by rw [ho]; intro c h; cases h), fun n ds a' w ha _ => by simp [execOp, ho, ha.eval hx, resolve, invoke, builtin, Builtin.cap_, ht.run, goInt]⟩
theorem run_copyB {w : World} {t u e ty : TypeId} {z : Value} {bytes : Nat} (ht : P.underlying t = some (.slice e)) (hi : Inf P e z 1 bytes) {b off dl dc m c : Nat} {T : TypeId} {cs xs : List Value} {a : Option Addr}
    (hb : w.heap[b]? = some (.cells cs.toArray T (0, 0))) (hl : xs.length = m) (hr : (a = none ∧ m = 0) ∨ ∃ p, a = some p ∧ ∀ j v, xs[j]? = some v → w.cell? (p.add j) = some v) (h1 : ∀ v, v ∈ xs → v.oneCell' = true) (hfit : off + min m dl ≤ cs.length) :
    ∃ w', (Builtin.copy_ #[t, u] ty #[.slice (some ⟨b, off, none⟩) dl dc, .slice a m c]).run P w = .ok (.int .i64 ((min m dl : Nat) : Int)) w' ∧ w'.heap[b]? = some (.cells (cs.take off ++ xs.take (min m dl) ++ cs.drop (off + min m dl)).toArray T (0, 0)) ∧
      w'.heap.size = w.heap.size ∧ w'.os = w.os ∧ w'.output = w.output ∧ w'.tape = w.tape ∧ ∀ k, k ≠ b → w'.heap[k]? = w.heap[k]? := by
  obtain ⟨i, hi1, _, hs1, _⟩ := hi.inf
  have hs : (P.info? e).map (·.size) = some 1 := by rw [hi1]; simp [hs1]
  by_cases h0 : min m dl = 0
  · have hrun := run_copy_none (P := P) w t u ty e (some ⟨b, off, none⟩) a dl dc m c ht hs h0
    refine ⟨w, by rw [h0]; exact hrun, ?_, rfl, rfl, rfl, rfl, fun _ _ => rfl⟩
    rw [h0, List.take_zero, List.append_nil, Nat.add_zero, List.take_append_drop]
    exact hb
  · rcases hr with ⟨_, h2⟩ | ⟨p, rfl, hp⟩
    · exact absurd (by rw [h2]; exact Nat.zero_min _) h0
    · have hxl : (xs.take (min m dl)).length = min m dl := by rw [List.length_take, hl]; exact Nat.min_eq_left (Nat.min_le_left _ _)
      have hrun := run_copy_row (P := P) w t u ty e b off dl dc p m c cs.toArray T (xs.take (min m dl)) ht hs hb hxl (fun j v hj => hp j v (by
        have hj2 : j < min m dl := by rw [← hxl]; exact (List.getElem?_eq_some_iff.1 hj).1
        rwa [List.getElem?_take_of_lt hj2] at hj)) (by rw [hxl]; simpa using hfit) (fun v hv => h1 v (List.mem_of_mem_take hv))
      rw [hxl] at hrun
      exact ⟨_, hrun, setRow_heap w b _ _ T _ hb, by simp, rfl, rfl, rfl, fun k hk => setRow_other w b k _ hk⟩

/-- copy into cells of the call's own. -/
theorem G_copyB {x y : Operand} {t u e : TypeId} {d : Nat} {sz' : Nat} {ag' : Bool} {z : Value} {bytes : Nat} [ht : Ty P t (.slice e) sz' ag'] [hi : Inf P e z 1 bytes] {b off dl dc m c : Nat} {T : TypeId} {cs xs : List Value} {a : Option Addr} {L' : List Res}
    (ho : o.op = .call { callee := .builtin .copy, args := #[x, y], argTypes := #[t, u] }) (hx : ev fs x = some (.slice (some ⟨b, off, none⟩) dl dc)) (hy : ev fs y = some (.slice a m c)) (hr : Rd E L 1 a m xs) (h1 : ∀ v, v ∈ xs → v.oneCell' = true)
    (hfit : off + min m dl ≤ cs.length) (hd : o.dst = some d) (hn : Nat.blt d n = true) (hg : Goes ops fs o)
    (up : Upd L (.blk b (.cells cs.toArray T (0, 0))) (.blk b (.cells (cs.take off ++ xs.take (min m dl) ++ cs.drop (off + min m dl)).toArray T (0, 0))) L')
    (h : G n ds ((d, .int .i64 ((min m dl : Nat) : Int)) :: fs) E L' (wpListIn (Wd ro) 0 P ops Q rest)) : G n ds fs E L (wpListIn (Wd ro) 0 P ops Q (o :: rest)) :=
  G_any hg (by rw [ho]; intro c h; cases h) fun a0 w ha hw => by
    have hb : w.heap[b]? = some (.cells cs.toArray T (0, 0)) := hw.own _ up.mem
    have hlt := (Array.getElem?_eq_some_iff.1 hb).1
    have hxl : xs.length = m := by have := hr.1; simpa using this
    obtain ⟨w', hrun, q1, q2, q3, q4, q5, q6⟩ := run_copyB (P := P) (u := u) (ty := o.type) (dl := dl) (dc := dc) (c := c) ht.und hi hb hxl ((hr.2 w hw).imp id fun ⟨p, h1, _, h2⟩ => ⟨p, h1, h2⟩) h1 hfit
    have e1 : (execOp a0.eval o).run P w = .ok (.value (.int .i64 ((min m dl : Nat) : Int))) w' := by
      simp only [execOp, ho, resolve, invoke, builtin, Sem.run_bind, Sem.run_pure, Result.andThen_ok, List.map_toArray, List.map_cons, List.map_nil, ha.eval hx, ha.eval hy, hrun]
    rw [e1]
    simp only [Oper.uponIn_value, hd]
    refine h _ _ (ha.put hn _) (hw.update up (by omega) (fun k hk _ => q6 k (fun e => hk (by subst e; simp [Res.blk]))) q1 (fun k hk => ?_) (by simp [Res.blk]) q3 q4 q5)
    simp only [Res.blk, List.mem_singleton] at hk ⊢
    subst hk
    exact .inl ⟨rfl, by omega⟩
end rules
end Go.Proofs.YthcfakmmomfcaaaDoor
namespace Go.Proofs.YthcfakmmomfcaaaDoor
open Go.RowKit
section rules
variable {P : Program} {ro : Option Nat} {n : Nat} {ds : List Deferred} {fs : List (Nat × Value)} {E : Env} {L : List Res} {ops : Array Oper} {Q : Exit → Act → World → Prop} {rest : List Oper} {o : Oper}
variable {T : Act → Fam → Prop} {J : World → Prop} {π : List (Nat × Nat)} {i : Nat}
/-- append onto a slice of the call's own, in a block that has a name. -/
theorem G_append2 {s x : Operand} {t e : TypeId} {d : Nat} {sz' : Nat} {ag' : Bool} {z : Value} {sz bytes : Nat} [ht : Ty P t (.slice e) sz' ag'] [hi : Inf P e z sz bytes] {g : Nat} {a2 : Option Addr} {k cap m c2 : Nat} {xs ys : List Value} {L' : Nat → Nat → List Res}
    (ho : o.op = .call { callee := .builtin .append, args := #[s, x], argTypes := #[t, t] }) (hs : ev fs s = some (.slice (some ⟨g, 0, none⟩) k cap)) (hx : ev fs x = some (.slice a2 m c2)) (hr : Rd E L sz a2 m ys) (h1 : ∀ v, v ∈ ys → v.oneCell' = true)
    (hb : (k + m) * bytes ≤ 140737488355328) (h63 : k + m ≤ 9223372036854775807) (hd : o.dst = some d) (hn : Nat.blt d n = true) (hg : Goes ops fs o)
    (u : ∀ b' c', Upd L (.sl e sz (some ⟨g, 0, none⟩) k cap xs) (.sl e sz (some ⟨b', 0, none⟩) (k + m) c' (xs ++ ys)) (L' b' c'))
    (h : ∀ b c', G n ds ((d, .slice (some ⟨b, 0, none⟩) (k + m) c') :: fs) E (L' b c') (wpListIn (Wd ro) 0 P ops Q rest)) : G n ds fs E L (wpListIn (Wd ro) 0 P ops Q (o :: rest)) :=
  G_any hg (by rw [ho]; intro c h; cases h) fun a0 w ha hw => by
    have hok : slOk e sz (some ⟨g, 0, none⟩) k cap xs (fun b => w.heap[b]?) := hw.own _ (u g cap).mem
    have hruns := run_append_own2 (P := P) (w := w) (ty := o.type) ht.und hi hok (c := c2) hr.1 ((hr.2 w hw).imp id fun ⟨p, h1, _, h2⟩ => ⟨p, h1, h2⟩) h1 hb h63
    have hmap : ∀ (r : Value) w', (Builtin.append_ #[t, t] o.type #[.slice (some ⟨g, 0, none⟩) k cap, .slice a2 m c2]).run P w = .ok r w' → (execOp a0.eval o).run P w = .ok (.value r) w' := fun r w' hrun => by
      simp [execOp, ho, resolve, invoke, builtin, ha.eval hs, ha.eval hx, hrun, Result.andThen]
    rcases hruns with ⟨c', w', hrun, hok', rfl, hsz, hos, hout, htape, hkeep⟩ | ⟨c', ob, hrun, hok'⟩
    · rw [hmap _ _ hrun]
      simp only [Oper.uponIn_value, hd]
      refine h g c' _ _ (ha.put hn _) (hw.update (u g c') hsz (fun b hb' hlt => hkeep b (fun he => hb' (by simp [Res.sl, he])) hlt) hok' (fun b hb' => ?_) (by simp [Res.sl]) hos hout htape)
      simp only [Res.sl, Option.map_some, Option.toList_some, List.mem_singleton] at hb' ⊢
      subst hb'
      refine .inl ⟨rfl, ?_⟩
      obtain ⟨_, q | ⟨g', cur, q2, q3, _⟩⟩ := hok'
      · cases q.1
      · cases q2; exact (Array.getElem?_eq_some_iff.1 q3).1
    · rw [hmap _ _ hrun]
      simp only [Oper.uponIn_value, hd]
      obtain ⟨M1, p1, p2⟩ := (u w.heap.size c').perm
      have s1 := (hw.drew (w.drawn + 1)).alloc ob
      have s2 : St E (.sl e sz (some ⟨w.heap.size, 0, none⟩) (k + m) c' (xs ++ ys) :: L) (w.drew.alloc ob) := s1.conv rfl hok'
      refine h w.heap.size c' _ _ (ha.put hn _) ?_
      have s3 : St E (.sl e sz (some ⟨g, 0, none⟩) k cap xs :: .sl e sz (some ⟨w.heap.size, 0, none⟩) (k + m) c' (xs ++ ys) :: M1) (w.drew.alloc ob) := s2.perm ((List.Perm.cons _ p1).trans (List.Perm.swap _ _ _))
      exact s3.drop.perm p2.symm
/-- A call that brings a new piece. -/
theorem F_callO {k : FuncId} [Ent P k] {args : Array Value} {d : Nat} {Post : Value → Env → Res → Prop} (h0 : ops[i]? = some o) (ht : Goesto fs o k args) (hd : o.dst = some d) (hn : Nat.blt d n = true) (hg : Goes ops fs o)
    (hc : ∀ L, CallS P k args E L (fun r E' L' => ∃ R, Post r E' R ∧ L' = R :: L))
    (h : ∀ r E' R, E.Le E' → Post r E' R → GF n ds ((d, r) :: fs) E' (R :: L) (wpF P ops T J π)) : GF n ds fs E L (wpF P ops T J ((i, 3) :: π)) := fun a ha =>
  ⟨o, h0, by
    rw [if_pos (hg.wanted ha)]
    intro M w hw
    unfold Steps
    rw [ht.run ha]
    refine (hc (M ++ L) w hw).mono ?_
    rintro e w' ⟨r, E', L', rfl, hE, hs, R, hp, rfl⟩
    refine ⟨r, rfl, Fam.st E' (R :: L), fun w' ⟨M', h'⟩ => ⟨M' ++ [R], ?_⟩, hs.perm List.perm_middle.symm, by rw [hd]; exact h r E' R hE hp _ (ha.put hn r)⟩
    have h2 : St E' (M' ++ R :: L) w' := h'
    show St E ((M' ++ [R]) ++ L) w'
    rw [List.append_assoc]
    exact h2.weaken hE⟩
end rules
end Go.Proofs.YthcfakmmomfcaaaDoor
set_option linter.unusedSimpArgs false
set_option linter.unusedVariables false
set_option maxHeartbeats 2000000
set_option maxRecDepth 20000
namespace Go.Proofs.YthcfakmmomfcaaaDoor
open Go.RowKit
/-! Looks: a number and four cells. -/
abbrev lk (n a b c d : Int) : Value := .agg #[.int .i64 n, .int .i64 a, .int .i64 b, .int .i64 c, .int .i64 d]
abbrev lkC (n a b c d : Int) : Array Value := #[.int .i64 n, .int .i64 a, .int .i64 b, .int .i64 c, .int .i64 d]
def gd (l : List Int) (i : Nat) : Int := l.getD i 0
abbrev lkL (l : List Int) : Value := lk ((min l.length 4 : Nat) : Int) (gd l 0) (gd l 1) (gd l 2) (gd l 3)
theorem cpy4 (l : List Int) : (List.take (0 + 1) [Value.int .i64 0, .int .i64 0, .int .i64 0, .int .i64 0, .int .i64 0] ++ (i64s l).take (min l.length 4) ++ List.drop (0 + 1 + min l.length 4) [Value.int .i64 0, .int .i64 0, .int .i64 0, .int .i64 0, .int .i64 0]) =
    [.int .i64 0, .int .i64 (gd l 0), .int .i64 (gd l 1), .int .i64 (gd l 2), .int .i64 (gd l 3)] := by
  rcases l with _ | ⟨a, _ | ⟨b, _ | ⟨c, _ | ⟨d, r⟩⟩⟩⟩
  · rfl
  · rfl
  · rfl
  · rfl
  · have : min (a :: b :: c :: d :: r).length 4 = 4 := by simp only [List.length_cons]; omega
    rw [this]
    simp [i64s, gd]
section
variable (E : Env) (L : List Res)
theorem of_call (p : Option Addr) (n c : Nat) (l : List Int) (h : Rd E L 1 p n (i64s l)) : CallV Tryd.prog 46 #[.slice p n c] E L (lkL l) := by
  have en : n = l.length := by have := h.1; simp [i64s] at this; omega
  subst en
  refine CallS.toV (CallS.intro (l := [_]) _ Tryd.func46 rfl Tryd.ntmps46 rfl ?_)
  refine G_seq (G_region ?_)
  (refine G_alloc rfl rfl rfl (.none rfl) ?_; intro b2)
  refine G_end (X_then (G_seq (G_region ?_)))
  refine G_val (V_fieldAddr rfl rfl (by decide)) rfl rfl (.none rfl) ?_
  refine G_val (V_slArr rfl rfl) rfl rfl (.none rfl) ?_
  refine G_val (V_move rfl rfl) rfl rfl (.none rfl) ?_
  refine G_copyB (cs := [.int .i64 0, .int .i64 0, .int .i64 0, .int .i64 0, .int .i64 0]) rfl rfl rfl (h.more _) (i64s_one l) (by simp only [List.length_cons, List.length_nil]; omega) rfl rfl (.none rfl) (.head _ _ _) ?_
  rw [cpy4]
  generalize hm : min l.length 4 = k
  refine G_val (V_fieldAddr rfl rfl (by decide)) rfl rfl (.none rfl) ?_
  refine G_storeAt rfl rfl rfl rfl rfl rfl (.none rfl) (.head _ _ _) (Nat.le_of_ble_eq_true rfl) (by simp only [putAll, Nat.zero_add, Nat.reduceAdd, List.setIfInBounds_toArray, List.set_cons_succ, List.set_cons_zero]; rfl) ?_
  refine G_end (X_then (G_seq (G_region ?_)))
  refine G_val (V_loadA rfl rfl (Cells.own (.head _)) rfl) rfl rfl (.none rfl) ?_
  refine G_storeA rfl rfl rfl rfl (by simp [Value.oneCell']) rfl (.none rfl) (.head _ _ _) rfl ?_
  refine G_end (X_then (G_ret ?_))
  refine G_leaveS (.drop _ (.nil _)) (by exact (.cons (.cellA rfl (Cells.own (.head _)) rfl) (.nil))) rfl ?_ ?_
  · exact (.refl _)
  exact ⟨(by (simp [resVal, *]; done)), (by rfl)⟩
/-- a look's first cells, in a block of one's own -/
theorem Rd.look {b : Nat} {h a0 b0 c0 d0 : Int} {T : TypeId} {fz : Nat × Nat} (k : Nat) (hm : Res.blk b (.cells (lkC h a0 b0 c0 d0) T fz) ∈ L) (hn : k ≤ 4) : Rd E L 1 (some ⟨b, 0 + 1, none⟩) k (i64s ([a0, b0, c0, d0].take k)) :=
  Rd.blk hm (by simp [i64s]; omega) (fun j v hv => by
    have hj : j < k := by have := (List.getElem?_eq_some_iff.1 hv).1; simp [i64s] at this; omega
    rcases j with _ | _ | _ | _ | j
    · rw [← hv]; simp [i64s, hj]
    · rw [← hv]; simp [i64s, hj]
    · rw [← hv]; simp [i64s, hj]
    · rw [← hv]; simp [i64s, hj]
    · omega)
theorem list_call (n : Nat) (a b c d : Int) (hn : n ≤ 4) : CallS Tryd.prog 48 #[lk n a b c d] E L (fun r E' L' => ∃ R, (∃ g k, r = .slice (some ⟨g, 0, none⟩) n k ∧ E = E' ∧ R = .sl 3 1 (some ⟨g, 0, none⟩) n k (i64s ([a, b, c, d].take n))) ∧ L' = R :: L) := by
  refine CallS.intro (l := [_]) _ Tryd.func48 rfl Tryd.ntmps48 rfl ?_
  refine G_seq (G_region ?_)
  (refine G_boxA rfl rfl rfl rfl (.none rfl) ?_; intro b1)
  refine G_val (V_assign rfl rfl) rfl rfl (.none rfl) ?_
  refine G_end (X_then (G_seq (G_region ?_)))
  (refine G_lit0z rfl rfl rfl (.none rfl) ?_; intro b3)
  refine G_val (V_fieldAddr rfl rfl (by decide)) rfl rfl (.none rfl) ?_
  refine G_val (V_fieldAddr rfl rfl (by decide)) rfl rfl (.none rfl) ?_
  refine G_val (V_load rfl rfl (Cell.own (.tail _ (.head _)) rfl)) rfl rfl (.none rfl) ?_
  refine G_val (V_slArrTo rfl rfl rfl (by omega) (by omega)) rfl rfl (.none rfl) ?_
  refine G_append2 rfl rfl rfl (Rd.look E _ n (.tail _ (.head _)) hn) (i64s_one _) (by omega) (by omega) rfl rfl (.none rfl) (fun _ _ => .head _ _ _) ?_
  intro a8 c8
  simp only [Nat.zero_add, Int.toNat_natCast, List.nil_append]
  refine G.front (.tail _ (.head _ _)) ?_
  refine G_val (V_assign rfl rfl) rfl rfl (.none rfl) ?_
  refine G_end (X_then (G_ret ?_))
  refine G_leave 1 (by exact (.cons (.tmp rfl) (.nil))) rfl ?_ ?_
  · exact .refl _
  exact ⟨_, ⟨_, _, rfl, rfl, rfl⟩, rfl⟩
theorem take4_len (n : Nat) (a b c d : Int) (hn : n ≤ 4) : ([a, b, c, d].take n).length = n := by rw [List.length_take]; simp; omega
theorem list_call' (n : Nat) (a b c d : Int) (hn : n ≤ 4) : CallS Tryd.prog 48 #[lk n a b c d] E L (fun r E' L' => ∃ p k, r = .slice p n k ∧ SlE E' 1 p n (i64s ([a, b, c, d].take n)) ∧ L = L') := by
  refine CallS.intro (l := [_]) _ Tryd.func48 rfl Tryd.ntmps48 rfl ?_
  refine G_seq (G_region ?_)
  (refine G_boxA rfl rfl rfl rfl (.none rfl) ?_; intro b1)
  refine G_val (V_assign rfl rfl) rfl rfl (.none rfl) ?_
  refine G_end (X_then (G_seq (G_region ?_)))
  (refine G_lit0z rfl rfl rfl (.none rfl) ?_; intro b3)
  refine G_val (V_fieldAddr rfl rfl (by decide)) rfl rfl (.none rfl) ?_
  refine G_val (V_fieldAddr rfl rfl (by decide)) rfl rfl (.none rfl) ?_
  refine G_val (V_load rfl rfl (Cell.own (.tail _ (.head _)) rfl)) rfl rfl (.none rfl) ?_
  refine G_val (V_slArrTo rfl rfl rfl (by omega) (by omega)) rfl rfl (.none rfl) ?_
  refine G_append rfl rfl rfl (Rd.look E _ n (.tail _ (.head _)) hn) (i64s_one _) (by omega) (by omega) rfl rfl (.none rfl) (fun _ _ => .head _ _ _) ?_
  intro a8 c8
  simp only [Nat.zero_add, Int.toNat_natCast, List.nil_append]
  refine G.freezeSl (.head _ _) ?_
  intro E1 hE1 hs1 _
  refine G_val (V_assign rfl rfl) rfl rfl (.none rfl) ?_
  refine G_end (X_then (G_ret ?_))
  refine G_leaveS (.drop _ (.nil _)) (by exact (.cons (.tmp rfl) (.nil))) rfl ?_ ?_
  · exact hE1
  exact ⟨_, ⟨_, ⟨rfl, ⟨(by assumption), rfl⟩⟩⟩⟩
theorem lkL_take (n : Nat) (a b c d : Int) (hn : n ≤ 4) : lkL ([a, b, c, d].take n) = lk n (if 0 < n then a else 0) (if 1 < n then b else 0) (if 2 < n then c else 0) (if 3 < n then d else 0) := by
  rcases n with _ | _ | _ | _ | _ | n
  · rfl
  · rfl
  · rfl
  · rfl
  · rfl
  · omega
theorem cut_call (n : Nat) (a b c d : Int) (hn : n ≤ 4) (k : Nat) : CallV Tryd.prog 51 #[lk n a b c d, .int .i64 k] E L (lk (min n k : Nat) (if 0 < min n k then a else 0) (if 1 < min n k then b else 0) (if 2 < min n k then c else 0) (if 3 < min n k then d else 0)) := by
  rw [← lkL_take _ a b c d (by omega)]
  refine CallS.toV (CallS.intro (l := [_, _]) _ Tryd.func51 rfl Tryd.ntmps51 rfl ?_)
  refine G_seq (G_region ?_)
  (refine G_boxA rfl rfl rfl rfl (.none rfl) ?_; intro b2)
  (refine G_alloc rfl rfl rfl (.none rfl) ?_; intro b4)
  refine G_end (X_then (G_seq (G_region ?_)))
  refine G_val (V_fieldAddr rfl rfl (by decide)) rfl rfl (.none rfl) ?_
  refine G_val (V_fieldAddr rfl rfl (by decide)) rfl rfl (.none rfl) ?_
  refine G_val (V_load rfl rfl (Cell.own (.tail _ (.head _)) rfl)) rfl rfl (.none rfl) ?_
  refine G_val (V_move rfl rfl) rfl rfl (.none rfl) ?_
  refine G_val (V_min rfl rfl rfl) rfl rfl (.none rfl) ?_
  refine G_val (V_slArrTo rfl rfl rfl (by omega) (by omega)) rfl rfl (.none rfl) ?_
  have e : (min (n : Int) k).toNat = min n k := by omega
  rw [e]
  have hrd := Rd.look E (.blk b4 (.cells (lkC 0 0 0 0 0) 25 (0, 0)) :: .blk b2 (.cells (lkC n a b c d) 25 (0, 0)) :: L) (min n k) (.tail _ (.head _)) (by omega)
  refine G_callv (k := 46) (.mk rfl rfl rfl rfl) rfl rfl (.none rfl) (of_call _ _ _ _ _ _ (by assumption)) ?_
  dsimp only [Go.Proofs.YthcfakmmomfcaaaDoor.lkL]
  refine G_storeA rfl rfl rfl rfl (by simp [Value.oneCell']) rfl (.none rfl) (.head _ _ _) rfl ?_
  refine G_end (X_then (G_ret ?_))
  refine G_leaveS (.drop _ (.drop _ (.nil _))) (by exact (.cons (.cellA rfl (Cells.own (.head _)) rfl) (.nil))) rfl ?_ ?_
  · exact (.refl _)
  exact ⟨rfl, rfl⟩
/-- Check: the error. -/
abbrev ckF (n : Int) (a b c d : Int) : Prop := 0 ≤ n ∧ n ≤ 4 ∧ (0 < n ∨ a = 0) ∧ (1 < n ∨ b = 0) ∧ (2 < n ∨ c = 0) ∧ (3 < n ∨ d = 0)
abbrev ckS (n : Int) (a b c d : Int) (t : Int) : Prop := (n ≤ 0 ∨ (0 ≤ a ∧ a < t)) ∧ (n ≤ 1 ∨ (0 ≤ b ∧ b < t)) ∧ (n ≤ 2 ∨ (0 ≤ c ∧ c < t)) ∧ (n ≤ 3 ∨ (0 ≤ d ∧ d < t))
def ckL (n a b c d : Int) (terms : Int) : Int :=
  if terms < 1 ∨ 8 < terms then 2 else if ¬ ckF n a b c d then 3 else if ckS n a b c d terms then 0 else 14
theorem ckF_iff (m : Nat) (a b c d : Int) (h : m ≤ 4) : (((min ([a, b, c, d].take m).length 4 : Nat) : Int) = m ∧ gd ([a, b, c, d].take m) 0 = a ∧ gd ([a, b, c, d].take m) 1 = b ∧ gd ([a, b, c, d].take m) 2 = c ∧ gd ([a, b, c, d].take m) 3 = d) ↔ ckF m a b c d := by
  rcases m with _ | _ | _ | _ | _ | m
  · simp [gd, ckF, eq_comm]
  · simp [gd, ckF, eq_comm]
  · simp [gd, ckF, eq_comm]
  · simp [gd, ckF, eq_comm]
  · simp [gd, ckF, eq_comm]
  · omega
theorem ckS_iff (m : Nat) (a b c d t : Int) (h : m ≤ 4) : (∀ x, x ∈ [a, b, c, d].take m → 0 ≤ x ∧ x < t) ↔ ckS m a b c d t := by
  rcases m with _ | _ | _ | _ | _ | m
  · simp [ckS]
  · simp [ckS]
  · simp [ckS]
  · simp [ckS]
  · simp [ckS]
  · omega
theorem Check_call (n a b c d terms : Int) : CallV Tryd.prog 18 #[lk n a b c d, .int .i64 terms] E L (.int .i64 (ckL n a b c d terms)) := by
  unfold ckL
  by_cases h1 : terms < 1 ∨ 8 < terms
  · rw [if_pos h1]
    refine CallS.toV (CallS.intro (l := [_, _]) _ Tryd.func18 rfl Tryd.ntmps18 rfl ?_)
    refine G_seq (G_region ?_)
    (refine G_boxA rfl rfl rfl rfl (.none rfl) ?_; intro b2)
    refine G_val (V_assign rfl rfl) rfl rfl (.none rfl) ?_
    refine G_end (X_then (G_seq (G_block (G_seq (G_region ?_)))))
    refine G_val (V_move rfl rfl) rfl rfl (.none rfl) ?_
    refine G_val (V_lss rfl rfl rfl) rfl rfl (.none rfl) ?_
    refine G_val (V_move rfl rfl) rfl rfl (.none rfl) ?_
    apply G_joinOr 3 10 13 rfl
    · intro H1
      dsimp only [List.take]
      simp only [Bool.and_eq_true, Bool.or_eq_true, Bool.not_eq_true', Bool.not_eq_false', Bool.and_eq_false_iff, Bool.or_eq_false_iff, Bool.not_not, decide_eq_true_eq, decide_eq_false_iff_not, ne_eq, Decidable.not_not, Bool.decide_eq_true] at H1
      refine G_stay (.no rfl rfl rfl rfl) rfl rfl ?_
      refine G_stay (.no rfl rfl rfl rfl) rfl rfl ?_
      refine G_val (V_pick_t rfl rfl rfl) rfl rfl (.none rfl) ?_
      refine G_end ?_
      exact JQ_end 3 rfl rfl (by kernel_rfl)
    · intro H2
      dsimp only [List.take]
      simp only [Bool.and_eq_true, Bool.or_eq_true, Bool.not_eq_true', Bool.not_eq_false', Bool.and_eq_false_iff, Bool.or_eq_false_iff, Bool.not_not, decide_eq_true_eq, decide_eq_false_iff_not, ne_eq, Decidable.not_not, Bool.decide_eq_true] at H2
      refine G_val (V_move rfl rfl) rfl rfl (.yes rfl rfl rfl rfl) ?_
      refine G_val (V_gtr rfl rfl rfl) rfl rfl (.yes rfl rfl rfl rfl) ?_
      refine G_val (V_pick_f rfl rfl rfl) rfl rfl (.none rfl) ?_
      refine G_end ?_
      exact JQ_end 3 rfl rfl (by kernel_rfl)
    dsimp only [List.drop]
    refine G_val (V_assign rfl rfl) rfl rfl (.none rfl) ?_
    refine G_end (X_then ?_)
    refine G_cond_t rfl (by simp [*]; done) ?_
    refine G_seq (G_region ?_)
    refine G_val (V_assign rfl rfl) rfl rfl (.none rfl) ?_
    refine G_end (X_then (G_ret (X_block_ret (X_then_ret ?_))))
    refine G_leaveS (.drop _ (.nil _)) (by exact (.cons (.tmp rfl) (.nil))) rfl ?_ ?_
    · exact (.refl _)
    exact ⟨(by kernel_rfl), rfl⟩
  rw [if_neg h1]
  by_cases h2 : n < 0 ∨ 4 < n
  · rw [if_pos (by omega)]
    refine CallS.toV (CallS.intro (l := [_, _]) _ Tryd.func18 rfl Tryd.ntmps18 rfl ?_)
    refine G_seq (G_region ?_)
    (refine G_boxA rfl rfl rfl rfl (.none rfl) ?_; intro b2)
    refine G_val (V_assign rfl rfl) rfl rfl (.none rfl) ?_
    refine G_end (X_then (G_seq (G_block (G_seq (G_region ?_)))))
    refine G_val (V_move rfl rfl) rfl rfl (.none rfl) ?_
    refine G_val (V_lss rfl rfl rfl) rfl rfl (.none rfl) ?_
    refine G_val (V_move rfl rfl) rfl rfl (.none rfl) ?_
    refine G.bool_f 10 rfl (decide_eq_false (by omega)) ?_
    refine G_val (V_move rfl rfl) rfl rfl (.yes rfl rfl rfl rfl) ?_
    refine G_val (V_gtr rfl rfl rfl) rfl rfl (.yes rfl rfl rfl rfl) ?_
    refine G_val (V_pick_f rfl rfl rfl) rfl rfl (.none rfl) ?_
    refine G_val (V_assign rfl rfl) rfl rfl (.none rfl) ?_
    refine G_end (X_then ?_)
    refine G_cond_f rfl (decide_eq_false (by omega)) ?_
    refine G_seq ?_
    refine G_draw mixed (by kernel_rfl) ?_
    refine Q_val (V_fieldAddr rfl rfl (by decide)) rfl rfl (.none rfl) ?_
    refine Q_val (V_load rfl rfl (Cell.own (.head _) rfl)) rfl rfl (.none rfl) ?_
    refine Q_val (V_lss rfl rfl rfl) rfl rfl (.none rfl) ?_
    refine Q_val (V_move rfl rfl) rfl rfl (.none rfl) ?_
    apply Q_joinOr 4 18 22 rfl
    · intro H1
      dsimp only [List.take]
      simp only [Bool.and_eq_true, Bool.or_eq_true, Bool.not_eq_true', Bool.not_eq_false', Bool.and_eq_false_iff, Bool.or_eq_false_iff, Bool.not_not, decide_eq_true_eq, decide_eq_false_iff_not, ne_eq, Decidable.not_not, Bool.decide_eq_true] at H1
      refine Q_stay (.no rfl rfl rfl rfl) rfl rfl ?_
      refine Q_stay (.no rfl rfl rfl rfl) rfl rfl ?_
      refine Q_stay (.no rfl rfl rfl rfl) rfl rfl ?_
      refine Q_val (V_pick_t rfl rfl rfl) rfl rfl (.none rfl) ?_
      exact FQ_end 4 rfl rfl (by kernel_rfl)
    · intro H2
      dsimp only [List.take]
      simp only [Bool.and_eq_true, Bool.or_eq_true, Bool.not_eq_true', Bool.not_eq_false', Bool.and_eq_false_iff, Bool.or_eq_false_iff, Bool.not_not, decide_eq_true_eq, decide_eq_false_iff_not, ne_eq, Decidable.not_not, Bool.decide_eq_true] at H2
      refine Q_val (V_fieldAddr rfl rfl (by decide)) rfl rfl (.yes rfl rfl rfl rfl) ?_
      refine Q_val (V_load rfl rfl (Cell.own (.head _) rfl)) rfl rfl (.yes rfl rfl rfl rfl) ?_
      refine Q_val (V_gtr rfl rfl rfl) rfl rfl (.yes rfl rfl rfl rfl) ?_
      refine Q_val (V_pick_f rfl rfl rfl) rfl rfl (.none rfl) ?_
      exact FQ_end 4 rfl rfl (by kernel_rfl)
    dsimp only [List.drop]
    refine Q_val (V_move rfl rfl) rfl rfl (.none rfl) ?_
    refine Q_bool_t 23 rfl (by simp [*]; done) ?_
    refine Q_stay (.no rfl rfl rfl rfl) rfl rfl ?_
    refine Q_stay (.no rfl rfl rfl rfl) rfl rfl ?_
    refine Q_stay (.no rfl rfl rfl rfl) rfl rfl ?_
    refine Q_stay (.no rfl rfl rfl rfl) rfl rfl ?_
    refine Q_stay (.no rfl rfl rfl rfl) rfl rfl ?_
    refine Q_stay (.no rfl rfl rfl rfl) rfl rfl ?_
    refine Q_stay (.no rfl rfl rfl rfl) rfl rfl ?_
    refine Q_val (V_pick_t rfl rfl rfl) rfl rfl (.none rfl) ?_
    refine Q_val (V_assign rfl rfl) rfl rfl (.none rfl) ?_
    refine Q_end ?_
    refine X_then ?_
    refine G_cond_t rfl rfl ?_
    refine G_seq (G_region ?_)
    refine G_val (V_assign rfl rfl) rfl rfl (.none rfl) ?_
    refine G_end (X_then (G_ret (X_block_ret (X_then_ret ?_))))
    refine G_leaveS (.drop _ (.nil _)) (by exact (.cons (.tmp rfl) (.nil))) rfl ?_ ?_
    · exact (.refl _)
    exact ⟨(by kernel_rfl), rfl⟩
  obtain ⟨m, rfl⟩ : ∃ m : Nat, n = m := ⟨n.toNat, by omega⟩
  have hrd : ∀ b2, Rd E (.blk b2 (.cells (lkC m a b c d) 25 (0, 0)) :: L) 1 (some ⟨b2, 0 + 1, none⟩) (m : Int).toNat (i64s ([a, b, c, d].take m)) := fun b2 => Rd.look E _ m (.head _) (by omega)
  obtain ⟨xs, hxs⟩ : ∃ xs, [a, b, c, d].take m = xs := ⟨_, rfl⟩
  have hlen : xs.length = m := by rw [← hxs, List.length_take]; simp; omega
  have hF := ckF_iff m a b c d (by omega)
  have hS := ckS_iff m a b c d terms (by omega)
  rw [hxs] at hrd hF hS
  by_cases h3 : ckF m a b c d
  · rw [if_neg (by omega)]
    have h5 := not_not_intro (hF.2 h3)
    refine CallS.toV (CallS.intro (l := [_, _]) _ Tryd.func18 rfl Tryd.ntmps18 rfl ?_)
    refine G_seq (G_region ?_)
    (refine G_boxA rfl rfl rfl rfl (.none rfl) ?_; intro b2)
    refine G_val (V_assign rfl rfl) rfl rfl (.none rfl) ?_
    refine G_end (X_then (G_seq (G_block (G_seq (G_region ?_)))))
    refine G_val (V_move rfl rfl) rfl rfl (.none rfl) ?_
    refine G_val (V_lss rfl rfl rfl) rfl rfl (.none rfl) ?_
    refine G_val (V_move rfl rfl) rfl rfl (.none rfl) ?_
    refine G.bool_f 10 rfl (decide_eq_false (by omega)) ?_
    refine G_val (V_move rfl rfl) rfl rfl (.yes rfl rfl rfl rfl) ?_
    refine G_val (V_gtr rfl rfl rfl) rfl rfl (.yes rfl rfl rfl rfl) ?_
    refine G_val (V_pick_f rfl rfl rfl) rfl rfl (.none rfl) ?_
    refine G_val (V_assign rfl rfl) rfl rfl (.none rfl) ?_
    refine G_end (X_then ?_)
    refine G_cond_f rfl (decide_eq_false (by omega)) ?_
    refine G_seq ?_
    refine G_draw mixed (by kernel_rfl) ?_
    refine Q_val (V_fieldAddr rfl rfl (by decide)) rfl rfl (.none rfl) ?_
    refine Q_val (V_load rfl rfl (Cell.own (.head _) rfl)) rfl rfl (.none rfl) ?_
    refine Q_val (V_lss rfl rfl rfl) rfl rfl (.none rfl) ?_
    refine Q_val (V_move rfl rfl) rfl rfl (.none rfl) ?_
    refine Q_bool_f 18 rfl (decide_eq_false (by omega)) ?_
    refine Q_val (V_fieldAddr rfl rfl (by decide)) rfl rfl (.yes rfl rfl rfl rfl) ?_
    refine Q_val (V_load rfl rfl (Cell.own (.head _) rfl)) rfl rfl (.yes rfl rfl rfl rfl) ?_
    refine Q_val (V_gtr rfl rfl rfl) rfl rfl (.yes rfl rfl rfl rfl) ?_
    refine Q_val (V_pick_f rfl rfl rfl) rfl rfl (.none rfl) ?_
    refine Q_val (V_move rfl rfl) rfl rfl (.none rfl) ?_
    refine Q_bool_f 23 rfl (decide_eq_false (by omega)) ?_
    refine Q_val (V_fieldAddr rfl rfl (by decide)) rfl rfl (.yes rfl rfl rfl rfl) ?_
    refine Q_val (V_fieldAddr rfl rfl (by decide)) rfl rfl (.yes rfl rfl rfl rfl) ?_
    refine Q_val (V_load rfl rfl (Cell.own (.head _) rfl)) rfl rfl (.yes rfl rfl rfl rfl) ?_
    refine Q_val (V_slArrTo rfl rfl rfl (by omega) (by omega)) rfl rfl (.yes rfl rfl rfl rfl) ?_
    have h4 := hrd b2
    refine Q_callv (k := 46) (.mk rfl rfl rfl rfl) rfl rfl (.yes rfl rfl rfl rfl) (of_call _ _ _ _ _ _ (by assumption)) ?_
    dsimp only [Go.Proofs.YthcfakmmomfcaaaDoor.lkL]
    refine Q_val (V_loadA rfl rfl (Cells.own (.head _)) rfl) rfl rfl (.yes rfl rfl rfl rfl) ?_
    refine Q_val (V_aneq_25 rfl rfl rfl) rfl rfl (.yes rfl rfl rfl rfl) ?_
    refine Q_val (V_pick_f rfl rfl rfl) rfl rfl (.none rfl) ?_
    refine Q_val (V_assign rfl rfl) rfl rfl (.none rfl) ?_
    refine Q_end ?_
    refine X_then ?_
    refine G_cond_f rfl (decide_eq_false (by omega)) ?_
    refine G_skip (X_block (X_then (G_seq (G_seq (G_region ?_)))))
    refine G_val (V_fieldAddr rfl rfl (by decide)) rfl rfl (.none rfl) ?_
    refine G_val (V_fieldAddr rfl rfl (by decide)) rfl rfl (.none rfl) ?_
    refine G_val (V_load rfl rfl (Cell.own (.head _) rfl)) rfl rfl (.none rfl) ?_
    refine G_val (V_slArrTo rfl rfl rfl (by omega) (by omega)) rfl rfl (.none rfl) ?_
    refine G_val (V_lenS rfl rfl) rfl rfl (.none rfl) ?_
    refine G_val (V_move rfl rfl) rfl rfl (.none rfl) ?_
    refine G_end (X_then (G_block ?_))
    refine G_loop (α := Nat) (fun i => [(1, .int .i64 terms), (2, .pointer (some ⟨b2, 0, none⟩)), (35, .slice (some ⟨b2, 0 + 1, none⟩) (m : Int).toNat 4), (36, .int .i64 (m : Int).toNat), (37, .int .i64 (i : Nat))]) (fun _ => E) (fun _ => .blk b2 (.cells (lkC m a b c d) 25 (0, 0)) :: L)
      (fun i => i ≤ m ∧ ∀ x, x ∈ xs.take i → 0 ≤ x ∧ x < terms) (fun i => m - i) 0 ⟨Nat.zero_le _, fun x h => by cases h⟩ ⟨rfl, rfl, rfl, rfl, rfl, trivial⟩ rfl rfl ?_
    rintro i ⟨hi, hall⟩
    by_cases hlt : i < m
    · have hx := i64s_get (List.getElem?_eq_getElem (l := xs) (i := i) (by omega))
      by_cases hin : 0 ≤ xs[i] ∧ xs[i] < terms
      · refine G_seq ?_
        refine G_region ?_
        refine G_val (V_lss rfl rfl rfl) rfl rfl (.none rfl) ?_
        refine G_end (X_then (G_seq ?_))
        refine G_cond_t rfl (decide_eq_true (by omega)) ?_
        refine G_skip (X_then (G_seq (G_block (G_seq (G_region ?_)))))
        refine G_val (V_idxAddr rfl rfl rfl (by assumption) (by omega) (by omega)) rfl rfl (.none rfl) ?_
        refine G_val (V_loadS rfl rfl (by assumption) (by assumption) (by simp)) rfl rfl (.none rfl) ?_
        refine G_val (V_assign rfl rfl) rfl rfl (.none rfl) ?_
        refine G_end (X_then (G_seq (G_region ?_)))
        refine G_val (V_move rfl rfl) rfl rfl (.none rfl) ?_
        refine G_val (V_lss rfl rfl rfl) rfl rfl (.none rfl) ?_
        refine G_val (V_move rfl rfl) rfl rfl (.none rfl) ?_
        refine G.bool_f 43 rfl (decide_eq_false (by omega)) ?_
        refine G_val (V_move rfl rfl) rfl rfl (.yes rfl rfl rfl rfl) ?_
        refine G_val (V_move rfl rfl) rfl rfl (.yes rfl rfl rfl rfl) ?_
        refine G_val (V_geq rfl rfl rfl) rfl rfl (.yes rfl rfl rfl rfl) ?_
        refine G_val (V_pick_f rfl rfl rfl) rfl rfl (.none rfl) ?_
        refine G_end (X_then ?_)
        refine G_cond_f rfl (decide_eq_false (by omega)) ?_
        refine G_skip (X_block (X_then (G_region ?_)))
        refine G_val (V_add_i64 rfl rfl rfl (by omega) (by omega)) rfl rfl (.none rfl) ?_
        refine G_val (V_move rfl rfl) rfl rfl (.none rfl) ?_
        refine G_end (X_then ?_)
        exact G_again (i + 1) ⟨hlt, fun x h => by
          rw [List.take_succ_eq_append_getElem (by omega)] at h
          rcases List.mem_append.1 h with h | h
          · exact hall x h
          · rw [List.mem_singleton.1 h]; exact hin⟩ (by omega) ⟨rfl, rfl, rfl, rfl, rfl, trivial⟩ rfl rfl
      · rw [if_neg (fun h => hin (hS.2 h _ (List.getElem_mem _)))]
        refine G_seq (G_region ?_)
        refine G_val (V_lss rfl rfl rfl) rfl rfl (.none rfl) ?_
        refine G_end (X_then (G_seq ?_))
        refine G_cond_t rfl (decide_eq_true (by omega)) ?_
        refine G_skip (X_then (G_seq (G_block (G_seq (G_region ?_)))))
        refine G_val (V_idxAddr rfl rfl rfl (by assumption) (by omega) (by omega)) rfl rfl (.none rfl) ?_
        refine G_val (V_loadS rfl rfl (by assumption) (by assumption) (by simp)) rfl rfl (.none rfl) ?_
        refine G_val (V_assign rfl rfl) rfl rfl (.none rfl) ?_
        refine G_end (X_then (G_seq (G_region ?_)))
        refine G_val (V_move rfl rfl) rfl rfl (.none rfl) ?_
        refine G_val (V_lss rfl rfl rfl) rfl rfl (.none rfl) ?_
        refine G_val (V_move rfl rfl) rfl rfl (.none rfl) ?_
        apply G_joinOr 4 43 47 rfl
        · intro H1
          dsimp only [List.take]
          simp only [Bool.and_eq_true, Bool.or_eq_true, Bool.not_eq_true', Bool.not_eq_false', Bool.and_eq_false_iff, Bool.or_eq_false_iff, Bool.not_not, decide_eq_true_eq, decide_eq_false_iff_not, ne_eq, Decidable.not_not, Bool.decide_eq_true] at H1
          refine G_stay (.no rfl rfl rfl rfl) rfl rfl ?_
          refine G_stay (.no rfl rfl rfl rfl) rfl rfl ?_
          refine G_stay (.no rfl rfl rfl rfl) rfl rfl ?_
          refine G_val (V_pick_t rfl rfl rfl) rfl rfl (.none rfl) ?_
          refine G_end ?_
          exact JQ_end 4 rfl rfl (by kernel_rfl)
        · intro H2
          dsimp only [List.take]
          simp only [Bool.and_eq_true, Bool.or_eq_true, Bool.not_eq_true', Bool.not_eq_false', Bool.and_eq_false_iff, Bool.or_eq_false_iff, Bool.not_not, decide_eq_true_eq, decide_eq_false_iff_not, ne_eq, Decidable.not_not, Bool.decide_eq_true] at H2
          refine G_val (V_move rfl rfl) rfl rfl (.yes rfl rfl rfl rfl) ?_
          refine G_val (V_move rfl rfl) rfl rfl (.yes rfl rfl rfl rfl) ?_
          refine G_val (V_geq rfl rfl rfl) rfl rfl (.yes rfl rfl rfl rfl) ?_
          refine G_val (V_pick_f rfl rfl rfl) rfl rfl (.none rfl) ?_
          refine G_end ?_
          exact JQ_end 4 rfl rfl (by kernel_rfl)
        dsimp only [List.drop]
        refine G_end (X_then ?_)
        refine G_cond rfl (fun H3 => ?_) (fun H3 => ?_)
        · simp only [Bool.and_eq_true, Bool.or_eq_true, Bool.not_eq_true', Bool.not_eq_false', Bool.and_eq_false_iff, Bool.or_eq_false_iff, Bool.not_not, decide_eq_true_eq, decide_eq_false_iff_not, ne_eq, Decidable.not_not, Bool.decide_eq_true] at H3
          refine G_seq (G_region ?_)
          refine G_val (V_assign rfl rfl) rfl rfl (.none rfl) ?_
          refine G_end (X_then (G_ret (X_block_ret (X_then_ret (X_then_ret (X_block_ret (X_then_ret ?_)))))))
          refine G_leaveS (.drop _ (.nil _)) (by exact (.cons (.tmp rfl) (.nil))) rfl ?_ ?_
          · exact (.refl _)
          exact ⟨(by kernel_rfl), rfl⟩
        simp only [Bool.and_eq_true, Bool.or_eq_true, Bool.not_eq_true', Bool.not_eq_false', Bool.and_eq_false_iff, Bool.or_eq_false_iff, Bool.not_not, decide_eq_true_eq, decide_eq_false_iff_not, ne_eq, Decidable.not_not, Bool.decide_eq_true] at H3
        (exfalso; omega)
    · rw [List.take_of_length_le (by omega)] at hall
      rw [if_pos (hS.1 hall)]
      refine G_seq (G_region ?_)
      refine G_val (V_lss rfl rfl rfl) rfl rfl (.none rfl) ?_
      refine G_end (X_then (G_seq ?_))
      refine G_cond_f rfl (decide_eq_false (by omega)) ?_
      refine G_exit (X_then_exit (X_then_exit (X_block_hit (X_then (G_seq (G_region ?_))))))
      refine G_val (V_assign rfl rfl) rfl rfl (.none rfl) ?_
      refine G_end (X_then (G_ret ?_))
      refine G_leaveS (.drop _ (.nil _)) (by exact (.cons (.tmp rfl) (.nil))) rfl ?_ ?_
      · exact (.refl _)
      exact ⟨(by kernel_rfl), rfl⟩
  · rw [if_pos (by omega)]
    have h5 := fun h => h3 (hF.1 h)
    refine CallS.toV (CallS.intro (l := [_, _]) _ Tryd.func18 rfl Tryd.ntmps18 rfl ?_)
    refine G_seq (G_region ?_)
    (refine G_boxA rfl rfl rfl rfl (.none rfl) ?_; intro b2)
    refine G_val (V_assign rfl rfl) rfl rfl (.none rfl) ?_
    refine G_end (X_then (G_seq (G_block (G_seq (G_region ?_)))))
    refine G_val (V_move rfl rfl) rfl rfl (.none rfl) ?_
    refine G_val (V_lss rfl rfl rfl) rfl rfl (.none rfl) ?_
    refine G_val (V_move rfl rfl) rfl rfl (.none rfl) ?_
    refine G.bool_f 10 rfl (decide_eq_false (by omega)) ?_
    refine G_val (V_move rfl rfl) rfl rfl (.yes rfl rfl rfl rfl) ?_
    refine G_val (V_gtr rfl rfl rfl) rfl rfl (.yes rfl rfl rfl rfl) ?_
    refine G_val (V_pick_f rfl rfl rfl) rfl rfl (.none rfl) ?_
    refine G_val (V_assign rfl rfl) rfl rfl (.none rfl) ?_
    refine G_end (X_then ?_)
    refine G_cond_f rfl (decide_eq_false (by omega)) ?_
    refine G_seq ?_
    refine G_draw mixed (by kernel_rfl) ?_
    refine Q_val (V_fieldAddr rfl rfl (by decide)) rfl rfl (.none rfl) ?_
    refine Q_val (V_load rfl rfl (Cell.own (.head _) rfl)) rfl rfl (.none rfl) ?_
    refine Q_val (V_lss rfl rfl rfl) rfl rfl (.none rfl) ?_
    refine Q_val (V_move rfl rfl) rfl rfl (.none rfl) ?_
    refine Q_bool_f 18 rfl (decide_eq_false (by omega)) ?_
    refine Q_val (V_fieldAddr rfl rfl (by decide)) rfl rfl (.yes rfl rfl rfl rfl) ?_
    refine Q_val (V_load rfl rfl (Cell.own (.head _) rfl)) rfl rfl (.yes rfl rfl rfl rfl) ?_
    refine Q_val (V_gtr rfl rfl rfl) rfl rfl (.yes rfl rfl rfl rfl) ?_
    refine Q_val (V_pick_f rfl rfl rfl) rfl rfl (.none rfl) ?_
    refine Q_val (V_move rfl rfl) rfl rfl (.none rfl) ?_
    refine Q_bool_f 23 rfl (decide_eq_false (by omega)) ?_
    refine Q_val (V_fieldAddr rfl rfl (by decide)) rfl rfl (.yes rfl rfl rfl rfl) ?_
    refine Q_val (V_fieldAddr rfl rfl (by decide)) rfl rfl (.yes rfl rfl rfl rfl) ?_
    refine Q_val (V_load rfl rfl (Cell.own (.head _) rfl)) rfl rfl (.yes rfl rfl rfl rfl) ?_
    refine Q_val (V_slArrTo rfl rfl rfl (by omega) (by omega)) rfl rfl (.yes rfl rfl rfl rfl) ?_
    have h4 := hrd b2
    refine Q_callv (k := 46) (.mk rfl rfl rfl rfl) rfl rfl (.yes rfl rfl rfl rfl) (of_call _ _ _ _ _ _ (by assumption)) ?_
    dsimp only [Go.Proofs.YthcfakmmomfcaaaDoor.lkL]
    refine Q_val (V_loadA rfl rfl (Cells.own (.head _)) rfl) rfl rfl (.yes rfl rfl rfl rfl) ?_
    refine Q_val (V_aneq_25 rfl rfl rfl) rfl rfl (.yes rfl rfl rfl rfl) ?_
    refine Q_val (V_pick_f rfl rfl rfl) rfl rfl (.none rfl) ?_
    refine Q_val (V_assign rfl rfl) rfl rfl (.none rfl) ?_
    refine Q_end ?_
    refine X_then ?_
    refine G_cond_t rfl (decide_eq_true (by omega)) ?_
    refine G_seq (G_region ?_)
    refine G_val (V_assign rfl rfl) rfl rfl (.none rfl) ?_
    refine G_end (X_then (G_ret (X_block_ret (X_then_ret ?_))))
    refine G_leaveS (.drop _ (.nil _)) (by exact (.cons (.tmp rfl) (.nil))) rfl ?_ ?_
    · exact (.refl _)
    exact ⟨(by kernel_rfl), rfl⟩
end
end Go.Proofs.YthcfakmmomfcaaaDoor
set_option linter.unusedSimpArgs false
set_option linter.unusedVariables false
set_option maxHeartbeats 2000000
set_option maxRecDepth 20000
namespace Go.Proofs.YthcfakmmomfcaaaDoor
open Go.RowKit
section
variable (E : Env) (L : List Res)
abbrev lkV (n a b c d : Int) : List Value := [.int .i64 n, .int .i64 a, .int .i64 b, .int .i64 c, .int .i64 d]
theorem right1_call (p : Option Addr) (k : Nat) (n a b c d t : Int) (h : SlE E 5 p 1 (lkV n a b c d)) : CallV Tryd.prog 47 #[.int .i64 t, .slice p 1 k] E L (.int .i64 (ckL n a b c d t)) := by
  refine CallS.toV (CallS.intro (l := [_, _]) _ Tryd.func47 rfl Tryd.ntmps47 rfl ?_)
  refine G_seq (G_region ?_)
  refine G_val (V_assign rfl rfl) rfl rfl (.none rfl) ?_
  refine G_end (X_then (G_seq (G_seq (G_region ?_))))
  refine G_val (V_move rfl rfl) rfl rfl (.none rfl) ?_
  refine G_val (V_lenS rfl rfl) rfl rfl (.none rfl) ?_
  refine G_val (V_move rfl rfl) rfl rfl (.none rfl) ?_
  refine G_end (X_then (G_block ?_))
  refine G_loop (α := Nat) (fun i => [(0, .int .i64 t), (8, .slice p 1 k), (9, .int .i64 1), (10, .int .i64 (i : Nat))]) (fun _ => E) (fun _ => L)
    (fun i => i = 0 ∨ (i = 1 ∧ ckL n a b c d t = 0)) (fun i => 1 - i) 0 (.inl rfl) ⟨rfl, rfl, rfl, rfl, trivial⟩ rfl rfl ?_
  rintro i (rfl | ⟨rfl, h0⟩)
  · have hx : ((lkV n a b c d).drop (0 * 5)).take 5 = lkV n a b c d := rfl
    generalize hr : ckL n a b c d t = r
    by_cases h1 : r = 0
    · refine G_seq ?_
      refine G_region ?_
      refine G_val (V_lss rfl rfl rfl) rfl rfl (.none rfl) ?_
      refine G_end (X_then (G_seq ?_))
      refine G_cond_t rfl (by kernel_rfl) ?_
      refine G_skip (X_then (G_seq (G_block (G_seq (G_region ?_)))))
      refine G_val (V_idxAddr rfl rfl rfl (SlE.rd (by assumption)) (by omega) (by omega)) rfl rfl (.none rfl) ?_
      refine G_val (V_loadAS rfl rfl (SlE.rd (by assumption)) (by assumption) (by simp) (by rfl)) rfl rfl (.none rfl) ?_
      (refine G_alloc rfl rfl rfl (.none rfl) ?_; intro b6)
      refine G_storeA rfl rfl rfl rfl (by simp [Value.oneCell']) rfl (.none rfl) (.head _ _ _) rfl ?_
      refine G_end (X_then (G_seq (G_region ?_)))
      refine G_val (V_loadA rfl rfl (Cells.own (.head _)) rfl) rfl rfl (.none rfl) ?_
      refine G_val (V_move rfl rfl) rfl rfl (.none rfl) ?_
      refine G_callv (k := 18) (.mk rfl rfl rfl rfl) rfl rfl (.none rfl) (Check_call _ _ _ _ _ _ _ _) ?_
      refine G_val (V_assign rfl rfl) rfl rfl (.none rfl) ?_
      refine G_end (X_then (G_seq (G_region ?_)))
      refine G_val (V_move rfl rfl) rfl rfl (.none rfl) ?_
      refine G_val (V_neq rfl rfl rfl) rfl rfl (.none rfl) ?_
      refine G_end (X_then ?_)
      refine G_cond_f rfl (decide_eq_false (by omega)) ?_
      refine G_skip (X_block (X_then (G_region ?_)))
      refine G_val (V_add_i64 rfl rfl rfl (by omega) (by omega)) rfl rfl (.none rfl) ?_
      refine G_val (V_move rfl rfl) rfl rfl (.none rfl) ?_
      refine G_end (X_then ?_)
      refine G.drop ?_
      exact G_again 1 (.inr ⟨rfl, h1⟩) (by omega) ⟨rfl, rfl, rfl, rfl, trivial⟩ rfl rfl
    · refine G_seq ?_
      refine G_region ?_
      refine G_val (V_lss rfl rfl rfl) rfl rfl (.none rfl) ?_
      refine G_end (X_then (G_seq ?_))
      refine G_cond_t rfl (by kernel_rfl) ?_
      refine G_skip (X_then (G_seq (G_block (G_seq (G_region ?_)))))
      refine G_val (V_idxAddr rfl rfl rfl (SlE.rd (by assumption)) (by omega) (by omega)) rfl rfl (.none rfl) ?_
      refine G_val (V_loadAS rfl rfl (SlE.rd (by assumption)) (by assumption) (by simp) (by rfl)) rfl rfl (.none rfl) ?_
      (refine G_alloc rfl rfl rfl (.none rfl) ?_; intro b6)
      refine G_storeA rfl rfl rfl rfl (by simp [Value.oneCell']) rfl (.none rfl) (.head _ _ _) rfl ?_
      refine G_end (X_then (G_seq (G_region ?_)))
      refine G_val (V_loadA rfl rfl (Cells.own (.head _)) rfl) rfl rfl (.none rfl) ?_
      refine G_val (V_move rfl rfl) rfl rfl (.none rfl) ?_
      refine G_callv (k := 18) (.mk rfl rfl rfl rfl) rfl rfl (.none rfl) (Check_call _ _ _ _ _ _ _ _) ?_
      refine G_val (V_assign rfl rfl) rfl rfl (.none rfl) ?_
      refine G_end (X_then (G_seq (G_region ?_)))
      refine G_val (V_move rfl rfl) rfl rfl (.none rfl) ?_
      refine G_val (V_neq rfl rfl rfl) rfl rfl (.none rfl) ?_
      refine G_end (X_then ?_)
      refine G_cond_t rfl (decide_eq_true (by omega)) ?_
      refine G_seq (G_region ?_)
      refine G_val (V_move rfl rfl) rfl rfl (.none rfl) ?_
      refine G_val (V_assign rfl rfl) rfl rfl (.none rfl) ?_
      refine G_end (X_then (G_ret (X_block_ret (X_then_ret (X_then_ret (X_block_ret (X_then_ret ?_)))))))
      refine G_leaveS (.drop _ (.nil _)) (by exact (.cons (.tmp rfl) (.nil))) rfl ?_ ?_
      · exact (.refl _)
      exact ⟨(by (simp (discharger := omega) only [resVal, hr, if_pos, if_neg]; first | done | rfl)), (by rfl)⟩
  · rw [h0]
    refine G_seq (G_region ?_)
    refine G_val (V_lss rfl rfl rfl) rfl rfl (.none rfl) ?_
    refine G_end (X_then (G_seq ?_))
    refine G_cond_f rfl (by kernel_rfl) ?_
    refine G_exit (X_then_exit (X_then_exit (X_block_hit (X_then (G_seq (G_region ?_))))))
    refine G_val (V_assign rfl rfl) rfl rfl (.none rfl) ?_
    refine G_end (X_then (G_ret ?_))
    refine G_leaveS (.nil _) (by exact (.cons (.tmp rfl) (.nil))) rfl ?_ ?_
    · exact (.refl _)
    exact ⟨(by kernel_rfl), rfl⟩
theorem right2_call (p : Option Addr) (k : Nat) (n a b c d n' a' b' c' d' t : Int) (h : SlE E 5 p 2 [.int .i64 n, .int .i64 a, .int .i64 b, .int .i64 c, .int .i64 d, .int .i64 n', .int .i64 a', .int .i64 b', .int .i64 c', .int .i64 d']) :
    CallV Tryd.prog 47 #[.int .i64 t, .slice p 2 k] E L (.int .i64 (if ckL n a b c d t ≠ 0 then ckL n a b c d t else ckL n' a' b' c' d' t)) := by
  refine CallS.toV (CallS.intro (l := [_, _]) _ Tryd.func47 rfl Tryd.ntmps47 rfl ?_)
  refine G_seq (G_region ?_)
  refine G_val (V_assign rfl rfl) rfl rfl (.none rfl) ?_
  refine G_end (X_then (G_seq (G_seq (G_region ?_))))
  refine G_val (V_move rfl rfl) rfl rfl (.none rfl) ?_
  refine G_val (V_lenS rfl rfl) rfl rfl (.none rfl) ?_
  refine G_val (V_move rfl rfl) rfl rfl (.none rfl) ?_
  refine G_end (X_then (G_block ?_))
  refine G_loop (α := Nat) (fun i => [(0, .int .i64 t), (8, .slice p 2 k), (9, .int .i64 2), (10, .int .i64 (i : Nat))]) (fun _ => E) (fun _ => L)
    (fun i => i = 0 ∨ (i = 1 ∧ ckL n a b c d t = 0) ∨ (i = 2 ∧ ckL n a b c d t = 0 ∧ ckL n' a' b' c' d' t = 0)) (fun i => 2 - i) 0 (.inl rfl) ⟨rfl, rfl, rfl, rfl, trivial⟩ rfl rfl ?_
  rintro i (rfl | ⟨rfl, h0⟩ | ⟨rfl, h0, h1⟩)
  · have hx : (([.int .i64 n, .int .i64 a, .int .i64 b, .int .i64 c, .int .i64 d, .int .i64 n', .int .i64 a', .int .i64 b', .int .i64 c', .int .i64 d'] : List Value).drop (0 * 5)).take 5 = lkV n a b c d := rfl
    generalize hr : ckL n a b c d t = r
    by_cases h1 : r = 0
    · refine G_seq ?_
      refine G_region ?_
      refine G_val (V_lss rfl rfl rfl) rfl rfl (.none rfl) ?_
      refine G_end (X_then (G_seq ?_))
      refine G_cond_t rfl (by kernel_rfl) ?_
      refine G_skip (X_then (G_seq (G_block (G_seq (G_region ?_)))))
      refine G_val (V_idxAddr rfl rfl rfl (SlE.rd (by assumption)) (by omega) (by omega)) rfl rfl (.none rfl) ?_
      refine G_val (V_loadAS rfl rfl (SlE.rd (by assumption)) (by assumption) (by simp) (by rfl)) rfl rfl (.none rfl) ?_
      (refine G_alloc rfl rfl rfl (.none rfl) ?_; intro b6)
      refine G_storeA rfl rfl rfl rfl (by simp [Value.oneCell']) rfl (.none rfl) (.head _ _ _) rfl ?_
      refine G_end (X_then (G_seq (G_region ?_)))
      refine G_val (V_loadA rfl rfl (Cells.own (.head _)) rfl) rfl rfl (.none rfl) ?_
      refine G_val (V_move rfl rfl) rfl rfl (.none rfl) ?_
      refine G_callv (k := 18) (.mk rfl rfl rfl rfl) rfl rfl (.none rfl) (Check_call _ _ _ _ _ _ _ _) ?_
      refine G_val (V_assign rfl rfl) rfl rfl (.none rfl) ?_
      refine G_end (X_then (G_seq (G_region ?_)))
      refine G_val (V_move rfl rfl) rfl rfl (.none rfl) ?_
      refine G_val (V_neq rfl rfl rfl) rfl rfl (.none rfl) ?_
      refine G_end (X_then ?_)
      refine G_cond_f rfl (decide_eq_false (by omega)) ?_
      refine G_skip (X_block (X_then (G_region ?_)))
      refine G_val (V_add_i64 rfl rfl rfl (by omega) (by omega)) rfl rfl (.none rfl) ?_
      refine G_val (V_move rfl rfl) rfl rfl (.none rfl) ?_
      refine G_end (X_then ?_)
      refine G.drop ?_
      exact G_again 1 (.inr (.inl ⟨rfl, h1⟩)) (by omega) ⟨rfl, rfl, rfl, rfl, trivial⟩ rfl rfl
    · rw [if_pos h1]
      refine G_seq (G_region ?_)
      refine G_val (V_lss rfl rfl rfl) rfl rfl (.none rfl) ?_
      refine G_end (X_then (G_seq ?_))
      refine G_cond_t rfl (by kernel_rfl) ?_
      refine G_skip (X_then (G_seq (G_block (G_seq (G_region ?_)))))
      refine G_val (V_idxAddr rfl rfl rfl (SlE.rd (by assumption)) (by omega) (by omega)) rfl rfl (.none rfl) ?_
      refine G_val (V_loadAS rfl rfl (SlE.rd (by assumption)) (by assumption) (by simp) (by rfl)) rfl rfl (.none rfl) ?_
      (refine G_alloc rfl rfl rfl (.none rfl) ?_; intro b6)
      refine G_storeA rfl rfl rfl rfl (by simp [Value.oneCell']) rfl (.none rfl) (.head _ _ _) rfl ?_
      refine G_end (X_then (G_seq (G_region ?_)))
      refine G_val (V_loadA rfl rfl (Cells.own (.head _)) rfl) rfl rfl (.none rfl) ?_
      refine G_val (V_move rfl rfl) rfl rfl (.none rfl) ?_
      refine G_callv (k := 18) (.mk rfl rfl rfl rfl) rfl rfl (.none rfl) (Check_call _ _ _ _ _ _ _ _) ?_
      refine G_val (V_assign rfl rfl) rfl rfl (.none rfl) ?_
      refine G_end (X_then (G_seq (G_region ?_)))
      refine G_val (V_move rfl rfl) rfl rfl (.none rfl) ?_
      refine G_val (V_neq rfl rfl rfl) rfl rfl (.none rfl) ?_
      refine G_end (X_then ?_)
      refine G_cond_t rfl (decide_eq_true (by omega)) ?_
      refine G_seq (G_region ?_)
      refine G_val (V_move rfl rfl) rfl rfl (.none rfl) ?_
      refine G_val (V_assign rfl rfl) rfl rfl (.none rfl) ?_
      refine G_end (X_then (G_ret (X_block_ret (X_then_ret (X_then_ret (X_block_ret (X_then_ret ?_)))))))
      refine G_leaveS (.drop _ (.nil _)) (by exact (.cons (.tmp rfl) (.nil))) rfl ?_ ?_
      · exact (.refl _)
      exact ⟨(by (simp (discharger := omega) only [resVal, hr, if_pos, if_neg]; first | done | rfl)), (by rfl)⟩
  · have hx : (([.int .i64 n, .int .i64 a, .int .i64 b, .int .i64 c, .int .i64 d, .int .i64 n', .int .i64 a', .int .i64 b', .int .i64 c', .int .i64 d'] : List Value).drop (1 * 5)).take 5 = lkV n' a' b' c' d' := rfl
    generalize hr : ckL n' a' b' c' d' t = r
    by_cases h1 : r = 0
    · refine G_seq ?_
      refine G_region ?_
      refine G_val (V_lss rfl rfl rfl) rfl rfl (.none rfl) ?_
      refine G_end (X_then (G_seq ?_))
      refine G_cond_t rfl (by kernel_rfl) ?_
      refine G_skip (X_then (G_seq (G_block (G_seq (G_region ?_)))))
      refine G_val (V_idxAddr rfl rfl rfl (SlE.rd (by assumption)) (by omega) (by omega)) rfl rfl (.none rfl) ?_
      refine G_val (V_loadAS rfl rfl (SlE.rd (by assumption)) (by assumption) (by simp) (by rfl)) rfl rfl (.none rfl) ?_
      (refine G_alloc rfl rfl rfl (.none rfl) ?_; intro b6)
      refine G_storeA rfl rfl rfl rfl (by simp [Value.oneCell']) rfl (.none rfl) (.head _ _ _) rfl ?_
      refine G_end (X_then (G_seq (G_region ?_)))
      refine G_val (V_loadA rfl rfl (Cells.own (.head _)) rfl) rfl rfl (.none rfl) ?_
      refine G_val (V_move rfl rfl) rfl rfl (.none rfl) ?_
      refine G_callv (k := 18) (.mk rfl rfl rfl rfl) rfl rfl (.none rfl) (Check_call _ _ _ _ _ _ _ _) ?_
      refine G_val (V_assign rfl rfl) rfl rfl (.none rfl) ?_
      refine G_end (X_then (G_seq (G_region ?_)))
      refine G_val (V_move rfl rfl) rfl rfl (.none rfl) ?_
      refine G_val (V_neq rfl rfl rfl) rfl rfl (.none rfl) ?_
      refine G_end (X_then ?_)
      refine G_cond_f rfl (decide_eq_false (by omega)) ?_
      refine G_skip (X_block (X_then (G_region ?_)))
      refine G_val (V_add_i64 rfl rfl rfl (by omega) (by omega)) rfl rfl (.none rfl) ?_
      refine G_val (V_move rfl rfl) rfl rfl (.none rfl) ?_
      refine G_end (X_then ?_)
      refine G.drop ?_
      exact G_again 2 (.inr (.inr ⟨rfl, h0, h1⟩)) (by omega) ⟨rfl, rfl, rfl, rfl, trivial⟩ rfl rfl
    · rw [if_neg (fun h => h h0)]
      refine G_seq (G_region ?_)
      refine G_val (V_lss rfl rfl rfl) rfl rfl (.none rfl) ?_
      refine G_end (X_then (G_seq ?_))
      refine G_cond_t rfl (by kernel_rfl) ?_
      refine G_skip (X_then (G_seq (G_block (G_seq (G_region ?_)))))
      refine G_val (V_idxAddr rfl rfl rfl (SlE.rd (by assumption)) (by omega) (by omega)) rfl rfl (.none rfl) ?_
      refine G_val (V_loadAS rfl rfl (SlE.rd (by assumption)) (by assumption) (by simp) (by rfl)) rfl rfl (.none rfl) ?_
      (refine G_alloc rfl rfl rfl (.none rfl) ?_; intro b6)
      refine G_storeA rfl rfl rfl rfl (by simp [Value.oneCell']) rfl (.none rfl) (.head _ _ _) rfl ?_
      refine G_end (X_then (G_seq (G_region ?_)))
      refine G_val (V_loadA rfl rfl (Cells.own (.head _)) rfl) rfl rfl (.none rfl) ?_
      refine G_val (V_move rfl rfl) rfl rfl (.none rfl) ?_
      refine G_callv (k := 18) (.mk rfl rfl rfl rfl) rfl rfl (.none rfl) (Check_call _ _ _ _ _ _ _ _) ?_
      refine G_val (V_assign rfl rfl) rfl rfl (.none rfl) ?_
      refine G_end (X_then (G_seq (G_region ?_)))
      refine G_val (V_move rfl rfl) rfl rfl (.none rfl) ?_
      refine G_val (V_neq rfl rfl rfl) rfl rfl (.none rfl) ?_
      refine G_end (X_then ?_)
      refine G_cond_t rfl (decide_eq_true (by omega)) ?_
      refine G_seq (G_region ?_)
      refine G_val (V_move rfl rfl) rfl rfl (.none rfl) ?_
      refine G_val (V_assign rfl rfl) rfl rfl (.none rfl) ?_
      refine G_end (X_then (G_ret (X_block_ret (X_then_ret (X_then_ret (X_block_ret (X_then_ret ?_)))))))
      refine G_leaveS (.drop _ (.nil _)) (by exact (.cons (.tmp rfl) (.nil))) rfl ?_ ?_
      · exact (.refl _)
      exact ⟨(by (simp (discharger := omega) only [resVal, hr, if_pos, if_neg]; first | done | rfl)), (by rfl)⟩
  · rw [if_neg (fun h => h h0), h1]
    refine G_seq (G_region ?_)
    refine G_val (V_lss rfl rfl rfl) rfl rfl (.none rfl) ?_
    refine G_end (X_then (G_seq ?_))
    refine G_cond_f rfl (by kernel_rfl) ?_
    refine G_exit (X_then_exit (X_then_exit (X_block_hit (X_then (G_seq (G_region ?_))))))
    refine G_val (V_assign rfl rfl) rfl rfl (.none rfl) ?_
    refine G_end (X_then (G_ret ?_))
    refine G_leaveS (.nil _) (by exact (.cons (.tmp rfl) (.nil))) rfl ?_ ?_
    · exact (.refl _)
    exact ⟨(by kernel_rfl), rfl⟩
def ofM (l : List Int) : Value × Int := if 4 < l.length then (lk 0 0 0 0 0, 6) else if ∀ x, x ∈ l → 0 ≤ x ∧ x < 8 then (lkL l, 0) else (lk 0 0 0 0 0, 14)
theorem Of_call (p : Option Addr) (n c : Nat) (l : List Int) (h : SlE E 1 p n (i64s l)) (hn : n ≤ 9223372036854775806) : CallV Tryd.prog 12 #[.slice p n c] E L (.tuple #[(ofM l).1, .int .i64 (ofM l).2]) := by
  have e := h.nI
  subst e
  unfold ofM
  by_cases h4 : 4 < l.length
  · rw [if_pos h4]
    refine CallS.toV (CallS.intro (l := [_]) _ Tryd.func12 rfl Tryd.ntmps12 rfl ?_)
    refine G_seq (G_region ?_)
    (refine G_alloc rfl rfl rfl (.none rfl) ?_; intro b2)
    refine G_val (V_assign rfl rfl) rfl rfl (.none rfl) ?_
    refine G_end (X_then (G_seq (G_seq (G_region ?_))))
    refine G_val (V_move rfl rfl) rfl rfl (.none rfl) ?_
    refine G_val (V_lenS rfl rfl) rfl rfl (.none rfl) ?_
    refine G_val (V_gtr rfl rfl rfl) rfl rfl (.none rfl) ?_
    refine G_end (X_then ?_)
    refine G_cond_t rfl (decide_eq_true (by omega)) ?_
    refine G_seq (G_region ?_)
    refine G_val (V_build rfl rfl (by simp [fillV, setLs, setL, Value.cells]; rfl)) rfl rfl (.none rfl) ?_
    refine G_storeA rfl rfl rfl rfl (by simp [Value.oneCell']) rfl (.none rfl) (.head _ _ _) rfl ?_
    refine G_val (V_assign rfl rfl) rfl rfl (.none rfl) ?_
    refine G_end (X_then (G_ret (X_then_ret ?_)))
    refine G_leaveS (.drop _ (.nil _)) (by exact (.cons (.cellA rfl (Cells.own (.head _)) rfl) (.cons (.tmp rfl) (.nil)))) rfl ?_ ?_
    · exact (.refl _)
    exact ⟨(by kernel_rfl), rfl⟩
  rw [if_neg h4]
  refine CallS.toV (CallS.intro (l := [_]) _ Tryd.func12 rfl Tryd.ntmps12 rfl ?_)
  refine G_seq (G_region ?_)
  (refine G_alloc rfl rfl rfl (.none rfl) ?_; intro b2)
  refine G_val (V_assign rfl rfl) rfl rfl (.none rfl) ?_
  refine G_end (X_then (G_seq (G_seq (G_region ?_))))
  refine G_val (V_move rfl rfl) rfl rfl (.none rfl) ?_
  refine G_val (V_lenS rfl rfl) rfl rfl (.none rfl) ?_
  refine G_val (V_gtr rfl rfl rfl) rfl rfl (.none rfl) ?_
  refine G_end (X_then ?_)
  refine G_cond_f rfl (decide_eq_false (by omega)) ?_
  refine G_skip (X_then (G_seq (G_seq (G_region ?_))))
  refine G_val (V_move rfl rfl) rfl rfl (.none rfl) ?_
  refine G_val (V_lenS rfl rfl) rfl rfl (.none rfl) ?_
  refine G_val (V_move rfl rfl) rfl rfl (.none rfl) ?_
  refine G_end (X_then (G_block ?_))
  refine G_loop (α := Nat) (fun i => [(0, .slice p l.length c), (2, .pointer (some ⟨b2, 0, none⟩)), (3, .int .i64 0), (10, .slice p l.length c), (11, .int .i64 l.length), (12, .int .i64 (i : Nat))]) (fun _ => E) (fun _ => .blk b2 (.cells (lkC 0 0 0 0 0) 25 (0, 0)) :: L)
    (fun i => i ≤ l.length ∧ ∀ x, x ∈ l.take i → 0 ≤ x ∧ x < 8) (fun i => l.length - i) 0 ⟨Nat.zero_le _, fun x h => by cases h⟩ ⟨rfl, rfl, rfl, rfl, rfl, rfl, trivial⟩ rfl rfl ?_
  rintro i ⟨hi, hall⟩
  by_cases hlt : i < l.length
  · have hx := i64s_get (List.getElem?_eq_getElem hlt)
    by_cases hin : 0 ≤ l[i] ∧ l[i] < 8
    · refine G_seq ?_
      refine G_region ?_
      refine G_val (V_lss rfl rfl rfl) rfl rfl (.none rfl) ?_
      refine G_end (X_then (G_seq ?_))
      refine G_cond_t rfl (decide_eq_true (by omega)) ?_
      refine G_skip (X_then (G_seq (G_block (G_seq (G_region ?_)))))
      refine G_val (V_idxAddr rfl rfl rfl (SlE.rd (by assumption)) (by omega) (by omega)) rfl rfl (.none rfl) ?_
      refine G_val (V_loadS rfl rfl (SlE.rd (by assumption)) (by assumption) (by simp)) rfl rfl (.none rfl) ?_
      refine G_val (V_assign rfl rfl) rfl rfl (.none rfl) ?_
      refine G_end (X_then (G_seq (G_region ?_)))
      refine G_val (V_move rfl rfl) rfl rfl (.none rfl) ?_
      refine G_val (V_lss rfl rfl rfl) rfl rfl (.none rfl) ?_
      refine G_val (V_move rfl rfl) rfl rfl (.none rfl) ?_
      refine G.bool_f 18 rfl (decide_eq_false (by omega)) ?_
      refine G_val (V_move rfl rfl) rfl rfl (.yes rfl rfl rfl rfl) ?_
      refine G_val (V_geq rfl rfl rfl) rfl rfl (.yes rfl rfl rfl rfl) ?_
      refine G_val (V_pick_f rfl rfl rfl) rfl rfl (.none rfl) ?_
      refine G_end (X_then ?_)
      refine G_cond_f rfl (decide_eq_false (by omega)) ?_
      refine G_skip (X_block (X_then (G_region ?_)))
      refine G_val (V_add_i64 rfl rfl rfl (by omega) (by omega)) rfl rfl (.none rfl) ?_
      refine G_val (V_move rfl rfl) rfl rfl (.none rfl) ?_
      refine G_end (X_then ?_)
      exact G_again (i + 1) ⟨hlt, fun x h => by
        rw [List.take_succ_eq_append_getElem (by omega)] at h
        rcases List.mem_append.1 h with h | h
        · exact hall x h
        · rw [List.mem_singleton.1 h]; exact hin⟩ (by omega) ⟨rfl, rfl, rfl, rfl, rfl, rfl, trivial⟩ rfl rfl
    · rw [if_neg (fun h => hin (h _ (List.getElem_mem _)))]
      refine G_seq (G_region ?_)
      refine G_val (V_lss rfl rfl rfl) rfl rfl (.none rfl) ?_
      refine G_end (X_then (G_seq ?_))
      refine G_cond_t rfl (decide_eq_true (by omega)) ?_
      refine G_skip (X_then (G_seq (G_block (G_seq (G_region ?_)))))
      refine G_val (V_idxAddr rfl rfl rfl (SlE.rd (by assumption)) (by omega) (by omega)) rfl rfl (.none rfl) ?_
      refine G_val (V_loadS rfl rfl (SlE.rd (by assumption)) (by assumption) (by simp)) rfl rfl (.none rfl) ?_
      refine G_val (V_assign rfl rfl) rfl rfl (.none rfl) ?_
      refine G_end (X_then (G_seq (G_region ?_)))
      refine G_val (V_move rfl rfl) rfl rfl (.none rfl) ?_
      refine G_val (V_lss rfl rfl rfl) rfl rfl (.none rfl) ?_
      refine G_val (V_move rfl rfl) rfl rfl (.none rfl) ?_
      apply G_joinOr 3 18 21 rfl
      · intro H1
        dsimp only [List.take]
        simp only [Bool.and_eq_true, Bool.or_eq_true, Bool.not_eq_true', Bool.not_eq_false', Bool.and_eq_false_iff, Bool.or_eq_false_iff, Bool.not_not, decide_eq_true_eq, decide_eq_false_iff_not, ne_eq, Decidable.not_not, Bool.decide_eq_true] at H1
        refine G_stay (.no rfl rfl rfl rfl) rfl rfl ?_
        refine G_stay (.no rfl rfl rfl rfl) rfl rfl ?_
        refine G_val (V_pick_t rfl rfl rfl) rfl rfl (.none rfl) ?_
        refine G_end ?_
        exact JQ_end 3 rfl rfl (by kernel_rfl)
      · intro H2
        dsimp only [List.take]
        simp only [Bool.and_eq_true, Bool.or_eq_true, Bool.not_eq_true', Bool.not_eq_false', Bool.and_eq_false_iff, Bool.or_eq_false_iff, Bool.not_not, decide_eq_true_eq, decide_eq_false_iff_not, ne_eq, Decidable.not_not, Bool.decide_eq_true] at H2
        refine G_val (V_move rfl rfl) rfl rfl (.yes rfl rfl rfl rfl) ?_
        refine G_val (V_geq rfl rfl rfl) rfl rfl (.yes rfl rfl rfl rfl) ?_
        refine G_val (V_pick_f rfl rfl rfl) rfl rfl (.none rfl) ?_
        refine G_end ?_
        exact JQ_end 3 rfl rfl (by kernel_rfl)
      dsimp only [List.drop]
      refine G_end (X_then ?_)
      refine G_cond rfl (fun H3 => ?_) (fun H3 => ?_)
      · simp only [Bool.and_eq_true, Bool.or_eq_true, Bool.not_eq_true', Bool.not_eq_false', Bool.and_eq_false_iff, Bool.or_eq_false_iff, Bool.not_not, decide_eq_true_eq, decide_eq_false_iff_not, ne_eq, Decidable.not_not, Bool.decide_eq_true] at H3
        refine G_seq (G_region ?_)
        refine G_val (V_build rfl rfl (by simp [fillV, setLs, setL, Value.cells]; rfl)) rfl rfl (.none rfl) ?_
        refine G_storeA rfl rfl rfl rfl (by simp [Value.oneCell']) rfl (.none rfl) (.head _ _ _) rfl ?_
        refine G_val (V_assign rfl rfl) rfl rfl (.none rfl) ?_
        refine G_end (X_then (G_ret (X_block_ret (X_then_ret (X_then_ret (X_block_ret (X_then_ret ?_)))))))
        refine G_leaveS (.drop _ (.nil _)) (by exact (.cons (.cellA rfl (Cells.own (.head _)) rfl) (.cons (.tmp rfl) (.nil)))) rfl ?_ ?_
        · exact (.refl _)
        exact ⟨(by kernel_rfl), rfl⟩
      simp only [Bool.and_eq_true, Bool.or_eq_true, Bool.not_eq_true', Bool.not_eq_false', Bool.and_eq_false_iff, Bool.or_eq_false_iff, Bool.not_not, decide_eq_true_eq, decide_eq_false_iff_not, ne_eq, Decidable.not_not, Bool.decide_eq_true] at H3
      (exfalso; omega)
  · rw [List.take_of_length_le (by omega)] at hall
    rw [if_pos hall]
    have hrd : Rd E (.blk b2 (.cells (lkC 0 0 0 0 0) 25 (0, 0)) :: L) 1 p l.length (i64s l) := h.rd
    refine G_seq (G_region ?_)
    refine G_val (V_lss rfl rfl rfl) rfl rfl (.none rfl) ?_
    refine G_end (X_then (G_seq ?_))
    refine G_cond_f rfl (decide_eq_false (by omega)) ?_
    refine G_exit (X_then_exit (X_then_exit (X_block_hit (X_then (G_seq (G_region ?_))))))
    refine G_val (V_move rfl rfl) rfl rfl (.none rfl) ?_
    refine G_callv (k := 46) (.mk rfl rfl rfl rfl) rfl rfl (.none rfl) (of_call _ _ _ _ _ _ (by assumption)) ?_
    dsimp only [Go.Proofs.YthcfakmmomfcaaaDoor.lkL]
    refine G_storeA rfl rfl rfl rfl (by simp [Value.oneCell']) rfl (.none rfl) (.head _ _ _) rfl ?_
    refine G_val (V_assign rfl rfl) rfl rfl (.none rfl) ?_
    refine G_end (X_then (G_ret ?_))
    refine G_leaveS (.drop _ (.nil _)) (by exact (.cons (.cellA rfl (Cells.own (.head _)) rfl) (.cons (.tmp rfl) (.nil)))) rfl ?_ ?_
    · exact (.refl _)
    exact ⟨rfl, rfl⟩
end
end Go.Proofs.YthcfakmmomfcaaaDoor
set_option linter.unusedSimpArgs false
set_option linter.unusedVariables false
set_option maxHeartbeats 2000000
set_option maxRecDepth 20000
namespace Go.Proofs.YthcfakmmomfcaaaDoor
open Go.RowKit
section
variable (E : Env) (L : List Res)
theorem ckL_n {n a b c d t : Int} (h : ckL n a b c d t = 0) : 0 ≤ n ∧ n ≤ 4 := by
  unfold ckL at h
  split at h
  · omega
  · split at h
    · omega
    · rename_i h2
      omega
/-- the error of two looks -/
def bothL (n a b c d n' a' b' c' d' : Int) : Int := if ckL n a b c d 8 ≠ 0 then ckL n a b c d 8 else ckL n' a' b' c' d' 8
theorem bothL_n {n a b c d n' a' b' c' d' : Int} (h : bothL n a b c d n' a' b' c' d' = 0) : ckL n a b c d 8 = 0 ∧ ckL n' a' b' c' d' 8 = 0 := by
  unfold bothL at h
  split at h
  · rename_i h1; exact absurd h h1
  · rename_i h1; exact ⟨by omega, h⟩
theorem right2_call' (p : Option Addr) (k : Nat) (n a b c d n' a' b' c' d' : Int) (h : SlE E 5 p 2 [.int .i64 n, .int .i64 a, .int .i64 b, .int .i64 c, .int .i64 d, .int .i64 n', .int .i64 a', .int .i64 b', .int .i64 c', .int .i64 d']) :
    CallV Tryd.prog 47 #[.int .i64 8, .slice p 2 k] E L (.int .i64 (bothL n a b c d n' a' b' c' d')) := right2_call E L p k n a b c d n' a' b' c' d' 8 h
/-- the first cells of a look -/
abbrev cutV (k : Nat) (a b c d : Int) : Value := lk (k : Nat) (if 0 < k then a else 0) (if 1 < k then b else 0) (if 2 < k then c else 0) (if 3 < k then d else 0)
def cutM (n a b c d k : Int) : Value × Int :=
  if ckL n a b c d 8 ≠ 0 then (lk 0 0 0 0 0, ckL n a b c d 8) else if k < 0 ∨ 4 < k then (lk 0 0 0 0 0, 2) else (cutV (min n.toNat k.toNat) a b c d, 0)
theorem Cut_call (n a b c d k : Int) : CallS Tryd.prog 23 #[lk n a b c d, .int .i64 k] E L (fun r E' L' => r = .tuple #[(cutM n a b c d k).1, .int .i64 (cutM n a b c d k).2] ∧ L = L') := by
  unfold cutM
  by_cases h : ckL n a b c d 8 ≠ 0
  · rw [if_pos h]
    generalize hr : ckL n a b c d 8 = r at h ⊢
    refine CallS.intro (l := [_, _]) _ Tryd.func23 rfl Tryd.ntmps23 rfl ?_
    refine G_seq (G_region ?_)
    (refine G_boxA rfl rfl rfl rfl (.none rfl) ?_; intro b2)
    (refine G_alloc rfl rfl rfl (.none rfl) ?_; intro b4)
    refine G_val (V_assign rfl rfl) rfl rfl (.none rfl) ?_
    refine G_end (X_then (G_seq (G_region ?_)))
    refine G_val (V_loadA rfl rfl (Cells.own (.tail _ (.head _))) rfl) rfl rfl (.none rfl) ?_
    (refine G_litZ rfl rfl (by decide) (by simp [fillS, zeros, setLs, setL, Value.cells, List.range, List.range.loop]; rfl) (by rfl) rfl rfl (.none rfl) ?_; intro b8 E8 hE8 hs8)
    refine G_callv (k := 47) (.mk rfl rfl rfl rfl) rfl rfl (.none rfl) (right1_call _ _ _ _ _ _ _ _ _ _ (by assumption)) ?_
    refine G_val (V_assign rfl rfl) rfl rfl (.none rfl) ?_
    refine G_end (X_then (G_seq (G_seq (G_region ?_))))
    refine G_val (V_move rfl rfl) rfl rfl (.none rfl) ?_
    refine G_val (V_eql rfl rfl rfl) rfl rfl (.none rfl) ?_
    refine G_val (V_move rfl rfl) rfl rfl (.none rfl) ?_
    refine G.bool_f 12 rfl (decide_eq_false (by omega)) ?_
    refine G_stay (.no rfl rfl rfl rfl) rfl rfl ?_
    refine G_stay (.no rfl rfl rfl rfl) rfl rfl ?_
    refine G_stay (.no rfl rfl rfl rfl) rfl rfl ?_
    refine G_stay (.un rfl rfl rfl rfl) rfl rfl ?_
    refine G_stay (.un rfl rfl rfl rfl) rfl rfl ?_
    refine G_stay (.no rfl rfl rfl rfl) rfl rfl ?_
    refine G_val (V_pick_f rfl rfl rfl) rfl rfl (.none rfl) ?_
    refine G_end (X_then ?_)
    refine G_cond_f rfl rfl ?_
    refine G_skip (X_then (G_seq (G_seq (G_region ?_))))
    refine G_val (V_move rfl rfl) rfl rfl (.none rfl) ?_
    refine G_val (V_neq rfl rfl rfl) rfl rfl (.none rfl) ?_
    refine G_end (X_then ?_)
    refine G_cond_t rfl (decide_eq_true (by omega)) ?_
    refine G_seq (G_region ?_)
    refine G_val (V_build rfl rfl (by simp [fillV, setLs, setL, Value.cells]; rfl)) rfl rfl (.none rfl) ?_
    refine G_val (V_move rfl rfl) rfl rfl (.none rfl) ?_
    refine G_storeA rfl rfl rfl rfl (by simp [Value.oneCell']) rfl (.none rfl) (.head _ _ _) rfl ?_
    refine G_val (V_assign rfl rfl) rfl rfl (.none rfl) ?_
    refine G_end (X_then (G_ret (X_then_ret ?_)))
    refine G_leaveS (.drop _ (.drop _ (.nil _))) (by exact (.cons (.cellA rfl (Cells.own (.head _)) rfl) (.cons (.tmp rfl) (.nil)))) rfl ?_ ?_
    · exact hE8
    exact ⟨(by (simp (discharger := omega) only [resVal, hr, if_pos, if_neg]; first | done | rfl)), (by rfl)⟩
  rw [if_neg h]
  have h0 : ckL n a b c d 8 = 0 := by omega
  have hn := ckL_n h0
  obtain ⟨m, rfl⟩ : ∃ m : Nat, n = m := ⟨n.toNat, by omega⟩
  by_cases hk : k < 0 ∨ 4 < k
  · rw [if_pos hk]
    refine CallS.intro (l := [_, _]) _ Tryd.func23 rfl Tryd.ntmps23 rfl ?_
    refine G_seq (G_region ?_)
    (refine G_boxA rfl rfl rfl rfl (.none rfl) ?_; intro b2)
    (refine G_alloc rfl rfl rfl (.none rfl) ?_; intro b4)
    refine G_val (V_assign rfl rfl) rfl rfl (.none rfl) ?_
    refine G_end (X_then (G_seq (G_region ?_)))
    refine G_val (V_loadA rfl rfl (Cells.own (.tail _ (.head _))) rfl) rfl rfl (.none rfl) ?_
    (refine G_litZ rfl rfl (by decide) (by simp [fillS, zeros, setLs, setL, Value.cells, List.range, List.range.loop]; rfl) (by rfl) rfl rfl (.none rfl) ?_; intro b8 E8 hE8 hs8)
    refine G_callv (k := 47) (.mk rfl rfl rfl rfl) rfl rfl (.none rfl) (right1_call _ _ _ _ _ _ _ _ _ _ (by assumption)) ?_
    refine G_val (V_assign rfl rfl) rfl rfl (.none rfl) ?_
    refine G_end (X_then (G_seq (G_seq (G_region ?_))))
    refine G_val (V_move rfl rfl) rfl rfl (.none rfl) ?_
    refine G_val (V_eql rfl rfl rfl) rfl rfl (.none rfl) ?_
    refine G_val (V_move rfl rfl) rfl rfl (.none rfl) ?_
    refine G.bool_t 12 rfl (decide_eq_true (by omega)) ?_
    refine G_val (V_move rfl rfl) rfl rfl (.yes rfl rfl rfl rfl) ?_
    refine G_val (V_lss rfl rfl rfl) rfl rfl (.yes rfl rfl rfl rfl) ?_
    refine G_val (V_move rfl rfl) rfl rfl (.yes rfl rfl rfl rfl) ?_
    apply G_joinOr 3 15 18 rfl
    · intro H1
      dsimp only [List.take]
      simp only [Bool.and_eq_true, Bool.or_eq_true, Bool.not_eq_true', Bool.not_eq_false', Bool.and_eq_false_iff, Bool.or_eq_false_iff, Bool.not_not, decide_eq_true_eq, decide_eq_false_iff_not, ne_eq, Decidable.not_not, Bool.decide_eq_true] at H1
      refine G_stay (.no rfl rfl rfl rfl) rfl rfl ?_
      refine G_stay (.no rfl rfl rfl rfl) rfl rfl ?_
      refine G_val (V_pick_t rfl rfl rfl) rfl rfl (.yes rfl rfl rfl rfl) ?_
      refine G_end ?_
      exact JQ_end 3 rfl rfl (by kernel_rfl)
    · intro H2
      dsimp only [List.take]
      simp only [Bool.and_eq_true, Bool.or_eq_true, Bool.not_eq_true', Bool.not_eq_false', Bool.and_eq_false_iff, Bool.or_eq_false_iff, Bool.not_not, decide_eq_true_eq, decide_eq_false_iff_not, ne_eq, Decidable.not_not, Bool.decide_eq_true] at H2
      refine G_val (V_move rfl rfl) rfl rfl (.yes rfl rfl rfl rfl) ?_
      refine G_val (V_gtr rfl rfl rfl) rfl rfl (.yes rfl rfl rfl rfl) ?_
      refine G_val (V_pick_f rfl rfl rfl) rfl rfl (.yes rfl rfl rfl rfl) ?_
      refine G_end ?_
      exact JQ_end 3 rfl rfl (by kernel_rfl)
    dsimp only [List.drop]
    refine G_val (V_pick_t rfl rfl rfl) rfl rfl (.none rfl) ?_
    refine G_end (X_then ?_)
    refine G_cond_t rfl (by simp [*]; done) ?_
    refine G_region ?_
    refine G_val (V_assign rfl rfl) rfl rfl (.none rfl) ?_
    refine G_end (X_then (G_seq (G_seq (G_region ?_))))
    refine G_val (V_move rfl rfl) rfl rfl (.none rfl) ?_
    refine G_val (V_neq rfl rfl rfl) rfl rfl (.none rfl) ?_
    refine G_end (X_then ?_)
    refine G_cond_t rfl (by kernel_rfl) ?_
    refine G_seq (G_region ?_)
    refine G_val (V_build rfl rfl (by simp [fillV, setLs, setL, Value.cells]; rfl)) rfl rfl (.none rfl) ?_
    refine G_val (V_move rfl rfl) rfl rfl (.none rfl) ?_
    refine G_storeA rfl rfl rfl rfl (by simp [Value.oneCell']) rfl (.none rfl) (.head _ _ _) rfl ?_
    refine G_val (V_assign rfl rfl) rfl rfl (.none rfl) ?_
    refine G_end (X_then (G_ret (X_then_ret ?_)))
    refine G_leaveS (.drop _ (.drop _ (.nil _))) (by exact (.cons (.cellA rfl (Cells.own (.head _)) rfl) (.cons (.tmp rfl) (.nil)))) rfl ?_ ?_
    · exact hE8
    exact ⟨(by kernel_rfl), rfl⟩
  · rw [if_neg hk]
    obtain ⟨j, rfl⟩ : ∃ j : Nat, k = j := ⟨k.toNat, by omega⟩
    simp only [Int.toNat_natCast]
    refine CallS.intro (l := [_, _]) _ Tryd.func23 rfl Tryd.ntmps23 rfl ?_
    refine G_seq (G_region ?_)
    (refine G_boxA rfl rfl rfl rfl (.none rfl) ?_; intro b2)
    (refine G_alloc rfl rfl rfl (.none rfl) ?_; intro b4)
    refine G_val (V_assign rfl rfl) rfl rfl (.none rfl) ?_
    refine G_end (X_then (G_seq (G_region ?_)))
    refine G_val (V_loadA rfl rfl (Cells.own (.tail _ (.head _))) rfl) rfl rfl (.none rfl) ?_
    (refine G_litZ rfl rfl (by decide) (by simp [fillS, zeros, setLs, setL, Value.cells, List.range, List.range.loop]; rfl) (by rfl) rfl rfl (.none rfl) ?_; intro b8 E8 hE8 hs8)
    refine G_callv (k := 47) (.mk rfl rfl rfl rfl) rfl rfl (.none rfl) (right1_call _ _ _ _ _ _ _ _ _ _ (by assumption)) ?_
    refine G_val (V_assign rfl rfl) rfl rfl (.none rfl) ?_
    refine G_end (X_then (G_seq (G_seq (G_region ?_))))
    refine G_val (V_move rfl rfl) rfl rfl (.none rfl) ?_
    refine G_val (V_eql rfl rfl rfl) rfl rfl (.none rfl) ?_
    refine G_val (V_move rfl rfl) rfl rfl (.none rfl) ?_
    refine G.bool_t 12 rfl (decide_eq_true (by omega)) ?_
    refine G_val (V_move rfl rfl) rfl rfl (.yes rfl rfl rfl rfl) ?_
    refine G_val (V_lss rfl rfl rfl) rfl rfl (.yes rfl rfl rfl rfl) ?_
    refine G_val (V_move rfl rfl) rfl rfl (.yes rfl rfl rfl rfl) ?_
    refine G.bool_f 15 rfl (decide_eq_false (by omega)) ?_
    refine G_val (V_move rfl rfl) rfl rfl (.yes rfl rfl rfl rfl) ?_
    refine G_val (V_gtr rfl rfl rfl) rfl rfl (.yes rfl rfl rfl rfl) ?_
    refine G_val (V_pick_f rfl rfl rfl) rfl rfl (.yes rfl rfl rfl rfl) ?_
    refine G_val (V_pick_t rfl rfl rfl) rfl rfl (.none rfl) ?_
    refine G_end (X_then ?_)
    refine G_cond_f rfl (decide_eq_false (by omega)) ?_
    refine G_skip (X_then (G_seq (G_seq (G_region ?_))))
    refine G_val (V_move rfl rfl) rfl rfl (.none rfl) ?_
    refine G_val (V_neq rfl rfl rfl) rfl rfl (.none rfl) ?_
    refine G_end (X_then ?_)
    refine G_cond_f rfl (decide_eq_false (by omega)) ?_
    refine G_skip (X_then (G_seq (G_region ?_)))
    refine G_val (V_loadA rfl rfl (Cells.own (.tail _ (.head _))) rfl) rfl rfl (.none rfl) ?_
    refine G_val (V_move rfl rfl) rfl rfl (.none rfl) ?_
    refine G_callv (k := 51) (.mk rfl rfl rfl rfl) rfl rfl (.none rfl) (cut_call _ _ _ _ _ _ _ (by omega) _) ?_
    dsimp only [Go.Proofs.YthcfakmmomfcaaaDoor.lk]
    refine G_storeA rfl rfl rfl rfl (by simp [Value.oneCell']) rfl (.none rfl) (.head _ _ _) rfl ?_
    refine G_val (V_assign rfl rfl) rfl rfl (.none rfl) ?_
    refine G_end (X_then (G_ret ?_))
    refine G_leaveS (.drop _ (.drop _ (.nil _))) (by exact (.cons (.cellA rfl (Cells.own (.head _)) rfl) (.cons (.tmp rfl) (.nil)))) rfl ?_ ?_
    · exact hE8
    exact ⟨rfl, rfl⟩
end
end Go.Proofs.YthcfakmmomfcaaaDoor
set_option linter.unusedSimpArgs false
set_option linter.unusedVariables false
set_option maxHeartbeats 2000000
set_option maxRecDepth 20000
namespace Go.Proofs.YthcfakmmomfcaaaDoor
open Go.RowKit
section
variable (E : Env) (L : List Res)
theorem list_call'' (n : Nat) (a b c d : Int) (hn : n ≤ 4) : CallS Tryd.prog 48 #[lk n a b c d] E L (fun r E' L' => ∃ R, (∃ g k, r = .slice (some ⟨g, 0, none⟩) n k ∧ E = E' ∧ R = .sl 3 1 (some ⟨g, 0, none⟩) n k (i64s ([a, b, c, d].take n))) ∧ L' = R :: L) := list_call E L n a b c d hn
/-- Join -/
def plusM (xs ys : List Int) (k : Nat) : Value := cutV (min (min (xs ++ ys).length 4) k) (gd (xs ++ ys) 0) (gd (xs ++ ys) 1) (gd (xs ++ ys) 2) (gd (xs ++ ys) 3)
def joinM (k n a b c d n' a' b' c' d' : Int) : Value × Int :=
  if bothL n a b c d n' a' b' c' d' ≠ 0 then (lk 0 0 0 0 0, bothL n a b c d n' a' b' c' d') else if k < 1 ∨ 4 < k then (lk 0 0 0 0 0, 2) else (plusM ([a, b, c, d].take n.toNat) ([a', b', c', d'].take n'.toNat) k.toNat, 0)
theorem Join_call (k n a b c d n' a' b' c' d' : Int) : CallS Tryd.prog 21 #[.int .i64 k, lk n a b c d, lk n' a' b' c' d'] E L (fun r E' L' => r = .tuple #[(joinM k n a b c d n' a' b' c' d').1, .int .i64 (joinM k n a b c d n' a' b' c' d').2] ∧ L = L') := by
  unfold joinM
  generalize hr : bothL n a b c d n' a' b' c' d' = r
  by_cases h : r ≠ 0
  · rw [if_pos h]
    refine CallS.intro (l := [_, _, _]) _ Tryd.func21 rfl Tryd.ntmps21 rfl ?_
    refine G_seq (G_region ?_)
    (refine G_boxA rfl rfl rfl rfl (.none rfl) ?_; intro b4)
    (refine G_boxA rfl rfl rfl rfl (.none rfl) ?_; intro b5)
    (refine G_alloc rfl rfl rfl (.none rfl) ?_; intro b6)
    refine G_val (V_assign rfl rfl) rfl rfl (.none rfl) ?_
    refine G_end (X_then (G_seq (G_region ?_)))
    refine G_val (V_loadA rfl rfl (Cells.own (.tail _ (.tail _ (.head _)))) rfl) rfl rfl (.none rfl) ?_
    refine G_val (V_loadA rfl rfl (Cells.own (.tail _ (.head _))) rfl) rfl rfl (.none rfl) ?_
    (refine G_litZ rfl rfl (by decide) (by simp [fillS, zeros, setLs, setL, Value.cells, List.range, List.range.loop]; rfl) (by rfl) rfl rfl (.none rfl) ?_; intro b11 E11 hE11 hs11)
    refine G_callv (k := 47) (.mk rfl rfl rfl rfl) rfl rfl (.none rfl) (right2_call' _ _ _ _ _ _ _ _ _ _ _ _ _ _ (by assumption)) ?_
    refine G_val (V_assign rfl rfl) rfl rfl (.none rfl) ?_
    refine G_end (X_then (G_seq (G_seq (G_region ?_))))
    refine G_val (V_move rfl rfl) rfl rfl (.none rfl) ?_
    refine G_val (V_eql rfl rfl rfl) rfl rfl (.none rfl) ?_
    refine G_val (V_move rfl rfl) rfl rfl (.none rfl) ?_
    refine G.bool_f 15 rfl (decide_eq_false (by omega)) ?_
    refine G_stay (.no rfl rfl rfl rfl) rfl rfl ?_
    refine G_stay (.no rfl rfl rfl rfl) rfl rfl ?_
    refine G_stay (.no rfl rfl rfl rfl) rfl rfl ?_
    refine G_stay (.un rfl rfl rfl rfl) rfl rfl ?_
    refine G_stay (.un rfl rfl rfl rfl) rfl rfl ?_
    refine G_stay (.no rfl rfl rfl rfl) rfl rfl ?_
    refine G_val (V_pick_f rfl rfl rfl) rfl rfl (.none rfl) ?_
    refine G_end (X_then ?_)
    refine G_cond_f rfl rfl ?_
    refine G_skip (X_then (G_seq (G_seq (G_region ?_))))
    refine G_val (V_move rfl rfl) rfl rfl (.none rfl) ?_
    refine G_val (V_neq rfl rfl rfl) rfl rfl (.none rfl) ?_
    refine G_end (X_then ?_)
    refine G_cond_t rfl (decide_eq_true (by omega)) ?_
    refine G_seq (G_region ?_)
    refine G_val (V_build rfl rfl (by simp [fillV, setLs, setL, Value.cells]; rfl)) rfl rfl (.none rfl) ?_
    refine G_val (V_move rfl rfl) rfl rfl (.none rfl) ?_
    refine G_storeA rfl rfl rfl rfl (by simp [Value.oneCell']) rfl (.none rfl) (.head _ _ _) rfl ?_
    refine G_val (V_assign rfl rfl) rfl rfl (.none rfl) ?_
    refine G_end (X_then (G_ret (X_then_ret ?_)))
    refine G_leaveS (.drop _ (.drop _ (.drop _ (.nil _)))) (by exact (.cons (.cellA rfl (Cells.own (.head _)) rfl) (.cons (.tmp rfl) (.nil)))) rfl ?_ ?_
    · exact hE11
    exact ⟨(by (simp (discharger := omega) only [resVal, hr, if_pos, if_neg]; first | done | rfl)), (by rfl)⟩
  rw [if_neg h]
  have h0 : bothL n a b c d n' a' b' c' d' = 0 := by omega
  have hb := bothL_n h0
  have hn := ckL_n hb.1
  have hn' := ckL_n hb.2
  obtain ⟨m, rfl⟩ : ∃ m : Nat, n = m := ⟨n.toNat, by omega⟩
  obtain ⟨m', rfl⟩ : ∃ m : Nat, n' = m := ⟨n'.toNat, by omega⟩
  by_cases hk : k < 1 ∨ 4 < k
  · rw [if_pos hk]
    refine CallS.intro (l := [_, _, _]) _ Tryd.func21 rfl Tryd.ntmps21 rfl ?_
    refine G_seq (G_region ?_)
    (refine G_boxA rfl rfl rfl rfl (.none rfl) ?_; intro b4)
    (refine G_boxA rfl rfl rfl rfl (.none rfl) ?_; intro b5)
    (refine G_alloc rfl rfl rfl (.none rfl) ?_; intro b6)
    refine G_val (V_assign rfl rfl) rfl rfl (.none rfl) ?_
    refine G_end (X_then (G_seq (G_region ?_)))
    refine G_val (V_loadA rfl rfl (Cells.own (.tail _ (.tail _ (.head _)))) rfl) rfl rfl (.none rfl) ?_
    refine G_val (V_loadA rfl rfl (Cells.own (.tail _ (.head _))) rfl) rfl rfl (.none rfl) ?_
    (refine G_litZ rfl rfl (by decide) (by simp [fillS, zeros, setLs, setL, Value.cells, List.range, List.range.loop]; rfl) (by rfl) rfl rfl (.none rfl) ?_; intro b11 E11 hE11 hs11)
    refine G_callv (k := 47) (.mk rfl rfl rfl rfl) rfl rfl (.none rfl) (right2_call' _ _ _ _ _ _ _ _ _ _ _ _ _ _ (by assumption)) ?_
    refine G_val (V_assign rfl rfl) rfl rfl (.none rfl) ?_
    refine G_end (X_then (G_seq (G_seq (G_region ?_))))
    refine G_val (V_move rfl rfl) rfl rfl (.none rfl) ?_
    refine G_val (V_eql rfl rfl rfl) rfl rfl (.none rfl) ?_
    refine G_val (V_move rfl rfl) rfl rfl (.none rfl) ?_
    refine G.bool_t 15 rfl (decide_eq_true (by omega)) ?_
    refine G_val (V_move rfl rfl) rfl rfl (.yes rfl rfl rfl rfl) ?_
    refine G_val (V_lss rfl rfl rfl) rfl rfl (.yes rfl rfl rfl rfl) ?_
    refine G_val (V_move rfl rfl) rfl rfl (.yes rfl rfl rfl rfl) ?_
    apply G_joinOr 3 18 21 rfl
    · intro H1
      dsimp only [List.take]
      simp only [Bool.and_eq_true, Bool.or_eq_true, Bool.not_eq_true', Bool.not_eq_false', Bool.and_eq_false_iff, Bool.or_eq_false_iff, Bool.not_not, decide_eq_true_eq, decide_eq_false_iff_not, ne_eq, Decidable.not_not, Bool.decide_eq_true] at H1
      refine G_stay (.no rfl rfl rfl rfl) rfl rfl ?_
      refine G_stay (.no rfl rfl rfl rfl) rfl rfl ?_
      refine G_val (V_pick_t rfl rfl rfl) rfl rfl (.yes rfl rfl rfl rfl) ?_
      refine G_end ?_
      exact JQ_end 3 rfl rfl (by kernel_rfl)
    · intro H2
      dsimp only [List.take]
      simp only [Bool.and_eq_true, Bool.or_eq_true, Bool.not_eq_true', Bool.not_eq_false', Bool.and_eq_false_iff, Bool.or_eq_false_iff, Bool.not_not, decide_eq_true_eq, decide_eq_false_iff_not, ne_eq, Decidable.not_not, Bool.decide_eq_true] at H2
      refine G_val (V_move rfl rfl) rfl rfl (.yes rfl rfl rfl rfl) ?_
      refine G_val (V_gtr rfl rfl rfl) rfl rfl (.yes rfl rfl rfl rfl) ?_
      refine G_val (V_pick_f rfl rfl rfl) rfl rfl (.yes rfl rfl rfl rfl) ?_
      refine G_end ?_
      exact JQ_end 3 rfl rfl (by kernel_rfl)
    dsimp only [List.drop]
    refine G_val (V_pick_t rfl rfl rfl) rfl rfl (.none rfl) ?_
    refine G_end (X_then ?_)
    refine G_cond_t rfl (by simp [*]; done) ?_
    refine G_region ?_
    refine G_val (V_assign rfl rfl) rfl rfl (.none rfl) ?_
    refine G_end (X_then (G_seq (G_seq (G_region ?_))))
    refine G_val (V_move rfl rfl) rfl rfl (.none rfl) ?_
    refine G_val (V_neq rfl rfl rfl) rfl rfl (.none rfl) ?_
    refine G_end (X_then ?_)
    refine G_cond_t rfl (by kernel_rfl) ?_
    refine G_seq (G_region ?_)
    refine G_val (V_build rfl rfl (by simp [fillV, setLs, setL, Value.cells]; rfl)) rfl rfl (.none rfl) ?_
    refine G_val (V_move rfl rfl) rfl rfl (.none rfl) ?_
    refine G_storeA rfl rfl rfl rfl (by simp [Value.oneCell']) rfl (.none rfl) (.head _ _ _) rfl ?_
    refine G_val (V_assign rfl rfl) rfl rfl (.none rfl) ?_
    refine G_end (X_then (G_ret (X_then_ret ?_)))
    refine G_leaveS (.drop _ (.drop _ (.drop _ (.nil _)))) (by exact (.cons (.cellA rfl (Cells.own (.head _)) rfl) (.cons (.tmp rfl) (.nil)))) rfl ?_ ?_
    · exact hE11
    exact ⟨(by kernel_rfl), rfl⟩
  · rw [if_neg hk]
    obtain ⟨j, rfl⟩ : ∃ j : Nat, k = j := ⟨k.toNat, by omega⟩
    simp only [Int.toNat_natCast]
    have hl := take4_len m a b c d (by omega)
    have hl' := take4_len m' a' b' c' d' (by omega)
    refine CallS.intro (l := [_, _, _]) _ Tryd.func21 rfl Tryd.ntmps21 rfl ?_
    refine G_seq (G_region ?_)
    (refine G_boxA rfl rfl rfl rfl (.none rfl) ?_; intro b4)
    (refine G_boxA rfl rfl rfl rfl (.none rfl) ?_; intro b5)
    (refine G_alloc rfl rfl rfl (.none rfl) ?_; intro b6)
    refine G_val (V_assign rfl rfl) rfl rfl (.none rfl) ?_
    refine G_end (X_then (G_seq (G_region ?_)))
    refine G_val (V_loadA rfl rfl (Cells.own (.tail _ (.tail _ (.head _)))) rfl) rfl rfl (.none rfl) ?_
    refine G_val (V_loadA rfl rfl (Cells.own (.tail _ (.head _))) rfl) rfl rfl (.none rfl) ?_
    (refine G_litZ rfl rfl (by decide) (by simp [fillS, zeros, setLs, setL, Value.cells, List.range, List.range.loop]; rfl) (by rfl) rfl rfl (.none rfl) ?_; intro b11 E11 hE11 hs11)
    refine G_callv (k := 47) (.mk rfl rfl rfl rfl) rfl rfl (.none rfl) (right2_call' _ _ _ _ _ _ _ _ _ _ _ _ _ _ (by assumption)) ?_
    refine G_val (V_assign rfl rfl) rfl rfl (.none rfl) ?_
    refine G_end (X_then (G_seq (G_seq (G_region ?_))))
    refine G_val (V_move rfl rfl) rfl rfl (.none rfl) ?_
    refine G_val (V_eql rfl rfl rfl) rfl rfl (.none rfl) ?_
    refine G_val (V_move rfl rfl) rfl rfl (.none rfl) ?_
    refine G.bool_t 15 rfl (decide_eq_true (by omega)) ?_
    refine G_val (V_move rfl rfl) rfl rfl (.yes rfl rfl rfl rfl) ?_
    refine G_val (V_lss rfl rfl rfl) rfl rfl (.yes rfl rfl rfl rfl) ?_
    refine G_val (V_move rfl rfl) rfl rfl (.yes rfl rfl rfl rfl) ?_
    refine G.bool_f 18 rfl (decide_eq_false (by omega)) ?_
    refine G_val (V_move rfl rfl) rfl rfl (.yes rfl rfl rfl rfl) ?_
    refine G_val (V_gtr rfl rfl rfl) rfl rfl (.yes rfl rfl rfl rfl) ?_
    refine G_val (V_pick_f rfl rfl rfl) rfl rfl (.yes rfl rfl rfl rfl) ?_
    refine G_val (V_pick_t rfl rfl rfl) rfl rfl (.none rfl) ?_
    refine G_end (X_then ?_)
    refine G_cond_f rfl (decide_eq_false (by omega)) ?_
    refine G_skip (X_then (G_seq (G_seq (G_region ?_))))
    refine G_val (V_move rfl rfl) rfl rfl (.none rfl) ?_
    refine G_val (V_neq rfl rfl rfl) rfl rfl (.none rfl) ?_
    refine G_end (X_then ?_)
    refine G_cond_f rfl (decide_eq_false (by omega)) ?_
    refine G_skip (X_then (G_seq ?_))
    refine G_drawX 8 [(0, 1), (2, 1), (1, 3), (3, 3), (4, 3), (5, 3), (6, 0), (7, 3)] mixed (by kernel_rfl) ?_
    refine F_load rfl (.tail _ (.tail _ (.head _))) (V_loadA rfl rfl (Cells.own (.head _)) rfl) rfl rfl (.none rfl) ?_
    refine F_load rfl (.tail _ (.head _)) (V_loadA rfl rfl (Cells.own (.head _)) rfl) rfl rfl (.none rfl) ?_
    refine F_callO (k := 48) rfl (.mk rfl rfl rfl rfl) rfl rfl (.none rfl) (fun L0 => list_call _ L0 m a b c d (by omega)) ?_
    rintro r1 E1 R1 hE1 ⟨g, k1, rfl, rfl, rfl⟩
    have hzy := i64s_one ([a', b', c', d'].take m')
    refine F_call (k := 48) (Post := fun L0 r E' L' => ∃ p k, r = .slice p m' k ∧ SlE E' 1 p m' (i64s ([a', b', c', d'].take m')) ∧ L0 = L') rfl (.mk rfl rfl rfl rfl) rfl rfl (.none rfl) (fun L0 => list_call' _ L0 m' a' b' c' d' (by omega)) (fun L0 r E' L' ⟨p, k, h1, h2, h3⟩ => ⟨h3.symm, p, k, h1, h2, rfl⟩) ?_
    rintro r2 E2 hE2 ⟨p2, k2, rfl, hs2, _⟩
    refine F_append2 rfl rfl rfl rfl hs2 hzy (by omega) (by omega) rfl rfl (.none rfl) (fun _ _ => .head _ _ _) ?_
    intro b9 c9 N9
    have e9 : i64s ([a, b, c, d].take m) ++ i64s ([a', b', c', d'].take m') = i64s ([a, b, c, d].take m ++ [a', b', c', d'].take m') := by simp [i64s]
    rw [e9]
    generalize hxs : [a, b, c, d].take m ++ [a', b', c', d'].take m' = xs
    have hxl : xs.length = m + m' := by rw [← hxs, List.length_append, hl, hl']
    refine F_callvM (k := 46) rfl (.mk rfl rfl rfl rfl) rfl rfl (.none rfl) (fun M => of_call _ _ _ _ _ xs (Rd.sl (List.mem_append_right _ (.head _)) (by rw [i64s, List.length_map, hxl, Nat.mul_one]))) ?_
    have e1 : plusM ([a, b, c, d].take m) ([a', b', c', d'].take m') j = cutV (min (min xs.length 4) j) (gd xs 0) (gd xs 1) (gd xs 2) (gd xs 3) := by unfold plusM; rw [hxs]
    rw [e1]
    refine F_pure rfl (fun _ _ => V_move rfl rfl) rfl rfl (.none rfl) ?_
    refine F_callv (k := 51) rfl (.mk rfl rfl rfl rfl) rfl rfl (.none rfl) (fun _ => cut_call _ _ _ _ _ _ _ (by omega) _) ?_
    dsimp only [Go.Proofs.YthcfakmmomfcaaaDoor.lk]
    (refine F_end (.suf _ (.nil _)) ?_; dsimp only [List.drop])
    refine G_storeA rfl rfl rfl rfl (by simp [Value.oneCell']) rfl (.none rfl) (.tail _ (.head _ _ _)) rfl ?_
    refine G_val (V_assign rfl rfl) rfl rfl (.none rfl) ?_
    refine G_end (X_then (G_ret ?_))
    refine G_leaveS (.drop _ (.drop _ (.drop _ (.drop _ (.nil _))))) (by exact (.cons (.cellA rfl (Cells.own (.tail _ (.head _))) rfl) (.cons (.tmp rfl) (.nil)))) rfl ?_ ?_
    · exact (hE11.trans hE2)
    exact ⟨rfl, rfl⟩
end
end Go.Proofs.YthcfakmmomfcaaaDoor
set_option linter.unusedSimpArgs false
set_option linter.unusedVariables false
set_option maxHeartbeats 2000000
set_option maxRecDepth 20000
namespace Go.Proofs.YthcfakmmomfcaaaDoor
open Go.RowKit
section
variable (E : Env) (L : List Res)
theorem lk_at (n a b c d : Int) (i : Nat) (h : i < 4) : (lkC n a b c d).toList[0 + 1 + (i : Int).toNat * 1]? = some (.int .i64 (gd [a, b, c, d] i)) := by
  rcases i with _ | _ | _ | _ | i
  · rfl
  · rfl
  · rfl
  · rfl
  · omega
theorem lk_cell {E : Env} {L : List Res} {bl : Nat} {n a b c d : Int} {T : TypeId} {fz : Nat × Nat} (i : Nat) (h : i < 4) (hm : Res.blk bl (.cells (lkC n a b c d) T fz) ∈ L) : Cell E L ⟨bl, 0 + 1 + (i : Int).toNat * 1, none⟩ (.int .i64 (gd [a, b, c, d] i)) := Cell.own hm (lk_at n a b c d i h)
theorem ck1 (m : Nat) (a b c d : Int) (hm : m ≤ 4) : (∀ j, m ≤ j → j < 4 → gd [a, b, c, d] j = 0) ↔ ckF m a b c d := by
  constructor
  · intro h
    have h0 := h 0; have h1 := h 1; have h2 := h 2; have h3 := h 3
    simp only [gd, List.getD_cons_zero, List.getD_cons_succ] at h0 h1 h2 h3
    refine ⟨by omega, by omega, ?_, ?_, ?_, ?_⟩
    · by_cases q : m = 0
      · exact .inr (h0 (by omega) (by omega))
      · exact .inl (by omega)
    · by_cases q : m ≤ 1
      · exact .inr (h1 (by omega) (by omega))
      · exact .inl (by omega)
    · by_cases q : m ≤ 2
      · exact .inr (h2 (by omega) (by omega))
      · exact .inl (by omega)
    · by_cases q : m ≤ 3
      · exact .inr (h3 (by omega) (by omega))
      · exact .inl (by omega)
  · rintro ⟨_, _, h0, h1, h2, h3⟩ j hj hj4
    rcases j with _ | _ | _ | _ | j
    · simp only [gd, List.getD_cons_zero, List.getD_cons_succ]; omega
    · simp only [gd, List.getD_cons_zero, List.getD_cons_succ]; omega
    · simp only [gd, List.getD_cons_zero, List.getD_cons_succ]; omega
    · simp only [gd, List.getD_cons_zero, List.getD_cons_succ]; omega
    · omega
theorem ck2 (m : Nat) (a b c d t : Int) (hm : m ≤ 4) : (∀ j, j < m → 0 ≤ gd [a, b, c, d] j ∧ gd [a, b, c, d] j < t) ↔ ckS m a b c d t := by
  constructor
  · intro h
    have h0 := h 0; have h1 := h 1; have h2 := h 2; have h3 := h 3
    simp only [gd, List.getD_cons_zero, List.getD_cons_succ] at h0 h1 h2 h3
    refine ⟨?_, ?_, ?_, ?_⟩
    · by_cases q : m = 0
      · exact .inl (by omega)
      · exact .inr (h0 (by omega))
    · by_cases q : m ≤ 1
      · exact .inl (by omega)
      · exact .inr (h1 (by omega))
    · by_cases q : m ≤ 2
      · exact .inl (by omega)
      · exact .inr (h2 (by omega))
    · by_cases q : m ≤ 3
      · exact .inl (by omega)
      · exact .inr (h3 (by omega))
  · rintro ⟨h0, h1, h2, h3⟩ j hj
    rcases j with _ | _ | _ | _ | j
    · simp only [gd, List.getD_cons_zero, List.getD_cons_succ]; omega
    · simp only [gd, List.getD_cons_zero, List.getD_cons_succ]; omega
    · simp only [gd, List.getD_cons_zero, List.getD_cons_succ]; omega
    · simp only [gd, List.getD_cons_zero, List.getD_cons_succ]; omega
    · omega
theorem RCheck_call (n a b c d terms : Int) : CallV Tryd.prog 19 #[lk n a b c d, .int .i64 terms] E L (.int .i64 (ckL n a b c d terms)) := by
  unfold ckL
  by_cases h1 : terms < 1 ∨ 8 < terms
  · rw [if_pos h1]
    refine CallS.toV (CallS.intro (l := [_, _]) _ Tryd.func19 rfl Tryd.ntmps19 rfl ?_)
    refine G_seq (G_region ?_)
    (refine G_boxA rfl rfl rfl rfl (.none rfl) ?_; intro b2)
    refine G_val (V_assign rfl rfl) rfl rfl (.none rfl) ?_
    refine G_end (X_then (G_seq (G_seq (G_region ?_))))
    refine G_val (V_move rfl rfl) rfl rfl (.none rfl) ?_
    refine G_val (V_lss rfl rfl rfl) rfl rfl (.none rfl) ?_
    refine G_val (V_move rfl rfl) rfl rfl (.none rfl) ?_
    apply G_joinOr 3 9 12 rfl
    · intro H1
      dsimp only [List.take]
      simp only [Bool.and_eq_true, Bool.or_eq_true, Bool.not_eq_true', Bool.not_eq_false', Bool.and_eq_false_iff, Bool.or_eq_false_iff, Bool.not_not, decide_eq_true_eq, decide_eq_false_iff_not, ne_eq, Decidable.not_not, Bool.decide_eq_true] at H1
      refine G_stay (.no rfl rfl rfl rfl) rfl rfl ?_
      refine G_stay (.no rfl rfl rfl rfl) rfl rfl ?_
      refine G_val (V_pick_t rfl rfl rfl) rfl rfl (.none rfl) ?_
      refine G_end ?_
      exact JQ_end 3 rfl rfl (by kernel_rfl)
    · intro H2
      dsimp only [List.take]
      simp only [Bool.and_eq_true, Bool.or_eq_true, Bool.not_eq_true', Bool.not_eq_false', Bool.and_eq_false_iff, Bool.or_eq_false_iff, Bool.not_not, decide_eq_true_eq, decide_eq_false_iff_not, ne_eq, Decidable.not_not, Bool.decide_eq_true] at H2
      refine G_val (V_move rfl rfl) rfl rfl (.yes rfl rfl rfl rfl) ?_
      refine G_val (V_gtr rfl rfl rfl) rfl rfl (.yes rfl rfl rfl rfl) ?_
      refine G_val (V_pick_f rfl rfl rfl) rfl rfl (.none rfl) ?_
      refine G_end ?_
      exact JQ_end 3 rfl rfl (by kernel_rfl)
    dsimp only [List.drop]
    refine G_end (X_then ?_)
    refine G_cond_t rfl (by simp [*]; done) ?_
    refine G_seq (G_region ?_)
    refine G_val (V_assign rfl rfl) rfl rfl (.none rfl) ?_
    refine G_end (X_then (G_ret (X_then_ret ?_)))
    refine G_leaveS (.drop _ (.nil _)) (by exact (.cons (.tmp rfl) (.nil))) rfl ?_ ?_
    · exact (.refl _)
    exact ⟨(by kernel_rfl), rfl⟩
  rw [if_neg h1]
  by_cases h2 : n < 0 ∨ 4 < n
  · rw [if_pos (by omega)]
    refine CallS.toV (CallS.intro (l := [_, _]) _ Tryd.func19 rfl Tryd.ntmps19 rfl ?_)
    refine G_seq (G_region ?_)
    (refine G_boxA rfl rfl rfl rfl (.none rfl) ?_; intro b2)
    refine G_val (V_assign rfl rfl) rfl rfl (.none rfl) ?_
    refine G_end (X_then (G_seq (G_seq (G_region ?_))))
    refine G_val (V_move rfl rfl) rfl rfl (.none rfl) ?_
    refine G_val (V_lss rfl rfl rfl) rfl rfl (.none rfl) ?_
    refine G_val (V_move rfl rfl) rfl rfl (.none rfl) ?_
    refine G.bool_f 9 rfl (decide_eq_false (by omega)) ?_
    refine G_val (V_move rfl rfl) rfl rfl (.yes rfl rfl rfl rfl) ?_
    refine G_val (V_gtr rfl rfl rfl) rfl rfl (.yes rfl rfl rfl rfl) ?_
    refine G_val (V_pick_f rfl rfl rfl) rfl rfl (.none rfl) ?_
    refine G_end (X_then ?_)
    refine G_cond_f rfl (decide_eq_false (by omega)) ?_
    refine G_skip (X_then (G_seq (G_seq (G_region ?_))))
    refine G_val (V_fieldAddr rfl rfl (by decide)) rfl rfl (.none rfl) ?_
    refine G_val (V_load rfl rfl (Cell.own (.head _) rfl)) rfl rfl (.none rfl) ?_
    refine G_val (V_lss rfl rfl rfl) rfl rfl (.none rfl) ?_
    refine G_val (V_move rfl rfl) rfl rfl (.none rfl) ?_
    apply G_joinOr 4 16 20 rfl
    · intro H1
      dsimp only [List.take]
      simp only [Bool.and_eq_true, Bool.or_eq_true, Bool.not_eq_true', Bool.not_eq_false', Bool.and_eq_false_iff, Bool.or_eq_false_iff, Bool.not_not, decide_eq_true_eq, decide_eq_false_iff_not, ne_eq, Decidable.not_not, Bool.decide_eq_true] at H1
      refine G_stay (.no rfl rfl rfl rfl) rfl rfl ?_
      refine G_stay (.no rfl rfl rfl rfl) rfl rfl ?_
      refine G_stay (.no rfl rfl rfl rfl) rfl rfl ?_
      refine G_val (V_pick_t rfl rfl rfl) rfl rfl (.none rfl) ?_
      refine G_end ?_
      exact JQ_end 4 rfl rfl (by kernel_rfl)
    · intro H2
      dsimp only [List.take]
      simp only [Bool.and_eq_true, Bool.or_eq_true, Bool.not_eq_true', Bool.not_eq_false', Bool.and_eq_false_iff, Bool.or_eq_false_iff, Bool.not_not, decide_eq_true_eq, decide_eq_false_iff_not, ne_eq, Decidable.not_not, Bool.decide_eq_true] at H2
      refine G_val (V_fieldAddr rfl rfl (by decide)) rfl rfl (.yes rfl rfl rfl rfl) ?_
      refine G_val (V_load rfl rfl (Cell.own (.head _) rfl)) rfl rfl (.yes rfl rfl rfl rfl) ?_
      refine G_val (V_gtr rfl rfl rfl) rfl rfl (.yes rfl rfl rfl rfl) ?_
      refine G_val (V_pick_f rfl rfl rfl) rfl rfl (.none rfl) ?_
      refine G_end ?_
      exact JQ_end 4 rfl rfl (by kernel_rfl)
    dsimp only [List.drop]
    refine G_end (X_then ?_)
    refine G_cond_t rfl (by simp [*]; done) ?_
    refine G_seq (G_region ?_)
    refine G_val (V_assign rfl rfl) rfl rfl (.none rfl) ?_
    refine G_end (X_then (G_ret (X_then_ret ?_)))
    refine G_leaveS (.drop _ (.nil _)) (by exact (.cons (.tmp rfl) (.nil))) rfl ?_ ?_
    · exact (.refl _)
    exact ⟨(by kernel_rfl), rfl⟩
  obtain ⟨m, rfl⟩ : ∃ m : Nat, n = m := ⟨n.toNat, by omega⟩
  refine CallS.toV (CallS.intro (l := [_, _]) _ Tryd.func19 rfl Tryd.ntmps19 rfl ?_)
  refine G_seq (G_region ?_)
  (refine G_boxA rfl rfl rfl rfl (.none rfl) ?_; intro b2)
  refine G_val (V_assign rfl rfl) rfl rfl (.none rfl) ?_
  refine G_end (X_then (G_seq (G_seq (G_region ?_))))
  refine G_val (V_move rfl rfl) rfl rfl (.none rfl) ?_
  refine G_val (V_lss rfl rfl rfl) rfl rfl (.none rfl) ?_
  refine G_val (V_move rfl rfl) rfl rfl (.none rfl) ?_
  refine G.bool_f 9 rfl (decide_eq_false (by omega)) ?_
  refine G_val (V_move rfl rfl) rfl rfl (.yes rfl rfl rfl rfl) ?_
  refine G_val (V_gtr rfl rfl rfl) rfl rfl (.yes rfl rfl rfl rfl) ?_
  refine G_val (V_pick_f rfl rfl rfl) rfl rfl (.none rfl) ?_
  refine G_end (X_then ?_)
  refine G_cond_f rfl (decide_eq_false (by omega)) ?_
  refine G_skip (X_then (G_seq (G_seq (G_region ?_))))
  refine G_val (V_fieldAddr rfl rfl (by decide)) rfl rfl (.none rfl) ?_
  refine G_val (V_load rfl rfl (Cell.own (.head _) rfl)) rfl rfl (.none rfl) ?_
  refine G_val (V_lss rfl rfl rfl) rfl rfl (.none rfl) ?_
  refine G_val (V_move rfl rfl) rfl rfl (.none rfl) ?_
  refine G.bool_f 16 rfl (decide_eq_false (by omega)) ?_
  refine G_val (V_fieldAddr rfl rfl (by decide)) rfl rfl (.yes rfl rfl rfl rfl) ?_
  refine G_val (V_load rfl rfl (Cell.own (.head _) rfl)) rfl rfl (.yes rfl rfl rfl rfl) ?_
  refine G_val (V_gtr rfl rfl rfl) rfl rfl (.yes rfl rfl rfl rfl) ?_
  refine G_val (V_pick_f rfl rfl rfl) rfl rfl (.none rfl) ?_
  refine G_end (X_then ?_)
  refine G_cond_f rfl (decide_eq_false (by omega)) ?_
  refine G_skip (X_then (G_seq (G_seq (G_region ?_))))
  refine G_val (V_fieldAddr rfl rfl (by decide)) rfl rfl (.none rfl) ?_
  refine G_val (V_load rfl rfl (Cell.own (.head _) rfl)) rfl rfl (.none rfl) ?_
  refine G_val (V_assign rfl rfl) rfl rfl (.none rfl) ?_
  refine G_end (X_then (G_block ?_))
  refine G_loop (α := Nat) (fun i => [(1, .int .i64 terms), (2, .pointer (some ⟨b2, 0, none⟩)), (5, .int .i64 (i : Nat))]) (fun _ => E) (fun _ => .blk b2 (.cells (lkC m a b c d) 25 (0, 0)) :: L)
    (fun i => m ≤ i ∧ i ≤ 4 ∧ ∀ j, m ≤ j → j < i → gd [a, b, c, d] j = 0) (fun i => 4 - i) m ⟨Nat.le_refl _, by omega, fun j h1 h2 => by omega⟩ ⟨rfl, rfl, rfl, trivial⟩ rfl rfl ?_
  rintro i ⟨hm, hi, hall⟩
  by_cases hlt : i < 4
  · have hx := lk_cell (E := E) (L := .blk b2 (.cells (lkC m a b c d) 25 (0, 0)) :: L) i hlt (.head _)
    by_cases h0 : gd [a, b, c, d] i = 0
    · refine G_seq ?_
      refine G_seq (G_region ?_)
      refine G_val (V_move rfl rfl) rfl rfl (.none rfl) ?_
      refine G_val (V_lss rfl rfl rfl) rfl rfl (.none rfl) ?_
      refine G_end (X_then ?_)
      refine G_cond_t rfl (decide_eq_true (by omega)) ?_
      refine G_skip (X_then (G_seq (G_block (G_seq (G_region ?_)))))
      refine G_val (V_move rfl rfl) rfl rfl (.none rfl) ?_
      refine G_val (V_fieldAddr rfl rfl (by decide)) rfl rfl (.none rfl) ?_
      refine G_val (V_idxAddrArr rfl rfl rfl (by omega) (by omega)) rfl rfl (.none rfl) ?_
      refine G_val (V_load rfl rfl (by assumption)) rfl rfl (.none rfl) ?_
      refine G_val (V_neq rfl rfl rfl) rfl rfl (.none rfl) ?_
      refine G_end (X_then ?_)
      refine G_cond_f rfl (decide_eq_false (by omega)) ?_
      refine G_skip (X_block (X_then (G_region ?_)))
      refine G_val (V_move rfl rfl) rfl rfl (.none rfl) ?_
      refine G_val (V_add_i64 rfl rfl rfl (by omega) (by omega)) rfl rfl (.none rfl) ?_
      refine G_val (V_assign rfl rfl) rfl rfl (.none rfl) ?_
      refine G_end (X_then ?_)
      exact G_again (i + 1) ⟨by omega, hlt, fun j h1 h2 => by
        by_cases e : j = i
        · rw [e]; exact h0
        · exact hall j h1 (by omega)⟩ (by omega) ⟨rfl, rfl, rfl, trivial⟩ rfl rfl
    · rw [if_pos (fun h => h0 ((ck1 m a b c d (by omega)).2 h i hm hlt))]
      refine G_seq (G_seq (G_region ?_))
      refine G_val (V_move rfl rfl) rfl rfl (.none rfl) ?_
      refine G_val (V_lss rfl rfl rfl) rfl rfl (.none rfl) ?_
      refine G_end (X_then ?_)
      refine G_cond_t rfl (decide_eq_true (by omega)) ?_
      refine G_skip (X_then (G_seq (G_block (G_seq (G_region ?_)))))
      refine G_val (V_move rfl rfl) rfl rfl (.none rfl) ?_
      refine G_val (V_fieldAddr rfl rfl (by decide)) rfl rfl (.none rfl) ?_
      refine G_val (V_idxAddrArr rfl rfl rfl (by omega) (by omega)) rfl rfl (.none rfl) ?_
      refine G_val (V_load rfl rfl (by assumption)) rfl rfl (.none rfl) ?_
      refine G_val (V_neq rfl rfl rfl) rfl rfl (.none rfl) ?_
      refine G_end (X_then ?_)
      refine G_cond_t rfl (decide_eq_true (by omega)) ?_
      refine G_seq (G_region ?_)
      refine G_val (V_assign rfl rfl) rfl rfl (.none rfl) ?_
      refine G_end (X_then (G_ret (X_block_ret (X_then_ret (X_then_ret (X_block_ret (X_then_ret ?_)))))))
      refine G_leaveS (.drop _ (.nil _)) (by exact (.cons (.tmp rfl) (.nil))) rfl ?_ ?_
      · exact (.refl _)
      exact ⟨(by kernel_rfl), rfl⟩
  · rw [if_neg (fun h => h ((ck1 m a b c d (by omega)).1 (fun j h1 h2 => hall j h1 (by omega))))]
    refine G_seq (G_seq (G_region ?_))
    refine G_val (V_move rfl rfl) rfl rfl (.none rfl) ?_
    refine G_val (V_lss rfl rfl rfl) rfl rfl (.none rfl) ?_
    refine G_end (X_then ?_)
    refine G_cond_f rfl (decide_eq_false (by omega)) ?_
    refine G_exit (X_then_exit (X_then_exit (X_block_hit (X_then (G_seq (G_seq (G_region ?_)))))))
    refine G_val (V_assign rfl rfl) rfl rfl (.none rfl) ?_
    refine G_end (X_then (G_block ?_))
    refine G_loop (α := Nat) (fun i => [(1, .int .i64 terms), (2, .pointer (some ⟨b2, 0, none⟩)), (6, .int .i64 (i : Nat))]) (fun _ => E) (fun _ => .blk b2 (.cells (lkC m a b c d) 25 (0, 0)) :: L)
      (fun i => i ≤ m ∧ ∀ j, j < i → 0 ≤ gd [a, b, c, d] j ∧ gd [a, b, c, d] j < terms) (fun i => m - i) 0 ⟨Nat.zero_le _, fun j h1 => by omega⟩ ⟨rfl, rfl, rfl, trivial⟩ rfl rfl ?_
    rintro k ⟨hk, hall2⟩
    by_cases hlt2 : k < m
    · have hx := lk_cell (E := E) (L := .blk b2 (.cells (lkC m a b c d) 25 (0, 0)) :: L) k (by omega) (.head _)
      by_cases h0 : 0 ≤ gd [a, b, c, d] k ∧ gd [a, b, c, d] k < terms
      · refine G_seq ?_
        refine G_seq (G_region ?_)
        refine G_val (V_move rfl rfl) rfl rfl (.none rfl) ?_
        refine G_val (V_fieldAddr rfl rfl (by decide)) rfl rfl (.none rfl) ?_
        refine G_val (V_load rfl rfl (Cell.own (.head _) rfl)) rfl rfl (.none rfl) ?_
        refine G_val (V_lss rfl rfl rfl) rfl rfl (.none rfl) ?_
        refine G_end (X_then ?_)
        refine G_cond_t rfl (decide_eq_true (by omega)) ?_
        refine G_skip (X_then (G_seq (G_block (G_seq (G_region ?_)))))
        refine G_val (V_move rfl rfl) rfl rfl (.none rfl) ?_
        refine G_val (V_fieldAddr rfl rfl (by decide)) rfl rfl (.none rfl) ?_
        refine G_val (V_idxAddrArr rfl rfl rfl (by omega) (by omega)) rfl rfl (.none rfl) ?_
        refine G_val (V_load rfl rfl (by assumption)) rfl rfl (.none rfl) ?_
        refine G_val (V_lss rfl rfl rfl) rfl rfl (.none rfl) ?_
        refine G_val (V_move rfl rfl) rfl rfl (.none rfl) ?_
        refine G.bool_f 43 rfl (decide_eq_false (by omega)) ?_
        refine G_val (V_move rfl rfl) rfl rfl (.yes rfl rfl rfl rfl) ?_
        refine G_val (V_fieldAddr rfl rfl (by decide)) rfl rfl (.yes rfl rfl rfl rfl) ?_
        refine G_val (V_idxAddrArr rfl rfl rfl (by omega) (by omega)) rfl rfl (.yes rfl rfl rfl rfl) ?_
        refine G_val (V_load rfl rfl (by assumption)) rfl rfl (.yes rfl rfl rfl rfl) ?_
        refine G_val (V_move rfl rfl) rfl rfl (.yes rfl rfl rfl rfl) ?_
        refine G_val (V_geq rfl rfl rfl) rfl rfl (.yes rfl rfl rfl rfl) ?_
        refine G_val (V_pick_f rfl rfl rfl) rfl rfl (.none rfl) ?_
        refine G_end (X_then ?_)
        refine G_cond_f rfl (decide_eq_false (by omega)) ?_
        refine G_skip (X_block (X_then (G_region ?_)))
        refine G_val (V_move rfl rfl) rfl rfl (.none rfl) ?_
        refine G_val (V_add_i64 rfl rfl rfl (by omega) (by omega)) rfl rfl (.none rfl) ?_
        refine G_val (V_assign rfl rfl) rfl rfl (.none rfl) ?_
        refine G_end (X_then ?_)
        exact G_again (k + 1) ⟨hlt2, fun j h1 => by
          by_cases e : j = k
          · rw [e]; exact h0
          · exact hall2 j (by omega)⟩ (by omega) ⟨rfl, rfl, rfl, trivial⟩ rfl rfl
      · rw [if_neg (fun h => h0 ((ck2 m a b c d terms (by omega)).2 h k hlt2))]
        refine G_seq (G_seq (G_region ?_))
        refine G_val (V_move rfl rfl) rfl rfl (.none rfl) ?_
        refine G_val (V_fieldAddr rfl rfl (by decide)) rfl rfl (.none rfl) ?_
        refine G_val (V_load rfl rfl (Cell.own (.head _) rfl)) rfl rfl (.none rfl) ?_
        refine G_val (V_lss rfl rfl rfl) rfl rfl (.none rfl) ?_
        refine G_end (X_then ?_)
        refine G_cond_t rfl (decide_eq_true (by omega)) ?_
        refine G_skip (X_then (G_seq (G_block (G_seq (G_region ?_)))))
        refine G_val (V_move rfl rfl) rfl rfl (.none rfl) ?_
        refine G_val (V_fieldAddr rfl rfl (by decide)) rfl rfl (.none rfl) ?_
        refine G_val (V_idxAddrArr rfl rfl rfl (by omega) (by omega)) rfl rfl (.none rfl) ?_
        refine G_val (V_load rfl rfl (by assumption)) rfl rfl (.none rfl) ?_
        refine G_val (V_lss rfl rfl rfl) rfl rfl (.none rfl) ?_
        refine G_val (V_move rfl rfl) rfl rfl (.none rfl) ?_
        apply G_joinOr 7 43 50 rfl
        · intro H1
          dsimp only [List.take]
          simp only [Bool.and_eq_true, Bool.or_eq_true, Bool.not_eq_true', Bool.not_eq_false', Bool.and_eq_false_iff, Bool.or_eq_false_iff, Bool.not_not, decide_eq_true_eq, decide_eq_false_iff_not, ne_eq, Decidable.not_not, Bool.decide_eq_true] at H1
          refine G_stay (.no rfl rfl rfl rfl) rfl rfl ?_
          refine G_stay (.no rfl rfl rfl rfl) rfl rfl ?_
          refine G_stay (.no rfl rfl rfl rfl) rfl rfl ?_
          refine G_stay (.no rfl rfl rfl rfl) rfl rfl ?_
          refine G_stay (.no rfl rfl rfl rfl) rfl rfl ?_
          refine G_stay (.no rfl rfl rfl rfl) rfl rfl ?_
          refine G_val (V_pick_t rfl rfl rfl) rfl rfl (.none rfl) ?_
          refine G_end ?_
          exact JQ_end 7 rfl rfl (by kernel_rfl)
        · intro H2
          dsimp only [List.take]
          simp only [Bool.and_eq_true, Bool.or_eq_true, Bool.not_eq_true', Bool.not_eq_false', Bool.and_eq_false_iff, Bool.or_eq_false_iff, Bool.not_not, decide_eq_true_eq, decide_eq_false_iff_not, ne_eq, Decidable.not_not, Bool.decide_eq_true] at H2
          refine G_val (V_move rfl rfl) rfl rfl (.yes rfl rfl rfl rfl) ?_
          refine G_val (V_fieldAddr rfl rfl (by decide)) rfl rfl (.yes rfl rfl rfl rfl) ?_
          refine G_val (V_idxAddrArr rfl rfl rfl (by omega) (by omega)) rfl rfl (.yes rfl rfl rfl rfl) ?_
          refine G_val (V_load rfl rfl (by assumption)) rfl rfl (.yes rfl rfl rfl rfl) ?_
          refine G_val (V_move rfl rfl) rfl rfl (.yes rfl rfl rfl rfl) ?_
          refine G_val (V_geq rfl rfl rfl) rfl rfl (.yes rfl rfl rfl rfl) ?_
          refine G_val (V_pick_f rfl rfl rfl) rfl rfl (.none rfl) ?_
          refine G_end ?_
          exact JQ_end 7 rfl rfl (by kernel_rfl)
        dsimp only [List.drop]
        refine G_end (X_then ?_)
        refine G_cond rfl (fun H3 => ?_) (fun H3 => ?_)
        · simp only [Bool.and_eq_true, Bool.or_eq_true, Bool.not_eq_true', Bool.not_eq_false', Bool.and_eq_false_iff, Bool.or_eq_false_iff, Bool.not_not, decide_eq_true_eq, decide_eq_false_iff_not, ne_eq, Decidable.not_not, Bool.decide_eq_true] at H3
          refine G_seq (G_region ?_)
          refine G_val (V_assign rfl rfl) rfl rfl (.none rfl) ?_
          refine G_end (X_then (G_ret (X_block_ret (X_then_ret (X_then_ret (X_block_ret (X_then_ret ?_)))))))
          refine G_leaveS (.drop _ (.nil _)) (by exact (.cons (.tmp rfl) (.nil))) rfl ?_ ?_
          · exact (.refl _)
          exact ⟨(by kernel_rfl), rfl⟩
        simp only [Bool.and_eq_true, Bool.or_eq_true, Bool.not_eq_true', Bool.not_eq_false', Bool.and_eq_false_iff, Bool.or_eq_false_iff, Bool.not_not, decide_eq_true_eq, decide_eq_false_iff_not, ne_eq, Decidable.not_not, Bool.decide_eq_true] at H3
        (exfalso; omega)
    · rw [if_pos ((ck2 m a b c d terms (by omega)).1 (fun j h1 => hall2 j (by omega)))]
      refine G_seq (G_seq (G_region ?_))
      refine G_val (V_move rfl rfl) rfl rfl (.none rfl) ?_
      refine G_val (V_fieldAddr rfl rfl (by decide)) rfl rfl (.none rfl) ?_
      refine G_val (V_load rfl rfl (Cell.own (.head _) rfl)) rfl rfl (.none rfl) ?_
      refine G_val (V_lss rfl rfl rfl) rfl rfl (.none rfl) ?_
      refine G_end (X_then ?_)
      refine G_cond_f rfl (decide_eq_false (by omega)) ?_
      refine G_exit (X_then_exit (X_then_exit (X_block_hit (X_then (G_seq (G_region ?_))))))
      refine G_val (V_assign rfl rfl) rfl rfl (.none rfl) ?_
      refine G_end (X_then (G_ret ?_))
      refine G_leaveS (.drop _ (.nil _)) (by exact (.cons (.tmp rfl) (.nil))) rfl ?_ ?_
      · exact (.refl _)
      exact ⟨(by kernel_rfl), rfl⟩
end
end Go.Proofs.YthcfakmmomfcaaaDoor
set_option linter.unusedSimpArgs false
set_option linter.unusedVariables false
set_option maxHeartbeats 2000000
set_option maxRecDepth 20000
namespace Go.Proofs.YthcfakmmomfcaaaDoor
open Go.RowKit
section
variable (E : Env) (L : List Res)
/-- the order -/
def cmpL : List Int → List Int → Int
  | [], [] => 0
  | [], _ :: _ => -1
  | _ :: _, [] => 1
  | x :: xs, y :: ys => if x = y then cmpL xs ys else if x < y then -1 else 1
theorem cmpL_drop (xs ys : List Int) : ∀ i, i ≤ xs.length → i ≤ ys.length → (∀ j, j < i → xs.getD j 0 = ys.getD j 0) → cmpL xs ys = cmpL (xs.drop i) (ys.drop i) := by
  intro i
  induction i generalizing xs ys with
  | zero => intro _ _ _; rfl
  | succ i ih =>
    intro hx hy h
    rcases xs with _ | ⟨x, xs⟩
    · simp at hx
    rcases ys with _ | ⟨y, ys⟩
    · simp at hy
    have h0 := h 0 (by omega)
    simp only [List.getD_cons_zero] at h0
    rw [cmpL, if_pos h0, ih xs ys (by simpa using hx) (by simpa using hy) (fun j hj => by simpa using h (j + 1) (by omega))]
    rfl
theorem cmpL_at (xs ys : List Int) (i : Nat) (hx : i < xs.length) (hy : i < ys.length) (h : ∀ j, j < i → xs.getD j 0 = ys.getD j 0) (hne : xs.getD i 0 ≠ ys.getD i 0) : cmpL xs ys = if xs.getD i 0 < ys.getD i 0 then -1 else 1 := by
  rw [cmpL_drop xs ys i (by omega) (by omega) h, List.drop_eq_getElem_cons hx, List.drop_eq_getElem_cons hy]
  have e1 : xs.getD i 0 = xs[i] := by simp [List.getD, hx]
  have e2 : ys.getD i 0 = ys[i] := by simp [List.getD, hy]
  rw [e1, e2] at hne ⊢
  rw [cmpL, if_neg hne]
theorem cmpL_end (xs ys : List Int) (i : Nat) (hi : i = min xs.length ys.length) (h : ∀ j, j < i → xs.getD j 0 = ys.getD j 0) : cmpL xs ys = if xs.length < ys.length then -1 else if ys.length < xs.length then 1 else 0 := by
  rw [cmpL_drop xs ys i (by omega) (by omega) h]
  by_cases h1 : xs.length < ys.length
  · rw [if_pos h1, List.drop_of_length_le (by omega), List.drop_eq_getElem_cons (by omega)]; rfl
  · rw [if_neg h1]
    by_cases h2 : ys.length < xs.length
    · rw [if_pos h2, List.drop_of_length_le (l := ys) (by omega), List.drop_eq_getElem_cons (by omega)]; rfl
    · rw [if_neg h2, List.drop_of_length_le (by omega), List.drop_of_length_le (by omega)]; rfl
theorem gd_take (l : List Int) (m j : Nat) (h : j < m) : (l.take m).getD j 0 = gd l j := by
  simp [gd, List.getD, List.getElem?_take, h]
end
end Go.Proofs.YthcfakmmomfcaaaDoor
set_option linter.unusedSimpArgs false
set_option linter.unusedVariables false
set_option maxHeartbeats 2000000
set_option maxRecDepth 20000
namespace Go.Proofs.YthcfakmmomfcaaaDoor
open Go.RowKit
/-! The reference's sum. -/
section
variable (E : Env) (L : List Res)
end
end Go.Proofs.YthcfakmmomfcaaaDoor
set_option linter.unusedSimpArgs false
set_option linter.unusedVariables false
set_option maxHeartbeats 2000000
set_option maxRecDepth 20000
namespace Go.Proofs.YthcfakmmomfcaaaDoor
open Go.RowKit
theorem plusM_eq (X Y : List Int) (k : Nat) (hk : k ≤ 4) : plusM X Y k = lkL ((X ++ Y).take k) := by
  unfold plusM
  generalize X ++ Y = l
  rcases k with _ | _ | _ | _ | _ | k
  · simp [gd]
  · rcases l with _ | ⟨a, l⟩
    · rfl
    · simp [gd, lk]
  · rcases l with _ | ⟨a, _ | ⟨b, l⟩⟩
    · rfl
    · rfl
    · simp [gd, lk]
  · rcases l with _ | ⟨a, _ | ⟨b, _ | ⟨c, l⟩⟩⟩
    · rfl
    · rfl
    · rfl
    · simp [gd, lk]
  · rcases l with _ | ⟨a, _ | ⟨b, _ | ⟨c, _ | ⟨d, l⟩⟩⟩⟩
    · rfl
    · rfl
    · rfl
    · rfl
    · simp [gd, lk]
  · omega
section
variable (E : Env) (L : List Res)
/-- Compare: order and error -/
def cmpM (n a b c d n' a' b' c' d' : Int) : Int × Int := if bothL n a b c d n' a' b' c' d' ≠ 0 then (0, bothL n a b c d n' a' b' c' d') else (cmpL ([a, b, c, d].take n.toNat) ([a', b', c', d'].take n'.toNat), 0)
/-- Begins: the answer and the error -/
abbrev begP (n a b c d n' a' b' c' d' : Int) : Prop := n ≤ n' ∧ (if 0 < n then a' else 0) = a ∧ (if 1 < n then b' else 0) = b ∧ (if 2 < n then c' else 0) = c ∧ (if 3 < n then d' else 0) = d
def begL' (n a b c d n' a' b' c' d' : Int) : Bool × Int := if bothL n a b c d n' a' b' c' d' ≠ 0 then (false, bothL n a b c d n' a' b' c' d') else (decide (begP n a b c d n' a' b' c' d'), 0)
theorem begL_n {n a b c d n' a' b' c' d' : Int} (h : bothL n a b c d n' a' b' c' d' = 0) : 0 ≤ n ∧ n ≤ 4 ∧ 0 ≤ n' ∧ n' ≤ 4 := by
  have hb := bothL_n h
  have h1 := ckL_n hb.1
  have h2 := ckL_n hb.2
  omega
theorem Begins_call (n a b c d n' a' b' c' d' : Int) : CallS Tryd.prog 27 #[lk n a b c d, lk n' a' b' c' d'] E L (fun r E' L' => r = .tuple #[.bool (begL' n a b c d n' a' b' c' d').1, .int .i64 (begL' n a b c d n' a' b' c' d').2] ∧ L = L') := by
  unfold begL'
  generalize hr : bothL n a b c d n' a' b' c' d' = r
  by_cases h : r ≠ 0
  · rw [if_pos h]
    refine CallS.intro (l := [_, _]) _ Tryd.func27 rfl Tryd.ntmps27 rfl ?_
    refine G_seq (G_region ?_)
    (refine G_boxA rfl rfl rfl rfl (.none rfl) ?_; intro b2)
    (refine G_boxA rfl rfl rfl rfl (.none rfl) ?_; intro b3)
    refine G_val (V_assign rfl rfl) rfl rfl (.none rfl) ?_
    refine G_val (V_assign rfl rfl) rfl rfl (.none rfl) ?_
    refine G_end (X_then (G_seq (G_seq (G_region ?_))))
    refine G_val (V_loadA rfl rfl (Cells.own (.tail _ (.head _))) rfl) rfl rfl (.none rfl) ?_
    refine G_val (V_loadA rfl rfl (Cells.own (.head _)) rfl) rfl rfl (.none rfl) ?_
    (refine G_litZ rfl rfl (by decide) (by simp [fillS, zeros, setLs, setL, Value.cells, List.range, List.range.loop]; rfl) (by rfl) rfl rfl (.none rfl) ?_; intro b9 E9 hE9 hs9)
    refine G_callv (k := 47) (.mk rfl rfl rfl rfl) rfl rfl (.none rfl) (right2_call' _ _ _ _ _ _ _ _ _ _ _ _ _ _ (by assumption)) ?_
    refine G_val (V_assign rfl rfl) rfl rfl (.none rfl) ?_
    refine G_end (X_then (G_seq (G_region ?_)))
    refine G_val (V_move rfl rfl) rfl rfl (.none rfl) ?_
    refine G_val (V_neq rfl rfl rfl) rfl rfl (.none rfl) ?_
    refine G_end (X_then ?_)
    refine G_cond_t rfl (decide_eq_true (by omega)) ?_
    refine G_seq (G_region ?_)
    refine G_val (V_move rfl rfl) rfl rfl (.none rfl) ?_
    refine G_val (V_assign rfl rfl) rfl rfl (.none rfl) ?_
    refine G_val (V_assign rfl rfl) rfl rfl (.none rfl) ?_
    refine G_end (X_then (G_ret (X_then_ret ?_)))
    refine G_leaveS (.drop _ (.drop _ (.nil _))) (by exact (.cons (.tmp rfl) (.cons (.tmp rfl) (.nil)))) rfl ?_ ?_
    · exact hE9
    exact ⟨(by (simp (discharger := omega) only [resVal, hr, if_pos, if_neg]; first | done | rfl)), (by rfl)⟩
  rw [if_neg h]
  have h0 : bothL n a b c d n' a' b' c' d' = 0 := by omega
  have hn := begL_n h0
  obtain ⟨m, rfl⟩ : ∃ m : Nat, n = m := ⟨n.toNat, by omega⟩
  obtain ⟨m', rfl⟩ : ∃ m : Nat, n' = m := ⟨n'.toNat, by omega⟩
  by_cases hk : m' < m
  · rw [decide_eq_false (fun h1 => by have := h1.1; omega)]
    refine CallS.intro (l := [_, _]) _ Tryd.func27 rfl Tryd.ntmps27 rfl ?_
    refine G_seq (G_region ?_)
    (refine G_boxA rfl rfl rfl rfl (.none rfl) ?_; intro b2)
    (refine G_boxA rfl rfl rfl rfl (.none rfl) ?_; intro b3)
    refine G_val (V_assign rfl rfl) rfl rfl (.none rfl) ?_
    refine G_val (V_assign rfl rfl) rfl rfl (.none rfl) ?_
    refine G_end (X_then (G_seq (G_seq (G_region ?_))))
    refine G_val (V_loadA rfl rfl (Cells.own (.tail _ (.head _))) rfl) rfl rfl (.none rfl) ?_
    refine G_val (V_loadA rfl rfl (Cells.own (.head _)) rfl) rfl rfl (.none rfl) ?_
    (refine G_litZ rfl rfl (by decide) (by simp [fillS, zeros, setLs, setL, Value.cells, List.range, List.range.loop]; rfl) (by rfl) rfl rfl (.none rfl) ?_; intro b9 E9 hE9 hs9)
    refine G_callv (k := 47) (.mk rfl rfl rfl rfl) rfl rfl (.none rfl) (right2_call' _ _ _ _ _ _ _ _ _ _ _ _ _ _ (by assumption)) ?_
    refine G_val (V_assign rfl rfl) rfl rfl (.none rfl) ?_
    refine G_end (X_then (G_seq (G_region ?_)))
    refine G_val (V_move rfl rfl) rfl rfl (.none rfl) ?_
    refine G_val (V_neq rfl rfl rfl) rfl rfl (.none rfl) ?_
    refine G_end (X_then ?_)
    refine G_cond_f rfl (decide_eq_false (by omega)) ?_
    refine G_skip (X_then (G_seq ?_))
    refine G_draw mixed (by kernel_rfl) ?_
    refine Q_val (V_fieldAddr rfl rfl (by decide)) rfl rfl (.none rfl) ?_
    refine Q_val (V_load rfl rfl (Cell.own (.tail _ (.head _)) rfl)) rfl rfl (.none rfl) ?_
    refine Q_val (V_fieldAddr rfl rfl (by decide)) rfl rfl (.none rfl) ?_
    refine Q_val (V_load rfl rfl (Cell.own (.head _) rfl)) rfl rfl (.none rfl) ?_
    refine Q_val (V_leq rfl rfl rfl) rfl rfl (.none rfl) ?_
    refine Q_val (V_move rfl rfl) rfl rfl (.none rfl) ?_
    refine Q_bool_f 19 rfl (decide_eq_false (by omega)) ?_
    refine Q_stay (.no rfl rfl rfl rfl) rfl rfl ?_
    refine Q_stay (.no rfl rfl rfl rfl) rfl rfl ?_
    refine Q_stay (.no rfl rfl rfl rfl) rfl rfl ?_
    refine Q_stay (.no rfl rfl rfl rfl) rfl rfl ?_
    refine Q_stay (.no rfl rfl rfl rfl) rfl rfl ?_
    refine Q_stay (.no rfl rfl rfl rfl) rfl rfl ?_
    refine Q_stay (.no rfl rfl rfl rfl) rfl rfl ?_
    refine Q_stay (.no rfl rfl rfl rfl) rfl rfl ?_
    refine Q_val (V_pick_f rfl rfl rfl) rfl rfl (.none rfl) ?_
    refine Q_val (V_assign rfl rfl) rfl rfl (.none rfl) ?_
    refine Q_val (V_assign rfl rfl) rfl rfl (.none rfl) ?_
    refine Q_end ?_
    refine X_then (G_ret ?_)
    refine G_leaveS (.drop _ (.drop _ (.nil _))) (by exact (.cons (.tmp rfl) (.cons (.tmp rfl) (.nil)))) rfl ?_ ?_
    · exact hE9
    exact ⟨(by kernel_rfl), rfl⟩
  · have e : begP m a b c d m' a' b' c' d' ↔ ((if 0 < m then a' else 0) = a ∧ (if 1 < m then b' else 0) = b ∧ (if 2 < m then c' else 0) = c ∧ (if 3 < m then d' else 0) = d) := by
      unfold begP
      have q0 : ((0 : Int) < m) ↔ 0 < m := by omega
      have q1 : ((1 : Int) < m) ↔ 1 < m := by omega
      have q2 : ((2 : Int) < m) ↔ 2 < m := by omega
      have q3 : ((3 : Int) < m) ↔ 3 < m := by omega
      simp only [q0, q1, q2, q3]
      constructor
      · rintro ⟨_, h⟩; exact h
      · rintro h; exact ⟨by omega, h⟩
    have e' : decide (begP m a b c d m' a' b' c' d') = decide ((if 0 < m then a' else 0) = a ∧ (if 1 < m then b' else 0) = b ∧ (if 2 < m then c' else 0) = c ∧ (if 3 < m then d' else 0) = d) := decide_eq_decide.2 e
    rw [e']
    have e2 : min m' m = m := by omega
    refine CallS.intro (l := [_, _]) _ Tryd.func27 rfl Tryd.ntmps27 rfl ?_
    refine G_seq (G_region ?_)
    (refine G_boxA rfl rfl rfl rfl (.none rfl) ?_; intro b2)
    (refine G_boxA rfl rfl rfl rfl (.none rfl) ?_; intro b3)
    refine G_val (V_assign rfl rfl) rfl rfl (.none rfl) ?_
    refine G_val (V_assign rfl rfl) rfl rfl (.none rfl) ?_
    refine G_end (X_then (G_seq (G_seq (G_region ?_))))
    refine G_val (V_loadA rfl rfl (Cells.own (.tail _ (.head _))) rfl) rfl rfl (.none rfl) ?_
    refine G_val (V_loadA rfl rfl (Cells.own (.head _)) rfl) rfl rfl (.none rfl) ?_
    (refine G_litZ rfl rfl (by decide) (by simp [fillS, zeros, setLs, setL, Value.cells, List.range, List.range.loop]; rfl) (by rfl) rfl rfl (.none rfl) ?_; intro b9 E9 hE9 hs9)
    refine G_callv (k := 47) (.mk rfl rfl rfl rfl) rfl rfl (.none rfl) (right2_call' _ _ _ _ _ _ _ _ _ _ _ _ _ _ (by assumption)) ?_
    refine G_val (V_assign rfl rfl) rfl rfl (.none rfl) ?_
    refine G_end (X_then (G_seq (G_region ?_)))
    refine G_val (V_move rfl rfl) rfl rfl (.none rfl) ?_
    refine G_val (V_neq rfl rfl rfl) rfl rfl (.none rfl) ?_
    refine G_end (X_then ?_)
    refine G_cond_f rfl (decide_eq_false (by omega)) ?_
    refine G_skip (X_then (G_seq ?_))
    refine G_draw mixed (by kernel_rfl) ?_
    refine Q_val (V_fieldAddr rfl rfl (by decide)) rfl rfl (.none rfl) ?_
    refine Q_val (V_load rfl rfl (Cell.own (.tail _ (.head _)) rfl)) rfl rfl (.none rfl) ?_
    refine Q_val (V_fieldAddr rfl rfl (by decide)) rfl rfl (.none rfl) ?_
    refine Q_val (V_load rfl rfl (Cell.own (.head _) rfl)) rfl rfl (.none rfl) ?_
    refine Q_val (V_leq rfl rfl rfl) rfl rfl (.none rfl) ?_
    refine Q_val (V_move rfl rfl) rfl rfl (.none rfl) ?_
    refine Q_bool_t 19 rfl (decide_eq_true (by omega)) ?_
    refine Q_val (V_loadA rfl rfl (Cells.own (.head _)) rfl) rfl rfl (.yes rfl rfl rfl rfl) ?_
    refine Q_val (V_fieldAddr rfl rfl (by decide)) rfl rfl (.yes rfl rfl rfl rfl) ?_
    refine Q_val (V_load rfl rfl (Cell.own (.tail _ (.head _)) rfl)) rfl rfl (.yes rfl rfl rfl rfl) ?_
    refine Q_callv (k := 51) (.mk rfl rfl rfl rfl) rfl rfl (.yes rfl rfl rfl rfl) (cut_call _ _ _ _ _ _ _ (by omega) _) ?_
    dsimp only [Go.Proofs.YthcfakmmomfcaaaDoor.lk]
    refine Q_val (V_fieldA rfl rfl (by simp only [Nat.zero_add, List.drop_succ_cons, List.drop_zero, List.take_succ_cons, List.take_zero]; rfl)) rfl rfl (.yes rfl rfl rfl rfl) ?_
    refine Q_val (V_fieldAddr rfl rfl (by decide)) rfl rfl (.yes rfl rfl rfl rfl) ?_
    refine Q_val (V_loadF rfl rfl (.tail _ (.head _)) (by simp only [Nat.zero_add, List.drop_succ_cons, List.drop_zero, List.take_succ_cons, List.take_zero]; rfl) (by rfl)) rfl rfl (.yes rfl rfl rfl rfl) ?_
    refine Q_val (V_aeql_23 rfl rfl rfl) rfl rfl (.yes rfl rfl rfl rfl) ?_
    refine Q_val (V_pick_t rfl rfl rfl) rfl rfl (.none rfl) ?_
    refine Q_val (V_assign rfl rfl) rfl rfl (.none rfl) ?_
    refine Q_val (V_assign rfl rfl) rfl rfl (.none rfl) ?_
    refine Q_end ?_
    refine X_then (G_ret ?_)
    refine G_leaveS (.drop _ (.drop _ (.nil _))) (by exact (.cons (.tmp rfl) (.cons (.tmp rfl) (.nil)))) rfl ?_ ?_
    · exact hE9
    exact ⟨(by (simp [resVal, h0, *]; done)), (by rfl)⟩
end
end Go.Proofs.YthcfakmmomfcaaaDoor
