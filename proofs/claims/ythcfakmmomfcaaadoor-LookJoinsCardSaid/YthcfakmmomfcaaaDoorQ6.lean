/-
  Rules and contracts, packed: Sep32, A12, A13, A14, L3, A15, A16, A17, A18, A20, A19, A21, A22, A23, A24, A25.
-/
import Derived.Test.YthcfakmmomfcaaaDoorQ5
set_option maxHeartbeats 1000000
namespace Go.Proofs.YthcfakmmomfcaaaDoor
open Go.RowKit
section rules
variable {P : Program} {n : Nat} {ds : List Deferred} {fs : List (Nat × Value)} {E : Env} {L : List Res} {o : Oper}
theorem V_copy0 {x y : Operand} {t u e : TypeId} {sz' : Nat} {ag' : Bool} {z : Value} {bytes : Nat} [ht : Ty P t (.slice e) sz' ag'] [hi : Inf P e z 1 bytes] {p a : Option Addr} {dl dc m c : Nat}
    (ho : o.op = .call { callee := .builtin .copy, args := #[x, y], argTypes := #[t, u] }) (hx : ev fs x = some (.slice p dl dc)) (hy : ev fs y = some (.slice a m c)) (h0 : min m dl = 0) : Val P o fs E L (.int .i64 0) :=
  ⟨(by rw [ho]; intro c h; cases h), fun n ds a' w ha _ => by
    obtain ⟨i, hi1, _, hs1, _⟩ := hi.inf
    have hs : (P.info? e).map (·.size) = some 1 := by rw [hi1]; simp [hs1]
    have hrun := run_copy_none (P := P) w t u o.type e p a dl dc m c ht.und hs h0
    simp only [execOp, ho, resolve, invoke, builtin, Sem.run_bind, Sem.run_pure, Result.andThen_ok, List.map_toArray, List.map_cons, List.map_nil, ha.eval hx, ha.eval hy, hrun]; rfl⟩
variable {ops : Array Oper} {T : Act → Fam → Prop} {J : World → Prop} {π : List (Nat × Nat)} {i : Nat}
theorem F_makeNoZero {k : FuncId} {fn : Func} {t e : TypeId} {ps : Array TypeId} {m d : Nat} (hf : P.funcs[k]? = some fn) (hname : (fn.name == "runtime.NumGoroutine") = false) (hb : fn.body.isNone = true) (hfn : Extern.findNext fn = none)
    (he : Extern.find fn = some (Extern.BytealgMakeNoZero.makeNoZero ps #[t])) (hte : P.underlying t = some (.slice e)) (h0 : ops[i]? = some o) (ht : Goesto fs o k #[.int .i64 m]) (hm : m ≤ 140737488355328) (hd : o.dst = some d) (hn : Nat.blt d n = true) (hg : Goes ops fs o)
    (h : ∀ b c, m ≤ c → GF n ds ((d, .slice (some ⟨b, 0, none⟩) m c) :: fs) E (.sl e 1 (some ⟨b, 0, none⟩) 0 c [] :: L) (wpF P ops T J π)) : GF n ds fs E L (wpF P ops T J ((i, 3) :: π)) := fun a ha =>
  ⟨o, h0, by
    rw [if_pos (hg.wanted ha)]
    intro M w hw
    unfold Steps
    obtain ⟨f, xs, ts, vs, cap, ho, hfv, hx, hargs⟩ := ht
    have e1 := evs_args ha hx
    simp only [Array.toArray_toList] at e1
    have e2 := ha.eval hfv
    obtain ⟨cs, hrun, hc1, hc2⟩ := Lib.run_makeNoZero (P := P) w ps t e hte m (by omega)
    have e3 : (execOp a.eval o).run P w = .ok (.value (.slice (some ⟨w.heap.size, 0, none⟩) m cs.size)) (w.drew.drew.alloc (.cells cs e)) := by
      simp only [execOp, ho, resolve, e2, Deferred.ofValue, e1]
      simp [invoke, ← hargs, run_callFunc_extern hf hname hb hfn he, hrun, Result.andThen]
    rw [e3]
    have hst := ((hw.drew (w.drawn + 1)).drew (w.drawn + 2)).alloc (.cells cs e)
    have hst2 : St E (.blk w.heap.size (.cells cs e) :: (M ++ L)) (w.drew.drew.alloc (.cells cs e)) := hst
    have s2 : St E (.sl e 1 (some ⟨w.heap.size, 0, none⟩) 0 cs.size [] :: (M ++ L)) (w.drew.drew.alloc (.cells cs e)) := by
      refine hst2.conv (r' := .sl e 1 (some ⟨w.heap.size, 0, none⟩) 0 cs.size []) (by simp [Res.sl, Res.blk]) ?_
      exact ⟨rfl, .inr ⟨w.heap.size, cs, rfl, hst2.own _ (.head _), Nat.zero_le _, hc2 (by simp only [maxLen]; omega), by simp, by simp⟩⟩
    refine ⟨Fam.st E (.sl e 1 (some ⟨w.heap.size, 0, none⟩) 0 cs.size [] :: L), fun w' ⟨M', h'⟩ => ⟨M' ++ [_], by show St E ((M' ++ [_]) ++ L) w'; rw [List.append_assoc]; exact h'⟩, s2.perm List.perm_middle.symm, ?_⟩
    rw [hd]
    exact h _ _ hc1 _ (ha.put hn _)⟩
end rules
end Go.Proofs.YthcfakmmomfcaaaDoor
set_option linter.unusedSimpArgs false
set_option linter.unusedVariables false
set_option maxHeartbeats 2000000
set_option maxRecDepth 20000
namespace Go.Proofs.YthcfakmmomfcaaaDoor
open Go.RowKit
section
variable (E : Env) (L : List Res)
theorem grow_parts (b : Nat) (n : Nat) (hn : n ≤ 1000000) (u : Bool) :
    CallS Tryd.prog 69 #[.pointer (some ⟨b, 0, none⟩), .int .i64 n] E (.blk b (Bld.obj b u none 0 0) :: L)
      (fun r E' L' => ∃ a c, n ≤ c ∧ r = .tuple #[] ∧ E = E' ∧ L' = .blk b (Bld.obj b u (some ⟨a, 0, none⟩) 0 c) :: .sl 5 1 (some ⟨a, 0, none⟩) 0 c [] :: L) := by
  refine CallS.intro (l := [_, _]) _ Tryd.func69 rfl Tryd.ntmps69 rfl ?_
  simp only [Bld.obj]
  refine G_seq ?_
  refine G_drawX 16 [(0, 0), (1, 0), (2, 0), (3, 1), (4, 0), (5, 0), (6, 0), (7, 0), (9, 0), (10, 0), (11, 0), (12, 1), (8, 3), (13, 0), (14, 0), (15, 0)] mixed (by kernel_rfl) ?_
  refine F_pure rfl (fun _ _ => V_move rfl rfl) rfl rfl (.none rfl) ?_
  refine F_pure rfl (fun _ _ => V_nilCheck rfl rfl) rfl rfl (.none rfl) ?_
  refine F_pure rfl (fun _ _ => V_fieldAddr rfl rfl (by decide)) rfl rfl (.none rfl) ?_
  refine F_load rfl (.head _) (V_load rfl rfl (Cell.own (.head _) rfl)) rfl rfl (.none rfl) ?_
  refine F_pure rfl (fun _ _ => V_cap rfl rfl) rfl rfl (.none rfl) ?_
  refine F_pure rfl (fun _ _ => V_mul_i64 rfl rfl rfl (by omega) (by omega)) rfl rfl (.none rfl) ?_
  refine F_pure rfl (fun _ _ => V_move rfl rfl) rfl rfl (.none rfl) ?_
  refine F_pure rfl (fun _ _ => V_add_i64 rfl rfl rfl (by omega) (by omega)) rfl rfl (.none rfl) ?_
  refine F_pure rfl (fun _ _ => V_move rfl rfl) rfl rfl (.none rfl) ?_
  refine F_pure rfl (fun _ _ => V_nilCheck rfl rfl) rfl rfl (.none rfl) ?_
  refine F_pure rfl (fun _ _ => V_fieldAddr rfl rfl (by decide)) rfl rfl (.none rfl) ?_
  refine F_load rfl (.head _) (V_load rfl rfl (Cell.own (.head _) rfl)) rfl rfl (.none rfl) ?_
  have e12 : (2 * ((0 : Nat) : Int) + (n : Int)) = ((n : Nat) : Int) := by omega
  rw [e12]
  refine F_makeNoZero (t := 68) (e := 5) (ps := #[3]) Tryd.func79 (by kernel_rfl) (by kernel_rfl) (by kernel_rfl) (by kernel_rfl) Tryd.underlying68 rfl (.mk rfl rfl rfl rfl) (by omega) rfl rfl (.none rfl) ?_
  intro a13 c13 hc13
  refine F_pure rfl (fun _ _ => V_lenS rfl rfl) rfl rfl (.none rfl) ?_
  refine F_pure rfl (fun _ _ => V_slHead rfl rfl rfl (by omega) (by omega)) rfl rfl (.none rfl) ?_
  refine F_pure rfl (fun _ _ => V_assign rfl rfl) rfl rfl (.none rfl) ?_
  (refine F_end (.nil _) ?_; dsimp only [List.drop])
  refine G_end (X_then (G_seq (G_region ?_)))
  refine G_val (V_move rfl rfl) rfl rfl (.none rfl) ?_
  refine G_val (V_move rfl rfl) rfl rfl (.none rfl) ?_
  refine G_val (V_nilCheck rfl rfl) rfl rfl (.none rfl) ?_
  refine G_val (V_fieldAddr rfl rfl (by decide)) rfl rfl (.none rfl) ?_
  refine G_val (V_load rfl rfl (Cell.own (.tail _ (.head _)) rfl)) rfl rfl (.none rfl) ?_
  refine G_val (V_copy0 rfl rfl rfl rfl) rfl rfl (.none rfl) ?_
  refine G.front (.tail _ (.head _ _)) ?_
  refine G_end (X_then (G_region ?_))
  refine G_val (V_move rfl rfl) rfl rfl (.none rfl) ?_
  refine G_val (V_move rfl rfl) rfl rfl (.none rfl) ?_
  refine G_val (V_nilCheck rfl rfl) rfl rfl (.none rfl) ?_
  refine G_val (V_fieldAddr rfl rfl (by decide)) rfl rfl (.none rfl) ?_
  refine G_storeAt rfl rfl rfl rfl rfl rfl (.none rfl) (.head _ _ _) (Nat.le_of_ble_eq_true rfl) (by simp only [putAll, Nat.zero_add, Nat.reduceAdd, List.setIfInBounds_toArray, List.set_cons_succ, List.set_cons_zero]; rfl) ?_
  refine G_end ?_
  refine G_leaveS_n (.keep _ (.keep _ (.nil _))) (by exact (.nil)) rfl ?_ ?_
  · exact (.refl _)
  exact ⟨_, ⟨_, ⟨(by assumption), ⟨(by kernel_rfl), ⟨rfl, rfl⟩⟩⟩⟩⟩
theorem Grow_parts (b : Nat) (n : Nat) (hn : n ≤ 1000000) (h1 : 1 ≤ n) :
    CallS Tryd.prog 60 #[.pointer (some ⟨b, 0, none⟩), .int .i64 n] E (.blk b (Bld.obj b false none 0 0) :: L)
      (fun r E' L' => ∃ a c, n ≤ c ∧ r = .tuple #[] ∧ E = E' ∧ L' = .blk b (Bld.obj b true (some ⟨a, 0, none⟩) 0 c) :: .sl 5 1 (some ⟨a, 0, none⟩) 0 c [] :: L) := by
  refine CallS.intro (l := [_, _]) _ Tryd.func60 rfl Tryd.ntmps60 rfl ?_
  refine G_seq (G_region ?_)
  refine G_val (V_move rfl rfl) rfl rfl (.none rfl) ?_
  refine G_call (k := 68) (.mk rfl rfl rfl rfl) rfl rfl (.none rfl) (copyCheck_call _ _ b false none 0 0) ?_
  rintro r1 E1 L1 hE1 ⟨rfl, rfl, rfl⟩
  simp only [Bld.obj]
  refine G_end (X_then (G_seq (G_seq (G_region ?_))))
  refine G_val (V_move rfl rfl) rfl rfl (.none rfl) ?_
  refine G_val (V_lss rfl rfl rfl) rfl rfl (.none rfl) ?_
  refine G_end (X_then ?_)
  refine G_cond_f rfl (decide_eq_false (by omega)) ?_
  refine G_skip (X_then (G_seq ?_))
  refine G_draw mixed (by kernel_rfl) ?_
  refine Q_val (V_move rfl rfl) rfl rfl (.none rfl) ?_
  refine Q_val (V_nilCheck rfl rfl) rfl rfl (.none rfl) ?_
  refine Q_val (V_fieldAddr rfl rfl (by decide)) rfl rfl (.none rfl) ?_
  refine Q_val (V_load rfl rfl (Cell.own (.head _) rfl)) rfl rfl (.none rfl) ?_
  refine Q_val (V_cap rfl rfl) rfl rfl (.none rfl) ?_
  refine Q_val (V_move rfl rfl) rfl rfl (.none rfl) ?_
  refine Q_val (V_nilCheck rfl rfl) rfl rfl (.none rfl) ?_
  refine Q_val (V_fieldAddr rfl rfl (by decide)) rfl rfl (.none rfl) ?_
  refine Q_val (V_load rfl rfl (Cell.own (.head _) rfl)) rfl rfl (.none rfl) ?_
  refine Q_val (V_lenS rfl rfl) rfl rfl (.none rfl) ?_
  refine Q_val (V_sub_i64 rfl rfl rfl (by omega) (by omega)) rfl rfl (.none rfl) ?_
  refine Q_val (V_move rfl rfl) rfl rfl (.none rfl) ?_
  refine Q_val (V_lss rfl rfl rfl) rfl rfl (.none rfl) ?_
  refine Q_end ?_
  refine X_then ?_
  refine G_cond_t rfl (decide_eq_true (by omega)) ?_
  refine G_region ?_
  refine G_val (V_move rfl rfl) rfl rfl (.none rfl) ?_
  refine G_val (V_move rfl rfl) rfl rfl (.none rfl) ?_
  refine G_call (k := 69) (.mk rfl rfl rfl rfl) rfl rfl (.none rfl) (grow_parts _ _ b n hn true) ?_
  rintro r2 E2 L2 hE2 ⟨a, c, hc, rfl, rfl, rfl⟩
  refine G_end ?_
  refine G_leaveS_n (.keep _ (.keep _ (.nil _))) (by exact (.nil)) rfl ?_ ?_
  · exact (.refl _)
  exact ⟨_, ⟨_, ⟨(by assumption), ⟨(by kernel_rfl), ⟨rfl, rfl⟩⟩⟩⟩⟩
theorem Grow_call (b : Nat) (n : Nat) (hn : n ≤ 1000000) (h1 : 1 ≤ n) :
    CallS Tryd.prog 60 #[.pointer (some ⟨b, 0, none⟩), .int .i64 n] E (.bld b Bld.new :: L)
      (fun r E' L' => ∃ t, r = .tuple #[] ∧ E = E' ∧ t.xs = [] ∧ t.xs.length = 0 ∧ L' = .bld b t :: L) := fun w hw => by
  have hw2 := St.both.1 hw
  have hw3 : St E (.blk b (Bld.obj b false none 0 0) :: .sl 5 1 none 0 0 [] :: L) w := hw2
  have hw4 := (hw3.perm (List.Perm.swap _ _ _)).drop
  refine (Grow_parts E L b n hn h1 w hw4).mono ?_
  rintro e w' ⟨r, E', L', he, hE, hs, a', c', hc, hr, hE', hL⟩
  subst hL
  exact ⟨r, E', .bld b ⟨true, some ⟨a', 0, none⟩, c', [], .inr (by omega)⟩ :: L, he, hE, St.both.2 hs, _, hr, hE', rfl, rfl, rfl⟩
end
end Go.Proofs.YthcfakmmomfcaaaDoor
set_option linter.unusedSimpArgs false
set_option linter.unusedVariables false
set_option maxHeartbeats 2000000
set_option maxRecDepth 20000
namespace Go.Proofs.YthcfakmmomfcaaaDoor
open Go.RowKit
def jnS : List (List UInt8) → List UInt8
  | [] => []
  | x :: l => x ++ l.flatMap fun y => 32 :: y
theorem jnS_snoc (xs : List (List UInt8)) (v : List UInt8) (h : xs ≠ []) : jnS (xs ++ [v]) = (jnS xs ++ [32]) ++ v := by
  rcases xs with _ | ⟨x, xs⟩
  · exact absurd rfl h
  · simp [jnS]
section
variable (E : Env) (L : List Res)
theorem Join1_call (p : Option Addr) (c : Nat) (x : List UInt8) (hx : SlE E 1 p 1 (strs [x])) : CallV Tryd.prog 50 #[.slice p 1 c, .string (S [32])] E L (.string (S x)) := by
  have h0 := strs_get (l := [x]) (k := 0) (s := x) rfl
  refine CallS.toV (CallS.intro (l := [_, _]) _ Tryd.func50 rfl Tryd.ntmps50 rfl ?_)
  refine G_seq (G_region ?_)
  refine G_val (V_assign rfl rfl) rfl rfl (.none rfl) ?_
  refine G_end (X_then (G_seq (G_seq (G_region ?_))))
  refine G_val (V_move rfl rfl) rfl rfl (.none rfl) ?_
  refine G_val (V_lenS rfl rfl) rfl rfl (.none rfl) ?_
  refine G_end (X_then (G_block (G_seq (G_region ?_))))
  refine G_val (V_eql rfl rfl rfl) rfl rfl (.none rfl) ?_
  refine G_val (V_assign rfl rfl) rfl rfl (.none rfl) ?_
  refine G_end (X_then ?_)
  refine G_cond_f rfl (by kernel_rfl) ?_
  refine G_seq (G_region ?_)
  refine G_val (V_eql rfl rfl rfl) rfl rfl (.none rfl) ?_
  refine G_val (V_assign rfl rfl) rfl rfl (.none rfl) ?_
  refine G_end (X_then ?_)
  refine G_cond_t rfl (by kernel_rfl) ?_
  refine G_seq (G_region ?_)
  refine G_val (V_move rfl rfl) rfl rfl (.none rfl) ?_
  refine G_val (V_idxAddr rfl rfl rfl (SlE.rd (by assumption)) (by omega) (by omega)) rfl rfl (.none rfl) ?_
  refine G_val (V_loadS rfl rfl (SlE.rd (by assumption)) (by assumption) (by simp)) rfl rfl (.none rfl) ?_
  refine G_val (V_assign rfl rfl) rfl rfl (.none rfl) ?_
  refine G_end (X_then (G_ret (X_block_ret (X_then_ret ?_))))
  refine G_leaveS (.nil _) (by exact (.cons (.tmp rfl) (.nil))) rfl ?_ ?_
  · exact (.refl _)
  exact ⟨rfl, rfl⟩
theorem JoinN_call (p : Option Addr) (n c : Nat) (xs : List (List UInt8)) (hx : SlE E 1 p n (strs xs)) (hc : n ≤ c) (h2 : 2 ≤ n) (h4 : n ≤ 4) (h1 : ∀ i (h : i < xs.length), xs[i].length = 1) : CallV Tryd.prog 50 #[.slice p n c, .string (S [32])] E L (.string (S (jnS xs))) := by
  have e := hx.nS
  subst e
  have hq : ¬ (IntKind.i64.wrap ((9223372036854775807 : Int).tdiv (xs.length - 1)) ≤ ((([32] : List UInt8).length : Nat) : Int)) := by
    have : xs.length = 2 ∨ xs.length = 3 ∨ xs.length = 4 := by omega
    rcases this with h | h | h <;> rw [h] <;> decide
  have e5 : IntKind.i64.wrap (0 + IntKind.i64.wrap (((([32] : List UInt8).length : Nat) : Int) * (xs.length - 1))) = ((xs.length - 1 + 0 : Nat) : Int) := by
    have : xs.length = 2 ∨ xs.length = 3 ∨ xs.length = 4 := by omega
    rcases this with h | h | h <;> rw [h] <;> decide
  refine CallS.toV (CallS.intro (l := [_, _]) _ Tryd.func50 rfl Tryd.ntmps50 rfl ?_)
  refine G_seq (G_region ?_)
  refine G_val (V_assign rfl rfl) rfl rfl (.none rfl) ?_
  refine G_end (X_then (G_seq (G_seq (G_region ?_))))
  refine G_val (V_move rfl rfl) rfl rfl (.none rfl) ?_
  refine G_val (V_lenS rfl rfl) rfl rfl (.none rfl) ?_
  refine G_end (X_then (G_block (G_seq (G_region ?_))))
  refine G_val (V_eql rfl rfl rfl) rfl rfl (.none rfl) ?_
  refine G_val (V_assign rfl rfl) rfl rfl (.none rfl) ?_
  refine G_end (X_then ?_)
  refine G_cond_f rfl (decide_eq_false (by omega)) ?_
  refine G_seq (G_region ?_)
  refine G_val (V_eql rfl rfl rfl) rfl rfl (.none rfl) ?_
  refine G_val (V_assign rfl rfl) rfl rfl (.none rfl) ?_
  refine G_end (X_then ?_)
  refine G_cond_f rfl (decide_eq_false (by omega)) ?_
  refine G_skip (X_block (X_then (G_seq (G_region ?_))))
  refine G_val (V_assign rfl rfl) rfl rfl (.none rfl) ?_
  refine G_end (X_then (G_seq (G_seq (G_region ?_))))
  refine G_val (V_move rfl rfl) rfl rfl (.none rfl) ?_
  refine G_val (V_len rfl rfl) rfl rfl (.none rfl) ?_
  refine G_val (V_gtr rfl rfl rfl) rfl rfl (.none rfl) ?_
  refine G_end (X_then ?_)
  refine G_cond_t rfl (by kernel_rfl) ?_
  refine G_seq (G_seq (G_region ?_))
  refine G_val (V_move rfl rfl) rfl rfl (.none rfl) ?_
  refine G_val (V_len rfl rfl) rfl rfl (.none rfl) ?_
  refine G_val (V_move rfl rfl) rfl rfl (.none rfl) ?_
  refine G_val (V_lenS rfl rfl) rfl rfl (.none rfl) ?_
  refine G_val (V_sub_i64 rfl rfl rfl (by omega) (by omega)) rfl rfl (.none rfl) ?_
  refine G_val (V_quo rfl rfl rfl (by omega)) rfl rfl (.none rfl) ?_
  refine G_val (V_geq rfl rfl rfl) rfl rfl (.none rfl) ?_
  refine G_end (X_then ?_)
  refine G_cond_f rfl (decide_eq_false (by omega)) ?_
  refine G_skip (X_then (G_region ?_))
  refine G_val (V_move rfl rfl) rfl rfl (.none rfl) ?_
  refine G_val (V_move rfl rfl) rfl rfl (.none rfl) ?_
  refine G_val (V_len rfl rfl) rfl rfl (.none rfl) ?_
  refine G_val (V_move rfl rfl) rfl rfl (.none rfl) ?_
  refine G_val (V_lenS rfl rfl) rfl rfl (.none rfl) ?_
  refine G_val (V_sub_i64 rfl rfl rfl (by omega) (by omega)) rfl rfl (.none rfl) ?_
  refine G_val (V_mul rfl rfl rfl) rfl rfl (.none rfl) ?_
  refine G_val (V_add rfl rfl rfl) rfl rfl (.none rfl) ?_
  refine G_val (V_assign rfl rfl) rfl rfl (.none rfl) ?_
  refine G_end (X_then (G_seq (G_seq (G_region ?_))))
  refine G_val (V_move rfl rfl) rfl rfl (.none rfl) ?_
  refine G_val (V_lenS rfl rfl) rfl rfl (.none rfl) ?_
  refine G_val (V_move rfl rfl) rfl rfl (.none rfl) ?_
  refine G_end (X_then (G_block ?_))
  rw [e5]
  refine G_loop (α := Nat) (fun i => [(0, .slice p xs.length c), (1, .string (S [32])), (5, .int .i64 ((xs.length - 1 + i : Nat) : Int)), (39, .slice p xs.length c), (40, .int .i64 xs.length), (41, .int .i64 (i : Nat))]) (fun _ => E) (fun _ => L)
    (fun i => i ≤ xs.length) (fun i => xs.length - i) 0 (Nat.zero_le _) ⟨rfl, rfl, rfl, rfl, rfl, rfl, trivial⟩ rfl rfl ?_
  rintro i hi
  by_cases hlt : i < xs.length
  · have h0 := strs_get (List.getElem?_eq_getElem hlt)
    have h5 := h1 i hlt
    refine G_seq (G_region ?_)
    refine G_val (V_lss rfl rfl rfl) rfl rfl (.none rfl) ?_
    refine G_end (X_then (G_seq ?_))
    refine G_cond_t rfl (decide_eq_true (by omega)) ?_
    refine G_skip (X_then (G_seq (G_block (G_seq (G_region ?_)))))
    refine G_val (V_idxAddr rfl rfl rfl (SlE.rd (by assumption)) (by omega) (by omega)) rfl rfl (.none rfl) ?_
    refine G_val (V_loadS rfl rfl (SlE.rd (by assumption)) (by assumption) (by simp)) rfl rfl (.none rfl) ?_
    refine G_val (V_assign rfl rfl) rfl rfl (.none rfl) ?_
    refine G_end (X_then (G_seq (G_seq (G_region ?_))))
    refine G_val (V_move rfl rfl) rfl rfl (.none rfl) ?_
    refine G_val (V_len rfl rfl) rfl rfl (.none rfl) ?_
    refine G_val (V_move rfl rfl) rfl rfl (.none rfl) ?_
    refine G_val (V_sub_i64 rfl rfl rfl (by omega) (by omega)) rfl rfl (.none rfl) ?_
    refine G_val (V_gtr rfl rfl rfl) rfl rfl (.none rfl) ?_
    refine G_end (X_then ?_)
    refine G_cond_f rfl (decide_eq_false (by omega)) ?_
    refine G_skip (X_then (G_region ?_))
    refine G_val (V_move rfl rfl) rfl rfl (.none rfl) ?_
    refine G_val (V_move rfl rfl) rfl rfl (.none rfl) ?_
    refine G_val (V_len rfl rfl) rfl rfl (.none rfl) ?_
    refine G_val (V_add_i64 rfl rfl rfl (by omega) (by omega)) rfl rfl (.none rfl) ?_
    refine G_val (V_assign rfl rfl) rfl rfl (.none rfl) ?_
    refine G_end (X_block (X_then (G_region ?_)))
    refine G_val (V_add_i64 rfl rfl rfl (by omega) (by omega)) rfl rfl (.none rfl) ?_
    refine G_val (V_move rfl rfl) rfl rfl (.none rfl) ?_
    refine G_end (X_then ?_)
    rw [show ((xs.length - 1 + i : Nat) : Int) + (xs[i].length : Nat) = ((xs.length - 1 + (i + 1) : Nat) : Int) by omega]
    exact G_again (i + 1) hlt (by omega) ⟨rfl, rfl, rfl, rfl, rfl, rfl, trivial⟩ rfl rfl
  · obtain rfl : i = xs.length := by omega
    have h0 := strs_get (List.getElem?_eq_getElem (l := xs) (i := 0) (by omega))
    have h5 := h1 0 (by omega)
    have htl : SlE E 1 (tailAt p 1 c 1) (xs.length - 1) (strs (xs.drop 1)) := by
      have := hx.tail (l := 1) (c := c) (by omega) hc
      simpa [strs] using this
    refine G_seq (G_region ?_)
    refine G_val (V_lss rfl rfl rfl) rfl rfl (.none rfl) ?_
    refine G_end (X_then (G_seq ?_))
    refine G_cond_f rfl (decide_eq_false (by omega)) ?_
    refine G_exit (X_then_exit (X_then_exit (X_block_hit (X_then (G_seq (G_region ?_))))))
    (refine G_alloc rfl rfl rfl (.none rfl) ?_; intro b8)
    refine G_end (X_then (G_seq (G_region ?_)))
    refine G_val (V_move rfl rfl) rfl rfl (.none rfl) ?_
    refine G.bldNew ?_
    refine G_call (k := 60) (.mk rfl rfl rfl rfl) rfl rfl (.none rfl) (Grow_call _ _ _ _ (by omega) (by omega)) ?_
    rintro r1 E2 L3 hE4 ⟨z5, ⟨rfl, ⟨rfl, ⟨Z6, ⟨Z7, rfl⟩⟩⟩⟩⟩
    replace hx := hx.mono hE4
    replace htl := htl.mono hE4
    refine G_end (X_then (G_seq (G_region ?_)))
    refine G_val (V_move rfl rfl) rfl rfl (.none rfl) ?_
    refine G_val (V_idxAddr rfl rfl rfl (SlE.rd (by assumption)) (by omega) (by omega)) rfl rfl (.none rfl) ?_
    refine G_val (V_loadS rfl rfl (SlE.rd (by assumption)) (by assumption) (by simp)) rfl rfl (.none rfl) ?_
    refine G_call (k := 61) (.mk rfl rfl rfl rfl) rfl rfl (.none rfl) (WriteString_call _ _ _ _ _ (by omega)) ?_
    rintro r8 E9 L10 hE11 ⟨z12, ⟨rfl, ⟨rfl, ⟨Z13, ⟨Z14, rfl⟩⟩⟩⟩⟩
    replace hx := hx.mono hE11
    replace htl := htl.mono hE11
    refine G_end (X_then (G_seq (G_seq (G_region ?_))))
    refine G_val (V_move rfl rfl) rfl rfl (.none rfl) ?_
    refine G_val (V_slTail1 rfl rfl rfl (by omega)) rfl rfl (.none rfl) ?_
    refine G_val (V_lenS rfl rfl) rfl rfl (.none rfl) ?_
    refine G_val (V_move rfl rfl) rfl rfl (.none rfl) ?_
    refine G_end (X_then (G_block ?_))
    have hs1 : jnS (xs.take (0 + 1)) = xs[0] := by
      rw [List.take_succ_eq_append_getElem (by omega)]; simp [jnS]
    rw [Z6, List.nil_append, ← hs1] at Z13
    rw [Z7, h5] at Z14
    refine G_loop (α := Nat × Bld) (fun x => [(1, .string (S [32])), (8, .pointer (some ⟨b8, 0, none⟩)), (63, .slice (tailAt p 1 c 1) (xs.length - 1) (c - 1)), (64, .int .i64 (xs.length - 1 : Nat)), (65, .int .i64 (x.1 : Nat))]) (fun _ => E9)
      (fun x => .bld b8 x.2 :: L) (fun x => x.1 ≤ xs.length - 1 ∧ x.2.xs = jnS (xs.take (x.1 + 1)) ∧ x.2.xs.length ≤ 2 * x.1 + 1) (fun x => xs.length - x.1) (0, z12) ⟨Nat.zero_le _, Z13, by show z12.xs.length ≤ _; omega⟩ ⟨rfl, rfl, rfl, rfl, rfl, trivial⟩ rfl rfl ?_
    rintro ⟨j, t⟩ ⟨hj, ht, htl2⟩
    simp only at hj ht htl2 ⊢
    by_cases hltj : j < xs.length - 1
    · have hg : (strs (xs.drop 1))[j]? = some (.string (S (xs[1 + j]'(by omega)))) := strs_get (by rw [List.getElem?_drop, List.getElem?_eq_getElem (by omega)])
      have h6 := h1 (1 + j) (by omega)
      have hsn : jnS (xs.take (j + 1 + 1)) = (jnS (xs.take (j + 1)) ++ [32]) ++ xs[1 + j]'(by omega) := by
        rw [List.take_succ_eq_append_getElem (by omega), jnS_snoc _ _ (fun h => by have := congrArg List.length h; rw [List.length_take, List.length_nil] at this; omega)]
        congr 2
        omega
      have h32 : ([32] : List UInt8).length = 1 := rfl
      clear hx h0
      refine G_seq (G_region ?_)
      refine G_val (V_lss rfl rfl rfl) rfl rfl (.none rfl) ?_
      refine G_end (X_then (G_seq ?_))
      refine G_cond_t rfl (decide_eq_true (by omega)) ?_
      refine G_skip (X_then (G_seq (G_block (G_seq (G_region ?_)))))
      refine G_val (V_idxAddr rfl rfl rfl (SlE.rd (by assumption)) (by omega) (by omega)) rfl rfl (.none rfl) ?_
      refine G_val (V_loadS rfl rfl (SlE.rd (by assumption)) (by assumption) (by simp)) rfl rfl (.none rfl) ?_
      refine G_val (V_assign rfl rfl) rfl rfl (.none rfl) ?_
      refine G_end (X_then (G_seq (G_region ?_)))
      refine G_val (V_move rfl rfl) rfl rfl (.none rfl) ?_
      refine G_call (k := 61) (.mk rfl rfl rfl rfl) rfl rfl (.none rfl) (WriteString_call _ _ _ _ _ (by omega)) ?_
      rintro r1 E2 L3 hE5 ⟨z6, ⟨rfl, ⟨rfl, ⟨Z8, ⟨Z9, rfl⟩⟩⟩⟩⟩
      replace htl := htl.mono hE5
      refine G_end (X_then (G_region ?_))
      refine G_val (V_move rfl rfl) rfl rfl (.none rfl) ?_
      refine G_call (k := 61) (.mk rfl rfl rfl rfl) rfl rfl (.none rfl) (WriteString_call _ _ _ _ _ (by omega)) ?_
      rintro r10 E11 L12 hE13 ⟨z14, ⟨rfl, ⟨rfl, ⟨Z15, ⟨Z16, rfl⟩⟩⟩⟩⟩
      replace htl := htl.mono hE13
      refine G_end (X_block (X_then (G_region ?_)))
      refine G_val (V_add_i64 rfl rfl rfl (by omega) (by omega)) rfl rfl (.none rfl) ?_
      refine G_val (V_move rfl rfl) rfl rfl (.none rfl) ?_
      refine G_end (X_then ?_)
      exact G_again (j + 1, z14) ⟨by show j + 1 ≤ _; omega, by show z14.xs = _; rw [Z15, Z8, ht, hsn], by show z14.xs.length ≤ 2 * (j + 1) + 1; omega⟩ (by show xs.length - (j + 1) < xs.length - j; omega) ⟨rfl, rfl, rfl, rfl, rfl, trivial⟩ rfl rfl
    · obtain rfl : j = xs.length - 1 := by omega
      rw [show xs.length - 1 + 1 = xs.length by omega, List.take_length] at ht
      rw [← ht]
      refine G_seq (G_region ?_)
      refine G_val (V_lss rfl rfl rfl) rfl rfl (.none rfl) ?_
      refine G_end (X_then (G_seq ?_))
      refine G_cond_f rfl (decide_eq_false (by omega)) ?_
      refine G_exit (X_then_exit (X_then_exit (X_block_hit (X_then (G_seq (G_region ?_))))))
      refine G_call (k := 62) (.mk rfl rfl rfl rfl) rfl rfl (.none rfl) (BString_call _ _ _ _ (by omega)) ?_
      rintro r1 E2 L3 hE5 ⟨rfl, ⟨rfl, rfl⟩⟩
      replace hx := hx.mono hE5
      replace htl := htl.mono hE5
      refine G_val (V_assign rfl rfl) rfl rfl (.none rfl) ?_
      refine G_end (X_then (G_ret ?_))
      refine G_leaveS (.nil _) (by exact (.cons (.tmp rfl) (.nil))) rfl ?_ ?_
      · exact (.refl _)
      exact ⟨rfl, rfl⟩
end
end Go.Proofs.YthcfakmmomfcaaaDoor
set_option linter.unusedSimpArgs false
set_option linter.unusedVariables false
set_option maxHeartbeats 2000000
set_option maxRecDepth 20000
namespace Go.Proofs.YthcfakmmomfcaaaDoor
open Go.RowKit
def dgs (l : List Int) : List (List UInt8) := l.map fun x => [dgb x]
theorem jnS_dgs (l : List Int) : jnS (dgs l) = txR l := by
  rcases l with _ | ⟨x, l⟩
  · rfl
  · simp [jnS, dgs, txR, List.flatMap_map]
theorem dgs_one (l : List Int) (i : Nat) (h : i < (dgs l).length) : (dgs l)[i].length = 1 := by simp [dgs]
section
variable (E : Env) (L : List Res)
theorem Text_call (n a b c d : Int) : CallS Tryd.prog 16 #[lk n a b c d] E L (fun r E' L' => r = .tuple #[.string (S (txM n a b c d).1), .int .i64 (txM n a b c d).2] ∧ L = L') := by
  unfold txM
  generalize hr : ckL n a b c d 8 = r
  by_cases h : r ≠ 0
  · rw [if_pos h]
    refine CallS.intro (l := [_]) _ Tryd.func16 rfl Tryd.ntmps16 rfl ?_
    refine G_seq (G_region ?_)
    (refine G_boxA rfl rfl rfl rfl (.none rfl) ?_; intro b1)
    refine G_val (V_assign rfl rfl) rfl rfl (.none rfl) ?_
    refine G_val (V_assign rfl rfl) rfl rfl (.none rfl) ?_
    refine G_end (X_then (G_seq (G_seq (G_region ?_))))
    refine G_val (V_loadA rfl rfl (Cells.own (.head _)) rfl) rfl rfl (.none rfl) ?_
    (refine G_lit rfl rfl (by decide) (by simp [fillS, zeros, setLs, setL, Value.cells, List.range, List.range.loop]; rfl) rfl rfl (.none rfl) ?_; intro b9)
    refine G.freezeB (k := 1) (sz := 5) (.head _ _) rfl ?_
    intro E9 hE9 hs9
    refine G_callv (k := 47) (.mk rfl rfl rfl rfl) rfl rfl (.none rfl) (right1_call _ _ _ _ n a b c d 8 hs9) ?_
    rw [hr]
    refine G_val (V_assign rfl rfl) rfl rfl (.none rfl) ?_
    refine G_end (X_then (G_seq (G_region ?_)))
    refine G_val (V_move rfl rfl) rfl rfl (.none rfl) ?_
    refine G_val (V_neq rfl rfl rfl) rfl rfl (.none rfl) ?_
    refine G_end (X_then ?_)
    refine G_cond_t rfl (decide_eq_true (by omega)) ?_
    refine G_seq (G_region ?_)
    refine G_val (V_move rfl rfl) rfl rfl (.none rfl) ?_
    refine G_val (V_assign rfl rfl) rfl rfl (.none rfl) ?_
    refine G_val (V_assign rfl rfl) rfl rfl (.none rfl) ?_
    refine G_end (X_then (G_ret (X_then_ret ?_)))
    refine G_leaveS (.drop _ (.nil _)) (by exact (.cons (.tmp rfl) (.cons (.tmp rfl) (.nil)))) rfl ?_ ?_
    · exact hE9
    exact ⟨rfl, rfl⟩
  rw [if_neg h]
  have h0 : ckL n a b c d 8 = 0 := by omega
  have hn := ckL_n h0
  obtain ⟨m, rfl⟩ : ∃ m : Nat, n = m := ⟨n.toNat, by omega⟩
  have hS := ckL_S h0
  by_cases hm : m = 0
  · subst hm
    show CallS _ _ _ _ _ (fun r E' L' => r = .tuple #[.string (S [45]), .int .i64 0] ∧ L = L')
    refine CallS.intro (l := [_]) _ Tryd.func16 rfl Tryd.ntmps16 rfl ?_
    refine G_seq (G_region ?_)
    (refine G_boxA rfl rfl rfl rfl (.none rfl) ?_; intro b1)
    refine G_val (V_assign rfl rfl) rfl rfl (.none rfl) ?_
    refine G_val (V_assign rfl rfl) rfl rfl (.none rfl) ?_
    refine G_end (X_then (G_seq (G_seq (G_region ?_))))
    refine G_val (V_loadA rfl rfl (Cells.own (.head _)) rfl) rfl rfl (.none rfl) ?_
    (refine G_lit rfl rfl (by decide) (by simp [fillS, zeros, setLs, setL, Value.cells, List.range, List.range.loop]; rfl) rfl rfl (.none rfl) ?_; intro b9)
    refine G.freezeB (k := 1) (sz := 5) (.head _ _) rfl ?_
    intro E9 hE9 hs9
    refine G_callv (k := 47) (.mk rfl rfl rfl rfl) rfl rfl (.none rfl) (right1_call _ _ _ _ (0 : Nat) a b c d 8 hs9) ?_
    rw [h0]
    refine G_val (V_assign rfl rfl) rfl rfl (.none rfl) ?_
    refine G_end (X_then (G_seq (G_region ?_)))
    refine G_val (V_move rfl rfl) rfl rfl (.none rfl) ?_
    refine G_val (V_neq rfl rfl rfl) rfl rfl (.none rfl) ?_
    refine G_end (X_then ?_)
    refine G_cond_f rfl (by kernel_rfl) ?_
    refine G_skip (X_then (G_seq (G_seq (G_region ?_))))
    refine G_val (V_fieldAddr rfl rfl (by decide)) rfl rfl (.none rfl) ?_
    refine G_val (V_load rfl rfl (Cell.own (.head _) rfl)) rfl rfl (.none rfl) ?_
    refine G_val (V_eql rfl rfl rfl) rfl rfl (.none rfl) ?_
    refine G_end (X_then ?_)
    refine G_cond_t rfl (by kernel_rfl) ?_
    refine G_seq (G_region ?_)
    refine G_val (V_assign rfl rfl) rfl rfl (.none rfl) ?_
    refine G_val (V_assign rfl rfl) rfl rfl (.none rfl) ?_
    refine G_end (X_then (G_ret (X_then_ret ?_)))
    refine G_leaveS (.drop _ (.nil _)) (by exact (.cons (.tmp rfl) (.cons (.tmp rfl) (.nil)))) rfl ?_ ?_
    · exact hE9
    exact ⟨(by kernel_rfl), rfl⟩
  rw [if_neg (by omega)]
  simp only [Int.toNat_natCast]
  obtain ⟨X, hX⟩ : ∃ X, [a, b, c, d].take m = X := ⟨_, rfl⟩
  have hl := take4_len m a b c d (by omega)
  rw [hX] at hl
  have hXS : ∀ j (h : j < X.length), 0 ≤ X[j] ∧ X[j] < 10 := fun j hj => by
    have h1 := hS j (by omega)
    have h2 : gd [a, b, c, d] j = X[j] := by rw [← gd_take _ m _ (by omega), hX]; simp [List.getD, hj]
    omega
  rw [hX]
  refine CallS.intro (l := [_]) _ Tryd.func16 rfl Tryd.ntmps16 rfl ?_
  refine G_seq (G_region ?_)
  (refine G_boxA rfl rfl rfl rfl (.none rfl) ?_; intro b1)
  refine G_val (V_assign rfl rfl) rfl rfl (.none rfl) ?_
  refine G_val (V_assign rfl rfl) rfl rfl (.none rfl) ?_
  refine G_end (X_then (G_seq (G_seq (G_region ?_))))
  refine G_val (V_loadA rfl rfl (Cells.own (.head _)) rfl) rfl rfl (.none rfl) ?_
  (refine G_lit rfl rfl (by decide) (by simp [fillS, zeros, setLs, setL, Value.cells, List.range, List.range.loop]; rfl) rfl rfl (.none rfl) ?_; intro b9)
  refine G.freezeB (k := 1) (sz := 5) (.head _ _) rfl ?_
  intro E9 hE9 hs9
  refine G_callv (k := 47) (.mk rfl rfl rfl rfl) rfl rfl (.none rfl) (right1_call _ _ _ _ m a b c d 8 hs9) ?_
  rw [h0]
  refine G_val (V_assign rfl rfl) rfl rfl (.none rfl) ?_
  refine G_end (X_then (G_seq (G_region ?_)))
  refine G_val (V_move rfl rfl) rfl rfl (.none rfl) ?_
  refine G_val (V_neq rfl rfl rfl) rfl rfl (.none rfl) ?_
  refine G_end (X_then ?_)
  refine G_cond_f rfl (by kernel_rfl) ?_
  refine G_skip (X_then (G_seq (G_seq (G_region ?_))))
  refine G_val (V_fieldAddr rfl rfl (by decide)) rfl rfl (.none rfl) ?_
  refine G_val (V_load rfl rfl (Cell.own (.head _) rfl)) rfl rfl (.none rfl) ?_
  refine G_val (V_eql rfl rfl rfl) rfl rfl (.none rfl) ?_
  refine G_end (X_then ?_)
  refine G_cond_f rfl (decide_eq_false (by omega)) ?_
  refine G_skip (X_then (G_seq (G_region ?_)))
  refine G_val (V_assign rfl rfl) rfl rfl (.none rfl) ?_
  refine G_end (X_then (G_seq (G_seq (G_region ?_))))
  refine G_val (V_loadA rfl rfl (Cells.own (.head _)) rfl) rfl rfl (.none rfl) ?_
  refine G_call (k := 48) (.mk rfl rfl rfl rfl) rfl rfl (.none rfl) (list_call' _ _ m a b c d (by omega)) ?_
  rintro r1 E1 L1 hE1 ⟨p1, k1, rfl, hs1, rfl⟩
  rw [hX] at hs1
  refine G_val (V_lenS rfl rfl) rfl rfl (.none rfl) ?_
  refine G_val (V_move rfl rfl) rfl rfl (.none rfl) ?_
  refine G_end (X_then (G_block ?_))
  refine G.nilSl 9 1 ?_
  refine G_loop (α := Nat × Option Addr × Nat) (fun x => [(3, .int .i64 0), (5, .slice x.2.1 x.1 x.2.2), (18, .slice p1 m k1), (19, .int .i64 m), (20, .int .i64 (x.1 : Nat))]) (fun _ => E1)
    (fun x => .sl 9 1 x.2.1 x.1 x.2.2 (strs (dgs (X.take x.1))) :: .blk b1 (.cells (lkC m a b c d) 25 (0, 0)) :: L)
    (fun x => x.1 ≤ m) (fun x => m - x.1) (0, none, 0) (Nat.zero_le _) ⟨rfl, rfl, rfl, rfl, rfl, trivial⟩ rfl rfl ?_
  rintro ⟨i, p, k⟩ hi
  simp only at hi ⊢
  clear hs9
  by_cases hlt : i < m
  · have hx := i64s_get (List.getElem?_eq_getElem (l := X) (i := i) (by omega))
    have hb := hXS i (by omega)
    have hsn : strs (dgs (X.take i)) ++ [.string (S [dgb (X[i]'(by omega))])] = strs (dgs (X.take (i + 1))) := by
      rw [List.take_succ_eq_append_getElem (by omega)]; simp only [strs, dgs, List.map_append, List.map_cons, List.map_nil]
    clear hXS hS
    refine G_seq (G_region ?_)
    refine G_val (V_lss rfl rfl rfl) rfl rfl (.none rfl) ?_
    refine G_end (X_then (G_seq ?_))
    refine G_cond_t rfl (decide_eq_true (by omega)) ?_
    refine G_skip (X_then (G_seq (G_block (G_seq (G_region ?_)))))
    refine G_val (V_idxAddr rfl rfl rfl (SlE.rd (by assumption)) (by omega) (by omega)) rfl rfl (.none rfl) ?_
    refine G_val (V_loadS rfl rfl (SlE.rd (by assumption)) (by assumption) (by simp)) rfl rfl (.none rfl) ?_
    refine G_val (V_assign rfl rfl) rfl rfl (.none rfl) ?_
    refine G_end (X_then (G_region ?_))
    refine G_val (V_move rfl rfl) rfl rfl (.none rfl) ?_
    refine G_val (V_move rfl rfl) rfl rfl (.none rfl) ?_
    refine G_callv (k := 49) (.mk rfl rfl rfl rfl) rfl rfl (.none rfl) (Itoa_call _ _ _ (by assumption)) ?_
    (refine G_lit1 rfl rfl rfl rfl rfl (.none rfl) ?_; intro b27)
    (refine G_append rfl rfl rfl (Rd.lit (.head _) rfl) (by simp [Value.oneCell']) (by omega) (by omega) rfl rfl (.none rfl) (fun _ _ => (.tail _ (.head _ _ _))) ?_; intro a28 c28; refine G.rm (.head _ _) ?_)
    refine G_val (V_assign rfl rfl) rfl rfl (.none rfl) ?_
    refine G_end (X_block (X_then (G_region ?_)))
    refine G_val (V_add_i64 rfl rfl rfl (by omega) (by omega)) rfl rfl (.none rfl) ?_
    refine G_val (V_move rfl rfl) rfl rfl (.none rfl) ?_
    refine G_end (X_then ?_)
    rw [hsn]
    exact G_again (i + 1, _, _) hlt (by simp only; omega) ⟨rfl, rfl, rfl, rfl, rfl, trivial⟩ rfl rfl
  · obtain rfl : i = m := by omega
    refine G.freezeSl (.head _ _) ?_
    intro E2 hE2 hs2 hkc
    rw [List.take_of_length_le (by omega)] at hs2
    refine G_seq (G_region ?_)
    refine G_val (V_lss rfl rfl rfl) rfl rfl (.none rfl) ?_
    refine G_end (X_then (G_seq ?_))
    refine G_cond_f rfl (decide_eq_false (by omega)) ?_
    refine G_exit (X_then_exit (X_then_exit (X_block_hit (X_then (G_seq (G_region ?_))))))
    refine G_val (V_move rfl rfl) rfl rfl (.none rfl) ?_
    rw [← jnS_dgs]
    by_cases h1 : i = 1
    · subst h1
      obtain ⟨x, hx⟩ : ∃ x, X = [x] := List.length_eq_one_iff.1 (by omega)
      rw [hx] at hs2 ⊢
      have e : jnS (dgs [x]) = [dgb x] := by simp [jnS, dgs]
      rw [e]
      refine G_callv (k := 50) (.mk rfl rfl rfl rfl) rfl rfl (.none rfl) (Join1_call _ _ p k [dgb x] hs2) ?_
      refine G_val (V_assign rfl rfl) rfl rfl (.none rfl) ?_
      refine G_val (V_assign rfl rfl) rfl rfl (.none rfl) ?_
      refine G_end (X_then (G_ret ?_))
      refine G_leaveS (.drop _ (.nil _)) (by exact (.cons (.tmp rfl) (.cons (.tmp rfl) (.nil)))) rfl ?_ ?_
      · exact ((hE9.trans hE1).trans hE2)
      exact ⟨rfl, rfl⟩
    · refine G_callv (k := 50) (.mk rfl rfl rfl rfl) rfl rfl (.none rfl) (JoinN_call _ _ p i k (dgs X) hs2 hkc (by omega) (by omega) (dgs_one X)) ?_
      refine G_val (V_assign rfl rfl) rfl rfl (.none rfl) ?_
      refine G_val (V_assign rfl rfl) rfl rfl (.none rfl) ?_
      refine G_end (X_then (G_ret ?_))
      refine G_leaveS (.drop _ (.nil _)) (by exact (.cons (.tmp rfl) (.cons (.tmp rfl) (.nil)))) rfl ?_ ?_
      · exact ((hE9.trans hE1).trans hE2)
      exact ⟨rfl, rfl⟩
end
end Go.Proofs.YthcfakmmomfcaaaDoor
set_option linter.unusedSimpArgs false
set_option linter.unusedVariables false
set_option maxHeartbeats 2000000
set_option maxRecDepth 20000
namespace Go.Proofs.YthcfakmmomfcaaaDoor
open Go.RowKit
/-- A string cut at the first byte c. -/
def cutB (c : UInt8) : List UInt8 → List UInt8 × List UInt8 × Bool
  | [] => ([], [], false)
  | b :: l => if b = c then ([], l, true) else (b :: (cutB c l).1, (cutB c l).2.1, (cutB c l).2.2)
theorem cutB_found {c : UInt8} : ∀ {s : List UInt8}, (cutB c s).2.2 = true → s = (cutB c s).1 ++ c :: (cutB c s).2.1 := by
  intro s
  induction s with
  | nil => intro h; cases h
  | cons b l ih =>
    intro h
    unfold cutB at h ⊢
    split
    · rename_i e; subst e; rfl
    · rename_i e
      rw [if_neg e] at h
      exact congrArg (b :: ·) (ih h)
theorem cutB_none {c : UInt8} : ∀ {s : List UInt8}, (cutB c s).2.2 = false → (cutB c s).1 = s ∧ (cutB c s).2.1 = [] := by
  intro s
  induction s with
  | nil => intro _; exact ⟨rfl, rfl⟩
  | cons b l ih =>
    intro h
    unfold cutB at h ⊢
    split
    · rename_i e; rw [if_pos e] at h; cases h
    · rename_i e
      rw [if_neg e] at h
      exact ⟨congrArg (b :: ·) (ih h).1, (ih h).2⟩
theorem cutB_notin (c : UInt8) : ∀ (s : List UInt8), c ∉ (cutB c s).1 := by
  intro s
  induction s with
  | nil => intro h; cases h
  | cons b l ih =>
    unfold cutB
    split
    · intro h; cases h
    · rename_i e
      intro h
      rcases List.mem_cons.1 h with h | h
      · exact e h.symm
      · exact ih h
theorem idxB_eq (c : UInt8) : ∀ (s : List UInt8), idxB s c = if (cutB c s).2.2 = true then ((cutB c s).1.length : Int) else -1 := by
  intro s
  induction s with
  | nil => rfl
  | cons b l ih =>
    unfold idxB Lib.indexByte cutB
    unfold idxB at ih
    by_cases e : b = c
    · simp [e]
    · have e2 : (b == c) = false := by simpa using e
      rw [if_neg e, e2]
      simp only [Bool.false_eq_true, if_false]
      rw [ih]
      cases h : (cutB c l).2.2 with
      | true =>
        have e3 : (((cutB c l).1.length : Int) == -1) = false := by rw [beq_eq_false_iff_ne]; omega
        simp only [if_true, e3, Bool.false_eq_true, if_false, List.length_cons]
        omega
      | false => simp
theorem cutB_le (c : UInt8) (s : List UInt8) : (cutB c s).1.length ≤ s.length := by
  cases h : (cutB c s).2.2 with
  | true => have := congrArg List.length (cutB_found h); simp at this; omega
  | false => rw [(cutB_none h).1]; exact Nat.le_refl _
theorem cutB_lt {c : UInt8} {s : List UInt8} (h : (cutB c s).2.2 = true) : s.length = (cutB c s).1.length + 1 + (cutB c s).2.1.length := by
  have := congrArg List.length (cutB_found h); simp at this; omega
theorem cutB_take (c : UInt8) (s : List UInt8) : s.take (cutB c s).1.length = (cutB c s).1 := by
  cases h : (cutB c s).2.2 with
  | true =>
    have := cutB_found h
    generalize (cutB c s).1 = x at *
    rw [this, List.take_left]
  | false => rw [(cutB_none h).1, List.take_length]
theorem cutB_drop {c : UInt8} {s : List UInt8} (h : (cutB c s).2.2 = true) : s.drop ((cutB c s).1.length + 1) = (cutB c s).2.1 := by
  have := cutB_found h
  generalize (cutB c s).1 = x at *
  generalize (cutB c s).2.1 = y at *
  rw [this, ← List.drop_drop, List.drop_left]
  rfl
section
variable (E : Env) (L : List Res)
theorem slIndexByte_call (s : List UInt8) (c : Nat) : CallV Tryd.prog 88 #[.string (S s), .int .u8 c] E L (.int .i64 (idxB s c.toUInt8)) := by
  refine CallS.toV (CallS.intro (l := [_, _]) _ Tryd.func88 rfl Tryd.ntmps88 rfl ?_)
  refine G_seq (G_region ?_)
  refine G_val (V_assign rfl rfl) rfl rfl (.none rfl) ?_
  refine G_end (X_then (G_seq (G_region ?_)))
  refine G_val (V_move rfl rfl) rfl rfl (.none rfl) ?_
  refine G_val (V_move rfl rfl) rfl rfl (.none rfl) ?_
  refine G_val (IndexByteString_val (.mk rfl rfl rfl rfl)) rfl rfl (.none rfl) ?_
  refine G_val (V_assign rfl rfl) rfl rfl (.none rfl) ?_
  refine G_end (X_then (G_ret ?_))
  refine G_leaveS (.nil _) (by exact (.cons (.tmp rfl) (.nil))) rfl ?_ ?_
  · exact (.refl _)
  exact ⟨rfl, rfl⟩
theorem u8_back (c : UInt8) : (c.toNat).toUInt8 = c := by simp [Nat.toUInt8, UInt8.ofNat_toNat]
theorem slIndex1_call (s : List UInt8) (c : UInt8) (hs : s.length ≤ 9223372036854775807) : CallV Tryd.prog 81 #[.string (S s), .string (S [c])] E L (.int .i64 (idxB s c)) := by
  refine CallS.toV (CallS.intro (l := [_, _]) _ Tryd.func81 rfl Tryd.ntmps81 rfl ?_)
  have hl : [c].length = 1 := rfl
  have h0 : [c][0]? = some c := rfl
  by_cases h : [c] = s
  · have e : idxB s c = 0 := by rw [← h]; simp [idxB, Lib.indexByte]
    rw [e]
    refine G_seq (G_region ?_)
    refine G_val (V_assign rfl rfl) rfl rfl (.none rfl) ?_
    refine G_end (X_then (G_seq (G_region ?_)))
    refine G_val (V_move rfl rfl) rfl rfl (.none rfl) ?_
    refine G_val (V_len rfl rfl) rfl rfl (.none rfl) ?_
    refine G_val (V_assign rfl rfl) rfl rfl (.none rfl) ?_
    refine G_end (X_then (G_seq (G_block (G_seq (G_region ?_)))))
    refine G_val (V_move rfl rfl) rfl rfl (.none rfl) ?_
    refine G_val (V_eql rfl rfl rfl) rfl rfl (.none rfl) ?_
    refine G_val (V_move rfl rfl) rfl rfl (.none rfl) ?_
    refine G.bool_f 19 rfl (decide_eq_false (by omega)) ?_
    refine G_val (V_move rfl rfl) rfl rfl (.yes rfl rfl rfl rfl) ?_
    refine G_val (V_move rfl rfl) rfl rfl (.yes rfl rfl rfl rfl) ?_
    refine G_val (V_seql rfl rfl rfl) rfl rfl (.yes rfl rfl rfl rfl) ?_
    refine G_val (V_pick_f rfl rfl rfl) rfl rfl (.none rfl) ?_
    refine G_val (V_assign rfl rfl) rfl rfl (.none rfl) ?_
    refine G_end (X_then ?_)
    refine G_cond_t rfl (decide_eq_true (by omega)) ?_
    refine G_seq (G_region ?_)
    refine G_val (V_assign rfl rfl) rfl rfl (.none rfl) ?_
    refine G_end (X_then (G_ret (X_block_ret (X_then_ret ?_))))
    refine G_leaveS (.nil _) (by exact (.cons (.tmp rfl) (.nil))) rfl ?_ ?_
    · exact (.refl _)
    exact ⟨(by kernel_rfl), rfl⟩
  · have hb := u8_back c
    refine G_seq (G_region ?_)
    refine G_val (V_assign rfl rfl) rfl rfl (.none rfl) ?_
    refine G_end (X_then (G_seq (G_region ?_)))
    refine G_val (V_move rfl rfl) rfl rfl (.none rfl) ?_
    refine G_val (V_len rfl rfl) rfl rfl (.none rfl) ?_
    refine G_val (V_assign rfl rfl) rfl rfl (.none rfl) ?_
    refine G_end (X_then (G_seq (G_block (G_seq (G_region ?_)))))
    refine G_val (V_move rfl rfl) rfl rfl (.none rfl) ?_
    refine G_val (V_eql rfl rfl rfl) rfl rfl (.none rfl) ?_
    refine G_val (V_move rfl rfl) rfl rfl (.none rfl) ?_
    refine G.bool_f 19 rfl (decide_eq_false (by omega)) ?_
    refine G_val (V_move rfl rfl) rfl rfl (.yes rfl rfl rfl rfl) ?_
    refine G_val (V_move rfl rfl) rfl rfl (.yes rfl rfl rfl rfl) ?_
    refine G_val (V_seql rfl rfl rfl) rfl rfl (.yes rfl rfl rfl rfl) ?_
    refine G_val (V_pick_f rfl rfl rfl) rfl rfl (.none rfl) ?_
    refine G_val (V_assign rfl rfl) rfl rfl (.none rfl) ?_
    refine G_end (X_then ?_)
    refine G_cond_f rfl (decide_eq_false (by omega)) ?_
    refine G_seq (G_region ?_)
    refine G_val (V_move rfl rfl) rfl rfl (.none rfl) ?_
    refine G_val (V_eql rfl rfl rfl) rfl rfl (.none rfl) ?_
    refine G_val (V_assign rfl rfl) rfl rfl (.none rfl) ?_
    refine G_end (X_then ?_)
    refine G_cond_t rfl (decide_eq_true (by omega)) ?_
    refine G_seq (G_region ?_)
    refine G_val (V_move rfl rfl) rfl rfl (.none rfl) ?_
    refine G_val (V_move rfl rfl) rfl rfl (.none rfl) ?_
    refine G_val (V_sidx rfl rfl rfl (by omega) (by assumption)) rfl rfl (.none rfl) ?_
    refine G_callv (k := 88) (.mk rfl rfl rfl rfl) rfl rfl (.none rfl) (slIndexByte_call _ _ _ _) ?_
    refine G_val (V_assign rfl rfl) rfl rfl (.none rfl) ?_
    refine G_end (X_then (G_ret (X_block_ret (X_then_ret ?_))))
    refine G_leaveS (.nil _) (by exact (.cons (.tmp rfl) (.nil))) rfl ?_ ?_
    · exact (.refl _)
    exact ⟨(by (simp [resVal, *]; done)), (by rfl)⟩
theorem Index1_call (s : List UInt8) (c : UInt8) (hs : s.length ≤ 9223372036854775807) : CallV Tryd.prog 71 #[.string (S s), .string (S [c])] E L (.int .i64 (idxB s c)) := by
  refine CallS.toV (CallS.intro (l := [_, _]) _ Tryd.func71 rfl Tryd.ntmps71 rfl ?_)
  refine G_seq (G_region ?_)
  refine G_val (V_assign rfl rfl) rfl rfl (.none rfl) ?_
  refine G_end (X_then (G_seq (G_region ?_)))
  refine G_val (V_move rfl rfl) rfl rfl (.none rfl) ?_
  refine G_val (V_move rfl rfl) rfl rfl (.none rfl) ?_
  refine G_callv (k := 81) (.mk rfl rfl rfl rfl) rfl rfl (.none rfl) (slIndex1_call _ _ _ _ (by assumption)) ?_
  refine G_val (V_assign rfl rfl) rfl rfl (.none rfl) ?_
  refine G_end (X_then (G_ret ?_))
  refine G_leaveS (.nil _) (by exact (.cons (.tmp rfl) (.nil))) rfl ?_ ?_
  · exact (.refl _)
  exact ⟨rfl, rfl⟩
end
end Go.Proofs.YthcfakmmomfcaaaDoor
set_option linter.unusedSimpArgs false
set_option linter.unusedVariables false
set_option maxHeartbeats 2000000
set_option maxRecDepth 20000
namespace Go.Proofs.YthcfakmmomfcaaaDoor
open Go.RowKit
section
variable (E : Env) (L : List Res)
theorem CountString_val {fs : List (Nat × Value)} {E : Env} {L : List Res} {o : Oper} {s : List UInt8} {c : UInt8} (ht : Goesto fs o 73 #[.string (S s), .int .u8 (c.toNat : Nat)]) : Val Tryd.prog o fs E L (.int .i64 (s.count c : Nat)) := by
  refine V_extern Tryd.func73 (by kernel_rfl) (by kernel_rfl) (by kernel_rfl) (e := Extern.BytealgCount.count) (by kernel_rfl) (fun w => ?_) ht
  have h := Lib.run_countString (P := Tryd.prog) (S s) (c.toNat : Int) w
  rw [h]
  have e : ((c.toNat : Int)).toNat.toUInt8 = c := by rw [Int.toNat_natCast]; exact u8_back c
  rw [e]
  rfl
theorem Count1_call (s : List UInt8) (c : UInt8) (hs : s.length ≤ 9223372036854775807) : CallV Tryd.prog 64 #[.string (S s), .string (S [c])] E L (.int .i64 (s.count c : Nat)) := by
  refine CallS.toV (CallS.intro (l := [_, _]) _ Tryd.func64 rfl Tryd.ntmps64 rfl ?_)
  have hg : [c][(0 : Int).toNat]? = some c := rfl
  refine G_seq (G_region ?_)
  refine G_val (V_assign rfl rfl) rfl rfl (.none rfl) ?_
  refine G_end (X_then (G_seq (G_seq (G_region ?_))))
  refine G_val (V_move rfl rfl) rfl rfl (.none rfl) ?_
  refine G_val (V_len rfl rfl) rfl rfl (.none rfl) ?_
  refine G_val (V_eql rfl rfl rfl) rfl rfl (.none rfl) ?_
  refine G_end (X_then ?_)
  refine G_cond_f rfl (by simp [*]; done) ?_
  refine G_skip (X_then (G_seq (G_seq (G_region ?_))))
  refine G_val (V_move rfl rfl) rfl rfl (.none rfl) ?_
  refine G_val (V_len rfl rfl) rfl rfl (.none rfl) ?_
  refine G_val (V_eql rfl rfl rfl) rfl rfl (.none rfl) ?_
  refine G_end (X_then ?_)
  refine G_cond_t rfl (by simp [*]; done) ?_
  refine G_seq (G_region ?_)
  refine G_val (V_move rfl rfl) rfl rfl (.none rfl) ?_
  refine G_val (V_move rfl rfl) rfl rfl (.none rfl) ?_
  refine G_val (V_sidx rfl rfl rfl (by omega) (by assumption)) rfl rfl (.none rfl) ?_
  refine G_val (CountString_val (.mk rfl rfl rfl rfl)) rfl rfl (.none rfl) ?_
  refine G_val (V_assign rfl rfl) rfl rfl (.none rfl) ?_
  refine G_end (X_then (G_ret (X_then_ret ?_)))
  refine G_leaveS (.nil _) (by exact (.cons (.tmp rfl) (.nil))) rfl ?_ ?_
  · exact (.refl _)
  exact ⟨rfl, rfl⟩
end
end Go.Proofs.YthcfakmmomfcaaaDoor
set_option linter.unusedSimpArgs false
set_option linter.unusedVariables false
set_option maxHeartbeats 2000000
set_option maxRecDepth 20000
namespace Go.Proofs.YthcfakmmomfcaaaDoor
open Go.RowKit
/-! Plain: a text split at one byte. -/
def splitB (c : UInt8) : List UInt8 → List (List UInt8)
  | [] => [[]]
  | b :: s => if b = c then [] :: splitB c s else match splitB c s with
    | [] => [[b]]
    | p :: ps => (b :: p) :: ps
theorem splitB_ne (c : UInt8) : ∀ s, splitB c s ≠ [] := by
  intro s
  cases s with
  | nil => simp [splitB]
  | cons b s =>
    unfold splitB
    split
    · simp
    · split <;> simp
theorem splitB_len (c : UInt8) : ∀ s : List UInt8, (splitB c s).length = s.count c + 1 := by
  intro s
  induction s with
  | nil => rfl
  | cons b s ih =>
    unfold splitB
    by_cases h : b = c
    · rw [if_pos h, List.length_cons, ih, h, List.count_cons_self]
    · rw [if_neg h, List.count_cons_of_ne h]
      split
      · rename_i h1; exact absurd h1 (splitB_ne c s)
      · rename_i p ps h1
        rw [h1] at ih
        simpa using ih
theorem splitB_notin (c : UInt8) : ∀ a : List UInt8, c ∉ a → splitB c a = [a] := by
  intro a
  induction a with
  | nil => intro _; rfl
  | cons b a ih =>
    intro h
    have hb : b ≠ c := fun e => h (by rw [e]; exact .head _)
    rw [splitB, if_neg hb, ih (fun h1 => h (.tail _ h1))]
theorem splitB_app (c : UInt8) : ∀ (a r : List UInt8), c ∉ a → splitB c (a ++ c :: r) = a :: splitB c r := by
  intro a
  induction a with
  | nil => intro r _; rw [List.nil_append, splitB, if_pos rfl]
  | cons b a ih =>
    intro r h
    have hb : b ≠ c := fun e => h (by rw [e]; exact .head _)
    rw [List.cons_append, splitB, if_neg hb, ih r (fun h1 => h (.tail _ h1))]
theorem splitB_cut (c : UInt8) (s : List UInt8) : splitB c s = if (cutB c s).2.2 = true then (cutB c s).1 :: splitB c (cutB c s).2.1 else [s] := by
  by_cases h : (cutB c s).2.2 = true
  · rw [if_pos h]
    conv => lhs; rw [cutB_found h]
    exact splitB_app c _ _ (cutB_notin c s)
  · rw [if_neg h]
    have h1 := cutB_none (c := c) (s := s) (by simpa using h)
    have h2 := cutB_notin c s
    rw [h1.1] at h2
    exact splitB_notin c s h2
end Go.Proofs.YthcfakmmomfcaaaDoor
set_option linter.unusedSimpArgs false
set_option linter.unusedVariables false
set_option maxHeartbeats 2000000
set_option maxRecDepth 20000
namespace Go.Proofs.YthcfakmmomfcaaaDoor
open Go.RowKit
theorem set_parts (ps : List (List UInt8)) (k : Nat) (v : List UInt8) (z : Value) : (strs ps ++ List.replicate (k + 1) z).set ps.length (.string (S v)) = strs (ps ++ [v]) ++ List.replicate k z := by
  have h : (strs ps).length = ps.length := by simp [strs]
  rw [List.set_append_right _ _ (by omega), h, Nat.sub_self, List.replicate_succ, List.set_cons_zero]
  simp [strs]
section
variable (E : Env) (L : List Res)
theorem genSplit_call (s : List UInt8) (c : UInt8) (hs : s.length ≤ 1000000) : CallS Tryd.prog 63 #[.string (S s), .string (S [c]), .int .i64 0, .int .i64 (-1)] E L (fun r E' L' => ∃ p k, r = .slice p (splitB c s).length k ∧ SlE E' 1 p (splitB c s).length (strs (splitB c s)) ∧ L = L') := by
  have hc : s.count c ≤ s.length := List.count_le_length
  refine CallS.intro (l := [_, _, _, _]) _ Tryd.func63 rfl Tryd.ntmps63 rfl ?_
  refine G_seq (G_region ?_)
  refine G_val (V_assign rfl rfl) rfl rfl (.none rfl) ?_
  refine G_end (X_then (G_seq (G_seq (G_region ?_))))
  refine G_val (V_move rfl rfl) rfl rfl (.none rfl) ?_
  refine G_val (V_eql rfl rfl rfl) rfl rfl (.none rfl) ?_
  refine G_end (X_then ?_)
  refine G_cond_f rfl (by kernel_rfl) ?_
  refine G_skip (X_then (G_seq (G_seq (G_region ?_))))
  refine G_val (V_move rfl rfl) rfl rfl (.none rfl) ?_
  refine G_val (V_seql rfl rfl rfl) rfl rfl (.none rfl) ?_
  refine G_end (X_then ?_)
  refine G_cond_f rfl (by simp [*]; done) ?_
  refine G_skip (X_then (G_seq (G_seq (G_region ?_))))
  refine G_val (V_move rfl rfl) rfl rfl (.none rfl) ?_
  refine G_val (V_lss rfl rfl rfl) rfl rfl (.none rfl) ?_
  refine G_end (X_then ?_)
  refine G_cond_t rfl (by kernel_rfl) ?_
  refine G_region ?_
  refine G_val (V_move rfl rfl) rfl rfl (.none rfl) ?_
  refine G_val (V_move rfl rfl) rfl rfl (.none rfl) ?_
  refine G_callv (k := 64) (.mk rfl rfl rfl rfl) rfl rfl (.none rfl) (Count1_call _ _ _ _ (by omega)) ?_
  refine G_val (V_add_i64 rfl rfl rfl (by omega) (by omega)) rfl rfl (.none rfl) ?_
  refine G_val (V_assign rfl rfl) rfl rfl (.none rfl) ?_
  refine G_end (X_then (G_seq (G_region ?_)))
  refine G_val (V_move rfl rfl) rfl rfl (.none rfl) ?_
  refine G_val (V_move rfl rfl) rfl rfl (.none rfl) ?_
  refine G_val (V_len rfl rfl) rfl rfl (.none rfl) ?_
  refine G_val (V_add_i64 rfl rfl rfl (by omega) (by omega)) rfl rfl (.none rfl) ?_
  refine G_val (V_min rfl rfl rfl) rfl rfl (.none rfl) ?_
  refine G_val (V_assign rfl rfl) rfl rfl (.none rfl) ?_
  refine G_end (X_then (G_seq (G_region ?_)))
  refine G_val (V_move rfl rfl) rfl rfl (.none rfl) ?_
  (refine G_makeSlice rfl rfl rfl (by omega) (by omega) (by omega) rfl rfl (.none rfl) ?_; intro b31)
  refine G_val (V_assign rfl rfl) rfl rfl (.none rfl) ?_
  refine G_end (X_then (G_seq (G_region ?_)))
  refine G_val (V_move rfl rfl) rfl rfl (.none rfl) ?_
  refine G_val (V_sub_i64 rfl rfl rfl (by omega) (by omega)) rfl rfl (.none rfl) ?_
  refine G_val (V_assign rfl rfl) rfl rfl (.none rfl) ?_
  refine G_end (X_then (G_seq (G_region ?_)))
  refine G_val (V_assign rfl rfl) rfl rfl (.none rfl) ?_
  refine G_end (X_then (G_seq (G_block ?_)))
  obtain ⟨N, hN⟩ : ∃ N, s.count c = N := ⟨_, rfl⟩
  have hlen := splitB_len c s
  rw [hN] at hc hlen
  have e1 : min ((N : Int) + 1) ((s.length : Int) + 1) = ((N + 1 : Nat) : Int) := by omega
  rw [hN, e1, Int.toNat_natCast]
  refine G_loop (α := List (List UInt8) × List UInt8) (fun x => [(0, .string (S x.2)), (1, .string (S [c])), (2, .int .i64 0), (3, .int .i64 ((N + 1 : Nat) - 1)), (9, .slice (some ⟨b31, 0, none⟩) (N + 1) (N + 1)), (10, .int .i64 (x.1.length : Nat))]) (fun _ => E)
    (fun x => .blk b31 (.cells (strs x.1 ++ List.replicate (N + 1 - x.1.length) (Value.string { data := #[] })).toArray 9 (0, 0)) :: L)
    (fun x => x.1 ++ splitB c x.2 = splitB c s ∧ x.2.length ≤ s.length) (fun x => x.2.length) ([], s) ⟨rfl, Nat.le_refl _⟩ ⟨rfl, rfl, rfl, rfl, rfl, rfl, trivial⟩ rfl rfl ?_
  rintro ⟨ps, rest⟩ ⟨hps, hrl⟩
  simp only at hps hrl ⊢
  have hcut := splitB_cut c rest
  have hidx := idxB_eq c rest
  have hle := cutB_le c rest
  have hpl : ps.length + (splitB c rest).length = N + 1 := by rw [← hlen, ← hps, List.length_append]
  have hr1 := splitB_len c rest
  by_cases hf : (cutB c rest).2.2 = true
  · rw [if_pos hf] at hcut hidx
    have hlt2 := cutB_lt hf
    have htk := cutB_take c rest
    have hdr := cutB_drop hf
    have hne := List.length_pos_iff.2 (splitB_ne c (cutB c rest).2.1)
    rw [hcut, List.length_cons] at hpl
    refine G_seq (G_seq (G_region ?_))
    refine G_val (V_move rfl rfl) rfl rfl (.none rfl) ?_
    refine G_val (V_move rfl rfl) rfl rfl (.none rfl) ?_
    refine G_val (V_lss rfl rfl rfl) rfl rfl (.none rfl) ?_
    refine G_end (X_then ?_)
    refine G_cond_t rfl (decide_eq_true (by omega)) ?_
    refine G_skip (X_then (G_block (G_seq (G_region ?_))))
    refine G_val (V_move rfl rfl) rfl rfl (.none rfl) ?_
    refine G_val (V_move rfl rfl) rfl rfl (.none rfl) ?_
    refine G_callv (k := 71) (.mk rfl rfl rfl rfl) rfl rfl (.none rfl) (Index1_call _ _ _ _ (by omega)) ?_
    refine G_val (V_assign rfl rfl) rfl rfl (.none rfl) ?_
    refine G_end (X_then (G_seq (G_seq (G_region ?_))))
    refine G_val (V_move rfl rfl) rfl rfl (.none rfl) ?_
    refine G_val (V_lss rfl rfl rfl) rfl rfl (.none rfl) ?_
    refine G_end (X_then ?_)
    refine G_cond_f rfl (decide_eq_false (by omega)) ?_
    refine G_skip (X_then (G_seq (G_region ?_)))
    refine G_val (V_move rfl rfl) rfl rfl (.none rfl) ?_
    refine G_val (V_move rfl rfl) rfl rfl (.none rfl) ?_
    refine G_val (V_move rfl rfl) rfl rfl (.none rfl) ?_
    refine G_val (V_move rfl rfl) rfl rfl (.none rfl) ?_
    refine G_val (V_move rfl rfl) rfl rfl (.none rfl) ?_
    refine G_val (V_add_i64 rfl rfl rfl (by omega) (by omega)) rfl rfl (.none rfl) ?_
    refine G_val (V_front rfl rfl rfl (by omega) (by omega)) rfl rfl (.none rfl) ?_
    refine G_val (V_idxB1n rfl rfl rfl (by omega)) rfl rfl (.none rfl) ?_
    have hsl : N + 1 - ps.length = (N - ps.length) + 1 := by omega
    have e2 : (idxB rest c + 0).toNat = (cutB c rest).1.length := by rw [hidx]; omega
    rw [hsl, e2, htk]
    refine G_storeB rfl rfl rfl rfl rfl rfl (.none rfl) (.head _ _ _) (by simp [strs]) ?_
    rw [set_parts, hidx]
    have hc1 : ([c] : List UInt8).length = 1 := rfl
    refine G_end (X_then (G_seq (G_region ?_)))
    refine G_val (V_move rfl rfl) rfl rfl (.none rfl) ?_
    refine G_val (V_move rfl rfl) rfl rfl (.none rfl) ?_
    refine G_val (V_move rfl rfl) rfl rfl (.none rfl) ?_
    refine G_val (V_len rfl rfl) rfl rfl (.none rfl) ?_
    refine G_val (V_add_i64 rfl rfl rfl (by omega) (by omega)) rfl rfl (.none rfl) ?_
    refine G_val (V_back rfl rfl rfl (by omega) (by omega)) rfl rfl (.none rfl) ?_
    refine G_val (V_assign rfl rfl) rfl rfl (.none rfl) ?_
    refine G_end (X_then (G_region ?_))
    refine G_val (V_move rfl rfl) rfl rfl (.none rfl) ?_
    refine G_val (V_add_i64 rfl rfl rfl (by omega) (by omega)) rfl rfl (.none rfl) ?_
    refine G_val (V_assign rfl rfl) rfl rfl (.none rfl) ?_
    refine G_end (X_block (X_then ?_))
    have e3 : (((cutB c rest).1.length : Nat) : Int) + ((([c] : List UInt8).length : Nat) : Int) = (((cutB c rest).1.length + 1 : Nat) : Int) := by omega
    have e4 : (ps.length : Int) + 1 = ((ps ++ [(cutB c rest).1]).length : Nat) := by rw [List.length_append, List.length_singleton]; omega
    have e5 : N - ps.length = N + 1 - (ps ++ [(cutB c rest).1]).length := by rw [List.length_append, List.length_singleton]; omega
    rw [e3, Int.toNat_natCast, hdr, e4, e5]
    exact G_again (ps ++ [(cutB c rest).1], (cutB c rest).2.1) ⟨by rw [List.append_assoc]; show ps ++ ((cutB c rest).1 :: splitB c (cutB c rest).2.1) = _; rw [← hcut]; exact hps, by show (cutB c rest).2.1.length ≤ _; omega⟩ (by show (cutB c rest).2.1.length < rest.length; omega) ⟨rfl, rfl, rfl, rfl, rfl, rfl, trivial⟩ rfl rfl
  · rw [if_neg hf] at hcut hidx
    rw [hcut, List.length_singleton] at hpl
    have hsl : N + 1 - ps.length = (N - ps.length) + 1 := by omega
    refine G_seq (G_seq (G_region ?_))
    refine G_val (V_move rfl rfl) rfl rfl (.none rfl) ?_
    refine G_val (V_move rfl rfl) rfl rfl (.none rfl) ?_
    refine G_val (V_lss rfl rfl rfl) rfl rfl (.none rfl) ?_
    refine G_end (X_then ?_)
    refine G_cond_f rfl (decide_eq_false (by omega)) ?_
    refine G_exit (X_then_exit (X_then_exit (X_block_hit (X_then (G_seq (G_region ?_))))))
    refine G_val (V_move rfl rfl) rfl rfl (.none rfl) ?_
    refine G_val (V_move rfl rfl) rfl rfl (.none rfl) ?_
    refine G_val (V_move rfl rfl) rfl rfl (.none rfl) ?_
    refine G_val (V_idxB1n rfl rfl rfl (by omega)) rfl rfl (.none rfl) ?_
    rw [hsl]
    refine G_storeB rfl rfl rfl rfl rfl rfl (.none rfl) (.head _ _ _) (by simp [strs]) ?_
    have hz : N - ps.length = 0 := by omega
    rw [set_parts, hz, List.replicate_zero, List.append_nil, ← hcut, hps]
    refine G.freezeB (k := (splitB c s).length) (sz := 1) (.head _ _) (by simp [strs]) ?_
    intro E2 hE2 hs2
    have e4 : ((ps.length : Int) + 1).toNat = (splitB c s).length := by omega
    refine G_end (X_then (G_seq (G_region ?_)))
    refine G_val (V_move rfl rfl) rfl rfl (.none rfl) ?_
    refine G_val (V_move rfl rfl) rfl rfl (.none rfl) ?_
    refine G_val (V_add_i64 rfl rfl rfl (by omega) (by omega)) rfl rfl (.none rfl) ?_
    refine G_val (V_slHead rfl rfl rfl (by omega) (by omega)) rfl rfl (.none rfl) ?_
    refine G_val (V_assign rfl rfl) rfl rfl (.none rfl) ?_
    refine G_end (X_then (G_ret ?_))
    refine G_leaveS (.nil _) (by exact (.cons (.tmp rfl) (.nil))) rfl ?_ ?_
    · exact hE2
    exact ⟨_, _, by rw [e4]; rfl, hs2, rfl⟩
end
end Go.Proofs.YthcfakmmomfcaaaDoor
set_option linter.unusedSimpArgs false
set_option linter.unusedVariables false
set_option maxHeartbeats 2000000
set_option maxRecDepth 20000
namespace Go.Proofs.YthcfakmmomfcaaaDoor
open Go.RowKit
section
variable (E : Env) (L : List Res)
theorem Split_call (s : List UInt8) (c : UInt8) (hs : s.length ≤ 1000000) : CallS Tryd.prog 55 #[.string (S s), .string (S [c])] E L (fun r E' L' => ∃ p k, r = .slice p (splitB c s).length k ∧ SlE E' 1 p (splitB c s).length (strs (splitB c s)) ∧ L = L') := by
  refine CallS.intro (l := [_, _]) _ Tryd.func55 rfl Tryd.ntmps55 rfl ?_
  refine G_seq (G_region ?_)
  refine G_val (V_assign rfl rfl) rfl rfl (.none rfl) ?_
  refine G_end (X_then (G_seq (G_region ?_)))
  refine G_val (V_move rfl rfl) rfl rfl (.none rfl) ?_
  refine G_val (V_move rfl rfl) rfl rfl (.none rfl) ?_
  refine G_call (k := 63) (.mk rfl rfl rfl rfl) rfl rfl (.none rfl) (genSplit_call _ _ s c hs) ?_
  rintro r1 E1 L1 hE1 ⟨p1, k1, rfl, hs1, rfl⟩
  refine G_val (V_assign rfl rfl) rfl rfl (.none rfl) ?_
  refine G_end (X_then (G_ret ?_))
  refine G_leaveS (.nil _) (by exact (.cons (.tmp rfl) (.nil))) rfl ?_ ?_
  · exact hE1
  exact ⟨_, ⟨_, ⟨rfl, ⟨(by assumption), rfl⟩⟩⟩⟩
end
end Go.Proofs.YthcfakmmomfcaaaDoor
namespace Go.Proofs.YthcfakmmomfcaaaDoor
open Go.RowKit
/-! Plain: texts of single digits, split at blanks. -/
abbrev okP (w : List UInt8) : Prop := ∃ b : UInt8, w = [b] ∧ 48 ≤ b.toNat ∧ b.toNat ≤ 57
def dgOf (w : List UInt8) : Int := ((w.headD 0).toNat : Int) - 48
def altP : List UInt8 → Prop
  | [] => False
  | [b] => 48 ≤ b.toNat ∧ b.toNat ≤ 57
  | b :: c :: r => (48 ≤ b.toNat ∧ b.toNat ≤ 57) ∧ c = 32 ∧ altP r
def digs : List UInt8 → List Int
  | [] => []
  | [b] => [(b.toNat : Int) - 48]
  | b :: _ :: r => ((b.toNat : Int) - 48) :: digs r
theorem okP_one (b : UInt8) : okP [b] ↔ 48 ≤ b.toNat ∧ b.toNat ≤ 57 := by
  constructor
  · rintro ⟨x, h, h1⟩
    rw [List.singleton_inj.1 h]; exact h1
  · exact fun h => ⟨b, rfl, h⟩
theorem okP_nil : ¬ okP [] := by rintro ⟨x, h, _⟩; cases h
theorem okP_two (b c : UInt8) (r : List UInt8) : ¬ okP (b :: c :: r) := by rintro ⟨x, h, _⟩; cases h
theorem not32 {b : UInt8} (h : 48 ≤ b.toNat) : b ≠ 32 := by
  rintro rfl
  exact absurd h (by decide)
theorem alt_iff : ∀ (n : Nat) (s : List UInt8), s.length ≤ n → ((∀ w, w ∈ splitB 32 s → okP w) ↔ altP s) := by
  intro n
  induction n using Nat.strongRecOn with
  | ind n ih =>
    intro s hs
    rcases s with _ | ⟨b, _ | ⟨c, r⟩⟩
    · simp only [splitB, altP, iff_false]
      exact fun h => okP_nil (h _ (.head _))
    · by_cases hb : b = 32
      · subst hb
        simp only [splitB, if_true, altP]
        constructor
        · exact fun h => absurd (h _ (.head _)) okP_nil
        · rintro ⟨h, _⟩; exact absurd h (by decide)
      · simp only [splitB, if_neg hb, altP, List.mem_singleton, forall_eq]
        exact okP_one b
    · by_cases hb : b = 32
      · subst hb
        rw [splitB, if_pos rfl]
        simp only [altP]
        constructor
        · exact fun h => absurd (h _ (.head _)) okP_nil
        · rintro ⟨⟨h, _⟩, _⟩; exact absurd h (by decide)
      · by_cases hc : c = 32
        · subst hc
          have e : splitB 32 (b :: 32 :: r) = [b] :: splitB 32 r := by
            rw [splitB, if_neg hb, splitB, if_pos rfl]
          rw [e]
          have h1 := ih (n - 2) (by simp only [List.length_cons] at hs; omega) r (by simp only [List.length_cons] at hs; omega)
          simp only [altP, List.mem_cons, forall_eq_or_imp, h1, okP_one, true_and]
        · have : ∃ p ps, splitB 32 (b :: c :: r) = (b :: c :: p) :: ps := by
            rw [splitB, if_neg hb, splitB, if_neg hc]
            rcases h : splitB 32 r with _ | ⟨p, ps⟩
            · exact absurd h (splitB_ne 32 r)
            · exact ⟨p, ps, rfl⟩
          obtain ⟨p, ps, e⟩ := this
          rw [e]
          simp only [altP, hc, false_and, and_false, iff_false]
          exact fun h => okP_two _ _ _ (h _ (.head _))
theorem digs_split : ∀ (n : Nat) (s : List UInt8), s.length ≤ n → altP s → (splitB 32 s).map dgOf = digs s := by
  intro n
  induction n using Nat.strongRecOn with
  | ind n ih =>
    intro s hs ha
    rcases s with _ | ⟨b, _ | ⟨c, r⟩⟩
    · exact ha.elim
    · have hb := not32 ha.1
      simp only [splitB, if_neg hb, List.map_cons, List.map_nil, digs]
      rfl
    · obtain ⟨hd, rfl, hr⟩ := ha
      have hb := not32 hd.1
      have e : splitB 32 (b :: 32 :: r) = [b] :: splitB 32 r := by
        rw [splitB, if_neg hb, splitB, if_pos rfl]
      rw [e, List.map_cons, ih (n - 2) (by simp only [List.length_cons] at hs; omega) r (by simp only [List.length_cons] at hs; omega) hr]
      rfl
end Go.Proofs.YthcfakmmomfcaaaDoor
set_option linter.unusedSimpArgs false
set_option linter.unusedVariables false
set_option maxHeartbeats 2000000
set_option maxRecDepth 20000
namespace Go.Proofs.YthcfakmmomfcaaaDoor
open Go.RowKit
/-! Parse. -/
theorem ofM_lk (l : List Int) : ∃ n a b c d, (ofM l).1 = lk n a b c d := by
  unfold ofM
  split
  · exact ⟨_, _, _, _, _, rfl⟩
  · split
    · exact ⟨_, _, _, _, _, rfl⟩
    · exact ⟨_, _, _, _, _, rfl⟩
section
variable (E : Env) (L : List Res)
open Classical in
noncomputable def parseP (s : List UInt8) : Value × Int := if s = [45] then (lk 0 0 0 0 0, 0) else if ∀ w, w ∈ splitB 32 s → okP w then ofM ((splitB 32 s).map dgOf) else (lk 0 0 0 0 0, 3)
theorem Parse_call (s : List UInt8) (hs : s.length ≤ 1000) : CallS Tryd.prog 29 #[.string (S s)] E L (fun r E' L' => r = .tuple #[(parseP s).1, .int .i64 (parseP s).2] ∧ L = L') := by
  unfold parseP
  by_cases h0 : s = [45]
  · rw [if_pos h0]
    subst h0
    refine CallS.intro (l := [_]) _ Tryd.func29 rfl Tryd.ntmps29 rfl ?_
    refine G_seq (G_region ?_)
    (refine G_alloc rfl rfl rfl (.none rfl) ?_; intro b2)
    refine G_val (V_assign rfl rfl) rfl rfl (.none rfl) ?_
    refine G_end (X_then (G_seq (G_seq (G_region ?_))))
    refine G_val (V_move rfl rfl) rfl rfl (.none rfl) ?_
    refine G_val (V_seql rfl rfl rfl) rfl rfl (.none rfl) ?_
    refine G_end (X_then ?_)
    refine G_cond_t rfl (by kernel_rfl) ?_
    refine G_seq (G_region ?_)
    refine G_val (V_build rfl rfl (by simp [fillV, setLs, setL, Value.cells]; rfl)) rfl rfl (.none rfl) ?_
    refine G_storeA rfl rfl rfl rfl (by simp [Value.oneCell']) rfl (.none rfl) (.head _ _ _) rfl ?_
    refine G_val (V_assign rfl rfl) rfl rfl (.none rfl) ?_
    refine G_end (X_then (G_ret (X_then_ret ?_)))
    refine G_leaveS (.drop _ (.nil _)) (by exact (.cons (.cellA rfl (Cells.own (.head _)) rfl) (.cons (.tmp rfl) (.nil)))) rfl ?_ ?_
    · exact (.refl _)
    exact ⟨(by kernel_rfl), rfl⟩
  rw [if_neg h0]
  refine CallS.intro (l := [_]) _ Tryd.func29 rfl Tryd.ntmps29 rfl ?_
  refine G_seq (G_region ?_)
  (refine G_alloc rfl rfl rfl (.none rfl) ?_; intro b2)
  refine G_val (V_assign rfl rfl) rfl rfl (.none rfl) ?_
  refine G_end (X_then (G_seq (G_seq (G_region ?_))))
  refine G_val (V_move rfl rfl) rfl rfl (.none rfl) ?_
  refine G_val (V_seql rfl rfl rfl) rfl rfl (.none rfl) ?_
  refine G_end (X_then ?_)
  refine G_cond_f rfl (decide_eq_false (by omega)) ?_
  refine G_skip (X_then (G_seq (G_region ?_)))
  refine G_val (V_assign rfl rfl) rfl rfl (.none rfl) ?_
  refine G_end (X_then (G_seq (G_seq (G_region ?_))))
  refine G_val (V_move rfl rfl) rfl rfl (.none rfl) ?_
  refine G_call (k := 55) (.mk rfl rfl rfl rfl) rfl rfl (.none rfl) (Split_call _ _ s 32 (by omega)) ?_
  rintro r1 E1 L1 hE1 ⟨p1, k1, rfl, hs1, rfl⟩
  have hPl := splitB_len 32 s
  have hcl : s.count 32 ≤ s.length := List.count_le_length
  obtain ⟨P, hP⟩ : ∃ P, splitB 32 s = P := ⟨_, rfl⟩
  rw [hP] at hs1 hPl ⊢
  refine G_val (V_lenS rfl rfl) rfl rfl (.none rfl) ?_
  refine G_val (V_move rfl rfl) rfl rfl (.none rfl) ?_
  refine G_end (X_then (G_block ?_))
  refine G.nilSl 3 1 ?_
  refine G_loop (α := Nat × Option Addr × Nat) (fun x => [(2, .pointer (some ⟨b2, 0, none⟩)), (3, .int .i64 0), (4, .slice x.2.1 x.1 x.2.2), (11, .slice p1 P.length k1), (12, .int .i64 P.length), (13, .int .i64 (x.1 : Nat))]) (fun _ => E1)
    (fun x => .sl 3 1 x.2.1 x.1 x.2.2 (i64s ((P.take x.1).map dgOf)) :: .blk b2 (.cells (lkC 0 0 0 0 0) 25 (0, 0)) :: L)
    (fun x => x.1 ≤ P.length ∧ ∀ w, w ∈ P.take x.1 → okP w) (fun x => P.length - x.1) (0, none, 0) ⟨Nat.zero_le _, fun w h => by cases h⟩ ⟨rfl, rfl, rfl, rfl, rfl, rfl, trivial⟩ rfl rfl ?_
  rintro ⟨i, p, k⟩ ⟨hi, hall⟩
  simp only at hi hall ⊢
  by_cases hlt : i < P.length
  · have hx := strs_get (List.getElem?_eq_getElem hlt)
    by_cases hok : okP P[i]
    · obtain ⟨b, hb, hb1, hb2⟩ := hok
      have hl1 : P[i].length = 1 := by rw [hb]; rfl
      have hg : P[i][(0 : Int).toNat]? = some b := by rw [hb]; rfl
      have hsn : i64s ((P.take i).map dgOf) ++ [.int .i64 ((b.toNat : Int) - 48)] = i64s ((P.take (i + 1)).map dgOf) := by
        rw [List.take_succ_eq_append_getElem hlt, hb]
        simp only [i64s, List.map_append, List.map_cons, List.map_nil]
        rfl
      refine G_seq (G_region ?_)
      refine G_val (V_lss rfl rfl rfl) rfl rfl (.none rfl) ?_
      refine G_end (X_then (G_seq ?_))
      refine G_cond_t rfl (decide_eq_true (by omega)) ?_
      refine G_skip (X_then (G_seq (G_block (G_seq (G_region ?_)))))
      refine G_val (V_idxAddr rfl rfl rfl (SlE.rd (by assumption)) (by omega) (by omega)) rfl rfl (.none rfl) ?_
      refine G_val (V_loadS rfl rfl (SlE.rd (by assumption)) (by assumption) (by simp)) rfl rfl (.none rfl) ?_
      refine G_val (V_assign rfl rfl) rfl rfl (.none rfl) ?_
      refine G_end (X_then (G_seq (G_seq (G_region ?_))))
      refine G_val (V_move rfl rfl) rfl rfl (.none rfl) ?_
      refine G_val (V_len rfl rfl) rfl rfl (.none rfl) ?_
      refine G_val (V_neq rfl rfl rfl) rfl rfl (.none rfl) ?_
      refine G_val (V_move rfl rfl) rfl rfl (.none rfl) ?_
      refine G.bool_f 20 rfl (decide_eq_false (by omega)) ?_
      refine G_val (V_move rfl rfl) rfl rfl (.yes rfl rfl rfl rfl) ?_
      refine G_val (V_sidx rfl rfl rfl (by omega) (by assumption)) rfl rfl (.yes rfl rfl rfl rfl) ?_
      refine G_val (V_lss rfl rfl rfl) rfl rfl (.yes rfl rfl rfl rfl) ?_
      refine G_val (V_pick_f rfl rfl rfl) rfl rfl (.none rfl) ?_
      refine G_val (V_move rfl rfl) rfl rfl (.none rfl) ?_
      refine G.bool_f 25 rfl (decide_eq_false (by omega)) ?_
      refine G_val (V_move rfl rfl) rfl rfl (.yes rfl rfl rfl rfl) ?_
      refine G_val (V_sidx rfl rfl rfl (by omega) (by assumption)) rfl rfl (.yes rfl rfl rfl rfl) ?_
      refine G_val (V_gtr rfl rfl rfl) rfl rfl (.yes rfl rfl rfl rfl) ?_
      refine G_val (V_pick_f rfl rfl rfl) rfl rfl (.none rfl) ?_
      refine G_end (X_then ?_)
      refine G_cond_f rfl (decide_eq_false (by omega)) ?_
      refine G_skip (X_then (G_region ?_))
      refine G_val (V_move rfl rfl) rfl rfl (.none rfl) ?_
      refine G_val (V_move rfl rfl) rfl rfl (.none rfl) ?_
      refine G_val (V_sidx rfl rfl rfl (by omega) (by assumption)) rfl rfl (.none rfl) ?_
      refine G_val (V_sub_u8 rfl rfl rfl (by omega) (by omega)) rfl rfl (.none rfl) ?_
      refine G_val (V_conv_i64 rfl rfl (by omega) (by omega)) rfl rfl (.none rfl) ?_
      (refine G_lit1 rfl rfl rfl rfl rfl (.none rfl) ?_; intro b36)
      (refine G_append rfl rfl rfl (Rd.lit (.head _) rfl) (by simp [Value.oneCell']) (by omega) (by omega) rfl rfl (.none rfl) (fun _ _ => (.tail _ (.head _ _ _))) ?_; intro a37 c37; refine G.rm (.head _ _) ?_)
      refine G_val (V_assign rfl rfl) rfl rfl (.none rfl) ?_
      refine G_end (X_block (X_then (G_region ?_)))
      refine G_val (V_add_i64 rfl rfl rfl (by omega) (by omega)) rfl rfl (.none rfl) ?_
      refine G_val (V_move rfl rfl) rfl rfl (.none rfl) ?_
      refine G_end (X_then ?_)
      rw [hsn]
      exact G_again (i + 1, _, _) ⟨hlt, fun w h => by
        rw [List.take_succ_eq_append_getElem hlt] at h
        rcases List.mem_append.1 h with h | h
        · exact hall w h
        · rw [List.mem_singleton.1 h]; exact ⟨b, hb, hb1, hb2⟩⟩ (by simp only; omega) ⟨rfl, rfl, rfl, rfl, rfl, rfl, trivial⟩ rfl rfl
    · rw [if_neg (fun h => hok (h _ (List.getElem_mem _)))]
      by_cases hl1 : P[i].length = 1
      · obtain ⟨b, hb⟩ := List.length_eq_one_iff.1 hl1
        have hg : P[i][(0 : Int).toNat]? = some b := by rw [hb]; rfl
        have hbad : b.toNat < 48 ∨ 57 < b.toNat := by
          by_cases q : b.toNat < 48
          · exact .inl q
          · by_cases q2 : 57 < b.toNat
            · exact .inr q2
            · exact absurd ⟨b, hb, by omega, by omega⟩ hok
        clear hok hall
        rcases hbad with hbad | hbad
        · refine G_seq ?_
          refine G_region ?_
          refine G_val (V_lss rfl rfl rfl) rfl rfl (.none rfl) ?_
          refine G_end (X_then (G_seq ?_))
          refine G_cond_t rfl (decide_eq_true (by omega)) ?_
          refine G_skip (X_then (G_seq (G_block (G_seq (G_region ?_)))))
          refine G_val (V_idxAddr rfl rfl rfl (SlE.rd (by assumption)) (by omega) (by omega)) rfl rfl (.none rfl) ?_
          refine G_val (V_loadS rfl rfl (SlE.rd (by assumption)) (by assumption) (by simp)) rfl rfl (.none rfl) ?_
          refine G_val (V_assign rfl rfl) rfl rfl (.none rfl) ?_
          refine G_end (X_then (G_seq (G_seq (G_region ?_))))
          refine G_val (V_move rfl rfl) rfl rfl (.none rfl) ?_
          refine G_val (V_len rfl rfl) rfl rfl (.none rfl) ?_
          refine G_val (V_neq rfl rfl rfl) rfl rfl (.none rfl) ?_
          refine G_val (V_move rfl rfl) rfl rfl (.none rfl) ?_
          refine G.bool_f 20 rfl (decide_eq_false (by omega)) ?_
          refine G_val (V_move rfl rfl) rfl rfl (.yes rfl rfl rfl rfl) ?_
          refine G_val (V_sidx rfl rfl rfl (by omega) (by assumption)) rfl rfl (.yes rfl rfl rfl rfl) ?_
          refine G_val (V_lss rfl rfl rfl) rfl rfl (.yes rfl rfl rfl rfl) ?_
          refine G_val (V_pick_f rfl rfl rfl) rfl rfl (.none rfl) ?_
          refine G_val (V_move rfl rfl) rfl rfl (.none rfl) ?_
          refine G.bool_t 25 rfl (decide_eq_true (by omega)) ?_
          refine G_stay (.no rfl rfl rfl rfl) rfl rfl ?_
          refine G_stay (.no rfl rfl rfl rfl) rfl rfl ?_
          refine G_stay (.no rfl rfl rfl rfl) rfl rfl ?_
          refine G_val (V_pick_t rfl rfl rfl) rfl rfl (.none rfl) ?_
          refine G_end (X_then ?_)
          refine G_cond_t rfl rfl ?_
          refine G_seq (G_region ?_)
          refine G_val (V_build rfl rfl (by simp [fillV, setLs, setL, Value.cells]; rfl)) rfl rfl (.none rfl) ?_
          refine G_storeA rfl rfl rfl rfl (by simp [Value.oneCell']) rfl (.none rfl) (.tail _ (.head _ _ _)) rfl ?_
          refine G_val (V_assign rfl rfl) rfl rfl (.none rfl) ?_
          refine G_end (X_then (G_ret (X_then_ret (X_block_ret (X_then_ret (X_then_ret (X_block_ret (X_then_ret ?_))))))))
          refine G_leaveS (.drop _ (.drop _ (.nil _))) (by exact (.cons (.cellA rfl (Cells.own (.tail _ (.head _))) rfl) (.cons (.tmp rfl) (.nil)))) rfl ?_ ?_
          · exact hE1
          exact ⟨(by kernel_rfl), rfl⟩
        · refine G_seq ?_
          refine G_region ?_
          refine G_val (V_lss rfl rfl rfl) rfl rfl (.none rfl) ?_
          refine G_end (X_then (G_seq ?_))
          refine G_cond_t rfl (decide_eq_true (by omega)) ?_
          refine G_skip (X_then (G_seq (G_block (G_seq (G_region ?_)))))
          refine G_val (V_idxAddr rfl rfl rfl (SlE.rd (by assumption)) (by omega) (by omega)) rfl rfl (.none rfl) ?_
          refine G_val (V_loadS rfl rfl (SlE.rd (by assumption)) (by assumption) (by simp)) rfl rfl (.none rfl) ?_
          refine G_val (V_assign rfl rfl) rfl rfl (.none rfl) ?_
          refine G_end (X_then (G_seq (G_seq (G_region ?_))))
          refine G_val (V_move rfl rfl) rfl rfl (.none rfl) ?_
          refine G_val (V_len rfl rfl) rfl rfl (.none rfl) ?_
          refine G_val (V_neq rfl rfl rfl) rfl rfl (.none rfl) ?_
          refine G_val (V_move rfl rfl) rfl rfl (.none rfl) ?_
          refine G.bool_f 20 rfl (decide_eq_false (by omega)) ?_
          refine G_val (V_move rfl rfl) rfl rfl (.yes rfl rfl rfl rfl) ?_
          refine G_val (V_sidx rfl rfl rfl (by omega) (by assumption)) rfl rfl (.yes rfl rfl rfl rfl) ?_
          refine G_val (V_lss rfl rfl rfl) rfl rfl (.yes rfl rfl rfl rfl) ?_
          refine G_val (V_pick_f rfl rfl rfl) rfl rfl (.none rfl) ?_
          refine G_val (V_move rfl rfl) rfl rfl (.none rfl) ?_
          refine G.bool_f 25 rfl (decide_eq_false (by omega)) ?_
          refine G_val (V_move rfl rfl) rfl rfl (.yes rfl rfl rfl rfl) ?_
          refine G_val (V_sidx rfl rfl rfl (by omega) (by assumption)) rfl rfl (.yes rfl rfl rfl rfl) ?_
          refine G_val (V_gtr rfl rfl rfl) rfl rfl (.yes rfl rfl rfl rfl) ?_
          refine G_val (V_pick_f rfl rfl rfl) rfl rfl (.none rfl) ?_
          refine G_end (X_then ?_)
          refine G_cond_t rfl (decide_eq_true (by omega)) ?_
          refine G_seq (G_region ?_)
          refine G_val (V_build rfl rfl (by simp [fillV, setLs, setL, Value.cells]; rfl)) rfl rfl (.none rfl) ?_
          refine G_storeA rfl rfl rfl rfl (by simp [Value.oneCell']) rfl (.none rfl) (.tail _ (.head _ _ _)) rfl ?_
          refine G_val (V_assign rfl rfl) rfl rfl (.none rfl) ?_
          refine G_end (X_then (G_ret (X_then_ret (X_block_ret (X_then_ret (X_then_ret (X_block_ret (X_then_ret ?_))))))))
          refine G_leaveS (.drop _ (.drop _ (.nil _))) (by exact (.cons (.cellA rfl (Cells.own (.tail _ (.head _))) rfl) (.cons (.tmp rfl) (.nil)))) rfl ?_ ?_
          · exact hE1
          exact ⟨(by kernel_rfl), rfl⟩
      · refine G_seq ?_
        refine G_region ?_
        refine G_val (V_lss rfl rfl rfl) rfl rfl (.none rfl) ?_
        refine G_end (X_then (G_seq ?_))
        refine G_cond_t rfl (decide_eq_true (by omega)) ?_
        refine G_skip (X_then (G_seq (G_block (G_seq (G_region ?_)))))
        refine G_val (V_idxAddr rfl rfl rfl (SlE.rd (by assumption)) (by omega) (by omega)) rfl rfl (.none rfl) ?_
        refine G_val (V_loadS rfl rfl (SlE.rd (by assumption)) (by assumption) (by simp)) rfl rfl (.none rfl) ?_
        refine G_val (V_assign rfl rfl) rfl rfl (.none rfl) ?_
        refine G_end (X_then (G_seq (G_seq (G_region ?_))))
        refine G_val (V_move rfl rfl) rfl rfl (.none rfl) ?_
        refine G_val (V_len rfl rfl) rfl rfl (.none rfl) ?_
        refine G_val (V_neq rfl rfl rfl) rfl rfl (.none rfl) ?_
        refine G_val (V_move rfl rfl) rfl rfl (.none rfl) ?_
        refine G.bool_t 20 rfl (decide_eq_true (by omega)) ?_
        refine G_stay (.no rfl rfl rfl rfl) rfl rfl ?_
        refine G_stay (.no rfl rfl rfl rfl) rfl rfl ?_
        refine G_stay (.no rfl rfl rfl rfl) rfl rfl ?_
        refine G_val (V_pick_t rfl rfl rfl) rfl rfl (.none rfl) ?_
        refine G_val (V_move rfl rfl) rfl rfl (.none rfl) ?_
        refine G_stay (.no rfl rfl rfl rfl) rfl rfl ?_
        refine G_stay (.no rfl rfl rfl rfl) rfl rfl ?_
        refine G_stay (.no rfl rfl rfl rfl) rfl rfl ?_
        refine G_val (V_pick_t rfl rfl rfl) rfl rfl (.none rfl) ?_
        refine G_end (X_then ?_)
        refine G_cond_t rfl rfl ?_
        refine G_seq (G_region ?_)
        refine G_val (V_build rfl rfl (by simp [fillV, setLs, setL, Value.cells]; rfl)) rfl rfl (.none rfl) ?_
        refine G_storeA rfl rfl rfl rfl (by simp [Value.oneCell']) rfl (.none rfl) (.tail _ (.head _ _ _)) rfl ?_
        refine G_val (V_assign rfl rfl) rfl rfl (.none rfl) ?_
        refine G_end (X_then (G_ret (X_then_ret (X_block_ret (X_then_ret (X_then_ret (X_block_ret (X_then_ret ?_))))))))
        refine G_leaveS (.drop _ (.drop _ (.nil _))) (by exact (.cons (.cellA rfl (Cells.own (.tail _ (.head _))) rfl) (.cons (.tmp rfl) (.nil)))) rfl ?_ ?_
        · exact hE1
        exact ⟨(by kernel_rfl), rfl⟩
  · obtain rfl : i = P.length := by omega
    rw [List.take_length] at hall ⊢
    rw [if_pos hall]
    refine G.freezeSl (.head _ _) ?_
    intro E2 hE2 hs2 hkc
    obtain ⟨n', a', b', c', d', hlk⟩ := ofM_lk (P.map dgOf)
    generalize hv : ofM (P.map dgOf) = v at hlk ⊢
    have hml : (P.map dgOf).length = P.length := List.length_map _
    refine G_seq (G_region ?_)
    refine G_val (V_lss rfl rfl rfl) rfl rfl (.none rfl) ?_
    refine G_end (X_then (G_seq ?_))
    refine G_cond_f rfl (decide_eq_false (by omega)) ?_
    refine G_exit (X_then_exit (X_then_exit (X_block_hit (X_then (G_seq (G_region ?_))))))
    refine G_val (V_move rfl rfl) rfl rfl (.none rfl) ?_
    refine G_callv (k := 12) (.mk rfl rfl rfl rfl) rfl rfl (.none rfl) (Of_call _ _ p P.length k (P.map dgOf) hs2 (by omega)) ?_
    rw [hv, hlk]
    refine G_val (V_extract rfl rfl rfl) rfl rfl (.none rfl) ?_
    refine G_val (V_extract rfl rfl rfl) rfl rfl (.none rfl) ?_
    refine G_storeA rfl rfl rfl rfl (by simp [Value.oneCell']) rfl (.none rfl) (.head _ _ _) rfl ?_
    refine G_val (V_assign rfl rfl) rfl rfl (.none rfl) ?_
    refine G_end (X_then (G_ret ?_))
    refine G_leaveS (.drop _ (.nil _)) (by exact (.cons (.cellA rfl (Cells.own (.head _)) rfl) (.cons (.tmp rfl) (.nil)))) rfl ?_ ?_
    · exact (hE1.trans hE2)
    exact ⟨rfl, rfl⟩
end
end Go.Proofs.YthcfakmmomfcaaaDoor
set_option linter.unusedSimpArgs false
set_option linter.unusedVariables false
set_option maxHeartbeats 2000000
set_option maxRecDepth 20000
namespace Go.Proofs.YthcfakmmomfcaaaDoor
open Go.RowKit
/-! The reference Parse. -/
section
variable (E : Env) (L : List Res)
end
end Go.Proofs.YthcfakmmomfcaaaDoor
set_option linter.unusedSimpArgs false
set_option linter.unusedVariables false
set_option maxHeartbeats 2000000
set_option maxRecDepth 20000
namespace Go.Proofs.YthcfakmmomfcaaaDoor
open Go.RowKit
/-! The law's helpers: of, joins, compares, begins, awake. -/
section
variable (E : Env) (L : List Res)
theorem ofL_call (p : Option Addr) (n c : Nat) (l : List Int) (h : SlE E 1 p n (i64s l)) (hn : n ≤ 9223372036854775806) : CallV Tryd.prog 37 #[.slice p n c] E L (ofM l).1 := by
  obtain ⟨n', a', b', c', d', hlk⟩ := ofM_lk l
  generalize hv : ofM l = v at hlk ⊢
  refine CallS.toV (CallS.intro (l := [_]) _ Tryd.func37 rfl Tryd.ntmps37 rfl ?_)
  refine G_seq (G_region ?_)
  (refine G_alloc rfl rfl rfl (.none rfl) ?_; intro b2)
  refine G_end (X_then (G_seq (G_region ?_)))
  refine G_val (V_move rfl rfl) rfl rfl (.none rfl) ?_
  refine G_callv (k := 12) (.mk rfl rfl rfl rfl) rfl rfl (.none rfl) (Of_call _ _ p n c l h hn) ?_
  rw [hv, hlk]
  refine G_val (V_move rfl rfl) rfl rfl (.none rfl) ?_
  refine G_val (V_extract rfl rfl rfl) rfl rfl (.none rfl) ?_
  refine G_val (V_extract rfl rfl rfl) rfl rfl (.none rfl) ?_
  (refine G_alloc rfl rfl rfl (.none rfl) ?_; intro b3)
  refine G_storeA rfl rfl rfl rfl (by simp [Value.oneCell']) rfl (.none rfl) (.head _ _ _) rfl ?_
  refine G_val (V_assign rfl rfl) rfl rfl (.none rfl) ?_
  refine G_end (X_then (G_seq (G_region ?_)))
  refine G_val (V_loadA rfl rfl (Cells.own (.head _)) rfl) rfl rfl (.none rfl) ?_
  refine G_storeA rfl rfl rfl rfl (by simp [Value.oneCell']) rfl (.none rfl) (.tail _ (.head _ _ _)) rfl ?_
  refine G_end (X_then (G_ret ?_))
  refine G_leaveS (.drop _ (.drop _ (.nil _))) (by exact (.cons (.cellA rfl (Cells.own (.tail _ (.head _))) rfl) (.nil))) rfl ?_ ?_
  · exact (.refl _)
  exact ⟨rfl, rfl⟩
theorem of_lit (p : Option Addr) (n c : Nat) (vs : List Value) (l : List Int) (v : Value) (h : SlE E 1 p n vs) (hl : unI vs = some l) (hn : n ≤ 9223372036854775806) (hv : (ofM l).1 = v) : CallV Tryd.prog 37 #[.slice p n c] E L v := by
  rw [← hv]
  exact ofL_call E L p n c l (h.toI hl) hn
end
section
variable (E : Env) (L : List Res)
theorem of_1 (p : Option Addr) (c : Nat) (x : Int) (h : SlE E 1 p 1 [.int .i64 x]) (hx : 0 ≤ x ∧ x < 8) : CallV Tryd.prog 37 #[.slice p 1 c] E L (lk 1 x 0 0 0) :=
  of_lit E L p 1 c _ [x] _ h rfl (by omega) (by unfold ofM; rw [if_neg (by simp), if_pos (by simpa using hx)]; rfl)
theorem ofL_call' (p : Option Addr) (c : Nat) (x y : Int) (h : SlE E 1 p 2 [.int .i64 x, .int .i64 y]) (hx : 0 ≤ x ∧ x < 8) (hy : 0 ≤ y ∧ y < 8) : CallV Tryd.prog 37 #[.slice p 2 c] E L (lk 2 x y 0 0) :=
  of_lit E L p 2 c _ [x, y] _ h rfl (by omega) (by unfold ofM; rw [if_neg (by simp), if_pos (by simpa using ⟨hx, hy⟩)]; rfl)
theorem of_lit' (p : Option Addr) (c : Nat) (x y z : Int) (h : SlE E 1 p 3 [.int .i64 x, .int .i64 y, .int .i64 z]) (hx : 0 ≤ x ∧ x < 8) (hy : 0 ≤ y ∧ y < 8) (hz : 0 ≤ z ∧ z < 8) : CallV Tryd.prog 37 #[.slice p 3 c] E L (lk 3 x y z 0) :=
  of_lit E L p 3 c _ [x, y, z] _ h rfl (by omega) (by unfold ofM; rw [if_neg (by simp), if_pos (by simpa using ⟨hx, hy, hz⟩)]; rfl)
theorem joinsT_call (k n a b c d n' a' b' c' d' n'' a'' b'' c'' d'' : Int) (h : joinM k n a b c d n' a' b' c' d' = (lk n'' a'' b'' c'' d'', 0)) : CallV Tryd.prog 38 #[.int .i64 k, lk n a b c d, lk n' a' b' c' d', lk n'' a'' b'' c'' d''] E L (.bool true) := by
  refine CallS.toV (CallS.intro (l := [_, _, _, _]) _ Tryd.func38 rfl Tryd.ntmps38 rfl ?_)
  refine G_seq (G_region ?_)
  (refine G_boxA rfl rfl rfl rfl (.none rfl) ?_; intro b5)
  (refine G_boxA rfl rfl rfl rfl (.none rfl) ?_; intro b6)
  (refine G_boxA rfl rfl rfl rfl (.none rfl) ?_; intro b7)
  refine G_val (V_assign rfl rfl) rfl rfl (.none rfl) ?_
  refine G_end (X_then (G_seq (G_region ?_)))
  refine G_val (V_move rfl rfl) rfl rfl (.none rfl) ?_
  refine G_val (V_loadA rfl rfl (Cells.own (.tail _ (.tail _ (.head _)))) rfl) rfl rfl (.none rfl) ?_
  refine G_val (V_loadA rfl rfl (Cells.own (.tail _ (.head _))) rfl) rfl rfl (.none rfl) ?_
  refine G_call (k := 21) (.mk rfl rfl rfl rfl) rfl rfl (.none rfl) (Join_call _ _ k n a b c d n' a' b' c' d') ?_
  rintro r1 E1 L1 hE1 ⟨rfl, rfl⟩
  rw [h]
  refine G_val (V_move rfl rfl) rfl rfl (.none rfl) ?_
  refine G_val (V_extract rfl rfl rfl) rfl rfl (.none rfl) ?_
  refine G_val (V_extract rfl rfl rfl) rfl rfl (.none rfl) ?_
  (refine G_alloc rfl rfl rfl (.none rfl) ?_; intro b9)
  refine G_storeA rfl rfl rfl rfl (by simp [Value.oneCell']) rfl (.none rfl) (.head _ _ _) rfl ?_
  refine G_val (V_assign rfl rfl) rfl rfl (.none rfl) ?_
  refine G_end (X_then (G_seq (G_region ?_)))
  refine G_val (V_move rfl rfl) rfl rfl (.none rfl) ?_
  refine G_val (V_eql rfl rfl rfl) rfl rfl (.none rfl) ?_
  refine G_val (V_move rfl rfl) rfl rfl (.none rfl) ?_
  refine G.bool_t 20 rfl (decide_eq_true (by omega)) ?_
  refine G_val (V_loadA rfl rfl (Cells.own (.head _)) rfl) rfl rfl (.yes rfl rfl rfl rfl) ?_
  refine G_val (V_loadA rfl rfl (Cells.own (.tail _ (.head _))) rfl) rfl rfl (.yes rfl rfl rfl rfl) ?_
  refine G_val (V_aeql_25 rfl rfl rfl) rfl rfl (.yes rfl rfl rfl rfl) ?_
  refine G_val (V_pick_t rfl rfl rfl) rfl rfl (.none rfl) ?_
  refine G_val (V_assign rfl rfl) rfl rfl (.none rfl) ?_
  refine G_end (X_then (G_ret ?_))
  refine G_leaveS (.drop _ (.drop _ (.drop _ (.drop _ (.nil _))))) (by exact (.cons (.tmp rfl) (.nil))) rfl ?_ ?_
  · exact hE1
  exact ⟨(by (simp (discharger := omega) only [resVal, if_pos, if_neg]; first | done | rfl)), (by rfl)⟩
theorem comparesT_call (n a b c d n' a' b' c' d' w : Int) (h : cmpM n a b c d n' a' b' c' d' = (w, 0)) : CallV Tryd.prog 43 #[lk n a b c d, lk n' a' b' c' d', .int .i64 w] E L (.bool true) := by
  refine CallS.toV (CallS.intro (l := [_, _, _]) _ Tryd.func43 rfl Tryd.ntmps43 rfl ?_)
  refine G_seq (G_region ?_)
  (refine G_boxA rfl rfl rfl rfl (.none rfl) ?_; intro b3)
  (refine G_boxA rfl rfl rfl rfl (.none rfl) ?_; intro b4)
  refine G_val (V_assign rfl rfl) rfl rfl (.none rfl) ?_
  refine G_end (X_then (G_seq (G_region ?_)))
  refine G_val (V_loadA rfl rfl (Cells.own (.tail _ (.head _))) rfl) rfl rfl (.none rfl) ?_
  refine G_val (V_loadA rfl rfl (Cells.own (.head _)) rfl) rfl rfl (.none rfl) ?_
  refine G_call (k := 25) (.mk rfl rfl rfl rfl) rfl rfl (.none rfl) (Compare_call _ _ n a b c d n' a' b' c' d') ?_
  rintro r1 E1 L1 hE1 ⟨rfl, rfl⟩
  rw [h]
  refine G_val (V_move rfl rfl) rfl rfl (.none rfl) ?_
  refine G_val (V_extract rfl rfl rfl) rfl rfl (.none rfl) ?_
  refine G_val (V_extract rfl rfl rfl) rfl rfl (.none rfl) ?_
  refine G_val (V_assign rfl rfl) rfl rfl (.none rfl) ?_
  refine G_val (V_assign rfl rfl) rfl rfl (.none rfl) ?_
  refine G_end (X_then (G_seq (G_region ?_)))
  refine G_val (V_move rfl rfl) rfl rfl (.none rfl) ?_
  refine G_val (V_eql rfl rfl rfl) rfl rfl (.none rfl) ?_
  refine G_val (V_move rfl rfl) rfl rfl (.none rfl) ?_
  refine G.bool_t 17 rfl (decide_eq_true (by omega)) ?_
  refine G_val (V_move rfl rfl) rfl rfl (.yes rfl rfl rfl rfl) ?_
  refine G_val (V_move rfl rfl) rfl rfl (.yes rfl rfl rfl rfl) ?_
  refine G_val (V_eql rfl rfl rfl) rfl rfl (.yes rfl rfl rfl rfl) ?_
  refine G_val (V_pick_t rfl rfl rfl) rfl rfl (.none rfl) ?_
  refine G_val (V_assign rfl rfl) rfl rfl (.none rfl) ?_
  refine G_end (X_then (G_ret ?_))
  refine G_leaveS (.drop _ (.drop _ (.nil _))) (by exact (.cons (.tmp rfl) (.nil))) rfl ?_ ?_
  · exact hE1
  exact ⟨(by (simp (discharger := omega) only [resVal, if_pos, if_neg]; first | done | rfl)), (by rfl)⟩
end
end Go.Proofs.YthcfakmmomfcaaaDoor
set_option linter.unusedSimpArgs false
set_option linter.unusedVariables false
set_option maxHeartbeats 2000000
set_option maxRecDepth 20000
namespace Go.Proofs.YthcfakmmomfcaaaDoor
open Go.RowKit
theorem parseP_alt {s : List UInt8} (h0 : s ≠ [45]) (h : altP s) : parseP s = ofM (digs s) := by
  unfold parseP
  rw [if_neg h0, if_pos ((alt_iff s.length s (Nat.le_refl _)).2 h), digs_split s.length s (Nat.le_refl _) h]
theorem parseP_07 : parseP [48, 32, 55] = (lk 2 0 7 0 0, 0) := by
  rw [parseP_alt (by decide) (by simp [altP])]
  rfl
section
variable (E : Env) (L : List Res)
theorem Parse07_call : CallS Tryd.prog 29 #[.string (S [48, 32, 55])] E L (fun r E' L' => r = .tuple #[lk 2 0 7 0 0, .int .i64 0] ∧ L = L') := by
  have h := Parse_call E L [48, 32, 55] (by simp)
  rw [parseP_07] at h
  exact h
theorem Text07_call : CallS Tryd.prog 16 #[lk 2 0 7 0 0] E L (fun r E' L' => r = .tuple #[.string (S [48, 32, 55]), .int .i64 0] ∧ L = L') := by
  have h := Text_call E L 2 0 7 0 0
  rw [show txM 2 0 7 0 0 = ([48, 32, 55], 0) by rfl] at h
  exact h
theorem joins1_call : CallV Tryd.prog 38 #[.int .i64 2, lk 2 0 1 0 0, lk 1 2 0 0 0, lk 2 0 1 0 0] E L (.bool true) := joinsT_call E L _ _ _ _ _ _ _ _ _ _ _ _ _ _ _ _ (by rfl)
theorem joinsT_call' : CallV Tryd.prog 38 #[.int .i64 3, lk 2 0 1 0 0, lk 1 2 0 0 0, lk 3 0 1 2 0] E L (.bool true) := joinsT_call E L _ _ _ _ _ _ _ _ _ _ _ _ _ _ _ _ (by rfl)
theorem compares1_call : CallV Tryd.prog 43 #[lk 1 0 0 0 0, lk 2 0 0 0 0, .int .i64 (-1)] E L (.bool true) := comparesT_call E L _ _ _ _ _ _ _ _ _ _ _ (by rfl)
theorem comparesT_call' : CallV Tryd.prog 43 #[lk 1 1 0 0 0, lk 2 0 7 0 0, .int .i64 1] E L (.bool true) := comparesT_call E L _ _ _ _ _ _ _ _ _ _ _ (by rfl)
theorem awake_call : CallS Tryd.prog 10 #[] E L (fun r E' L' => r = .bool true ∧ L = L') := by
  refine CallS.intro (l := []) _ Tryd.func10 rfl Tryd.ntmps10 rfl ?_
  refine G_seq (G_region ?_)
  refine G_val (V_assign rfl rfl) rfl rfl (.none rfl) ?_
  refine G_end (X_then (G_seq (G_region ?_)))
  (refine G_litZ rfl rfl (by decide) (by simp [fillS, zeros, setLs, setL, Value.cells, List.range, List.range.loop]; rfl) (by rfl) rfl rfl (.none rfl) ?_; intro b6 E6 hE6 hs6)
  refine G_callv (k := 37) (.mk rfl rfl rfl rfl) rfl rfl (.none rfl) (ofL_call' _ _ _ _ _ _ (by assumption) (by omega) (by omega)) ?_
  dsimp only [Go.Proofs.YthcfakmmomfcaaaDoor.lk]
  refine G_call (k := 16) (.mk rfl rfl rfl rfl) rfl rfl (.none rfl) (Text07_call _ _) ?_
  rintro r1 E2 L3 hE4 ⟨rfl, rfl⟩
  replace hs6 := hs6.mono hE4
  refine G_val (V_move rfl rfl) rfl rfl (.none rfl) ?_
  refine G_val (V_extract rfl rfl rfl) rfl rfl (.none rfl) ?_
  refine G_val (V_extract rfl rfl rfl) rfl rfl (.none rfl) ?_
  refine G_val (V_assign rfl rfl) rfl rfl (.none rfl) ?_
  refine G_val (V_assign rfl rfl) rfl rfl (.none rfl) ?_
  refine G_end (X_then (G_seq (G_region ?_)))
  refine G_call (k := 29) (.mk rfl rfl rfl rfl) rfl rfl (.none rfl) (Parse07_call _ _) ?_
  rintro r5 E7 L8 hE9 ⟨rfl, rfl⟩
  replace hs6 := hs6.mono hE9
  refine G_val (V_move rfl rfl) rfl rfl (.none rfl) ?_
  refine G_val (V_extract rfl rfl rfl) rfl rfl (.none rfl) ?_
  refine G_val (V_extract rfl rfl rfl) rfl rfl (.none rfl) ?_
  (refine G_alloc rfl rfl rfl (.none rfl) ?_; intro b3)
  refine G_storeA rfl rfl rfl rfl (by simp [Value.oneCell']) rfl (.none rfl) (.head _ _ _) rfl ?_
  refine G_val (V_assign rfl rfl) rfl rfl (.none rfl) ?_
  refine G_end (X_then (G_seq ?_))
  refine G_drawX 56 ((0, 2) :: (1, 3) :: (2, 0) :: (3, 0) :: (4, 0) :: (5, 0) :: (6, 0) :: (7, 0) :: (8, 0) :: (9, 0) :: (10, 0) :: (11, 0) :: (12, 0) :: (13, 0) :: (14, 0) :: (15, 0) :: (16, 0) :: (17, 0) :: (18, 1) :: (19, 2) :: (20, 3) :: (21, 0) :: (22, 0) :: (23, 0) :: (24, 2) :: (25, 3) :: (26, 2) :: (27, 3) :: (28, 2) :: (29, 3) :: (30, 3) :: (31, 0) :: (32, 0) :: (33, 2) :: (34, 3) :: (35, 2) :: (36, 3) :: (37, 2) :: (38, 3) :: (39, 3) :: (40, 0) :: (41, 0) :: (42, 2) :: (43, 3) :: (44, 2) :: (45, 3) :: (46, 3) :: (47, 0) :: (48, 0) :: (49, 2) :: (50, 3) :: (51, 2) :: (52, 3) :: (53, 3) :: (54, 0) :: (55, 0) :: []) mixed (by kernel_rfl) ?_
  (refine F_litZ rfl rfl rfl (by decide) (by simp [fillS, zeros, setLs, setL, Value.cells, List.range, List.range.loop]; rfl) (by rfl) rfl rfl (.none rfl) ?_; intro b15 E15 hE15 hs15)
  replace hs6 := hs6.mono hE15
  refine F_callv (k := 37) rfl (.mk rfl rfl rfl rfl) rfl rfl (.none rfl) (fun _ => ofL_call' _ _ _ _ _ _ (by assumption) (by omega) (by omega)) ?_
  dsimp only [Go.Proofs.YthcfakmmomfcaaaDoor.lk]
  refine F_pure rfl (fun _ _ => V_buildArr rfl rfl (by simp [fillS, setLs, setL, Value.cells]; rfl)) rfl rfl (.none rfl) ?_
  refine F_pure rfl (fun _ _ => V_build rfl rfl (by simp [fillV, setLs, setL, Value.cells]; rfl)) rfl rfl (.none rfl) ?_
  refine F_pure rfl (fun _ _ => V_aeql_25 rfl rfl rfl) rfl rfl (.none rfl) ?_
  refine F_pure rfl (fun _ _ => V_move rfl rfl) rfl rfl (.none rfl) ?_
  refine GF.bool_t 20 rfl (by kernel_rfl) ?_
  refine F_pure rfl (fun _ _ => V_move rfl rfl) rfl rfl (.yes rfl rfl rfl rfl) ?_
  refine F_pure rfl (fun _ _ => V_eql rfl rfl rfl) rfl rfl (.yes rfl rfl rfl rfl) ?_
  refine F_pure rfl (fun _ _ => V_pick_t rfl rfl rfl) rfl rfl (.none rfl) ?_
  refine F_pure rfl (fun _ _ => V_move rfl rfl) rfl rfl (.none rfl) ?_
  refine GF.bool_t 24 rfl (by kernel_rfl) ?_
  refine F_pure rfl (fun _ _ => V_move rfl rfl) rfl rfl (.yes rfl rfl rfl rfl) ?_
  refine F_pure rfl (fun _ _ => V_seql rfl rfl rfl) rfl rfl (.yes rfl rfl rfl rfl) ?_
  refine F_pure rfl (fun _ _ => V_pick_t rfl rfl rfl) rfl rfl (.none rfl) ?_
  refine F_pure rfl (fun _ _ => V_move rfl rfl) rfl rfl (.none rfl) ?_
  refine GF.bool_t 28 rfl (by kernel_rfl) ?_
  refine F_pure rfl (fun _ _ => V_move rfl rfl) rfl rfl (.yes rfl rfl rfl rfl) ?_
  refine F_pure rfl (fun _ _ => V_eql rfl rfl rfl) rfl rfl (.yes rfl rfl rfl rfl) ?_
  refine F_pure rfl (fun _ _ => V_pick_t rfl rfl rfl) rfl rfl (.none rfl) ?_
  refine F_pure rfl (fun _ _ => V_move rfl rfl) rfl rfl (.none rfl) ?_
  refine GF.bool_t 32 rfl (by kernel_rfl) ?_
  refine F_load rfl (.head _) (V_loadA rfl rfl (Cells.own (.head _)) rfl) rfl rfl (.yes rfl rfl rfl rfl) ?_
  (refine F_litZ rfl rfl rfl (by decide) (by simp [fillS, zeros, setLs, setL, Value.cells, List.range, List.range.loop]; rfl) (by rfl) rfl rfl (.yes rfl rfl rfl rfl) ?_; intro b34 E34 hE34 hs34)
  replace hs15 := hs15.mono hE34
  replace hs6 := hs6.mono hE34
  refine F_callv (k := 37) rfl (.mk rfl rfl rfl rfl) rfl rfl (.yes rfl rfl rfl rfl) (fun _ => ofL_call' _ _ _ _ _ _ (by assumption) (by omega) (by omega)) ?_
  dsimp only [Go.Proofs.YthcfakmmomfcaaaDoor.lk]
  refine F_pure rfl (fun _ _ => V_aeql_25 rfl rfl rfl) rfl rfl (.yes rfl rfl rfl rfl) ?_
  refine F_pure rfl (fun _ _ => V_pick_t rfl rfl rfl) rfl rfl (.none rfl) ?_
  refine F_pure rfl (fun _ _ => V_move rfl rfl) rfl rfl (.none rfl) ?_
  refine GF.bool_t 38 rfl (by kernel_rfl) ?_
  (refine F_litZ rfl rfl rfl (by decide) (by simp [fillS, zeros, setLs, setL, Value.cells, List.range, List.range.loop]; rfl) (by rfl) rfl rfl (.yes rfl rfl rfl rfl) ?_; intro b39 E39 hE39 hs39)
  replace hs34 := hs34.mono hE39
  replace hs15 := hs15.mono hE39
  replace hs6 := hs6.mono hE39
  refine F_callv (k := 37) rfl (.mk rfl rfl rfl rfl) rfl rfl (.yes rfl rfl rfl rfl) (fun _ => ofL_call' _ _ _ _ _ _ (by assumption) (by omega) (by omega)) ?_
  dsimp only [Go.Proofs.YthcfakmmomfcaaaDoor.lk]
  (refine F_litZ rfl rfl rfl (by decide) (by simp [fillS, zeros, setLs, setL, Value.cells, List.range, List.range.loop]; rfl) (by rfl) rfl rfl (.yes rfl rfl rfl rfl) ?_; intro b41 E41 hE41 hs41)
  replace hs39 := hs39.mono hE41
  replace hs34 := hs34.mono hE41
  replace hs15 := hs15.mono hE41
  replace hs6 := hs6.mono hE41
  refine F_callv (k := 37) rfl (.mk rfl rfl rfl rfl) rfl rfl (.yes rfl rfl rfl rfl) (fun _ => of_1 _ _ _ _ _ (by assumption) (by omega)) ?_
  dsimp only [Go.Proofs.YthcfakmmomfcaaaDoor.lk]
  (refine F_litZ rfl rfl rfl (by decide) (by simp [fillS, zeros, setLs, setL, Value.cells, List.range, List.range.loop]; rfl) (by rfl) rfl rfl (.yes rfl rfl rfl rfl) ?_; intro b43 E43 hE43 hs43)
  replace hs41 := hs41.mono hE43
  replace hs39 := hs39.mono hE43
  replace hs34 := hs34.mono hE43
  replace hs15 := hs15.mono hE43
  replace hs6 := hs6.mono hE43
  refine F_callv (k := 37) rfl (.mk rfl rfl rfl rfl) rfl rfl (.yes rfl rfl rfl rfl) (fun _ => ofL_call' _ _ _ _ _ _ (by assumption) (by omega) (by omega)) ?_
  dsimp only [Go.Proofs.YthcfakmmomfcaaaDoor.lk]
  refine F_callv (k := 38) rfl (.mk rfl rfl rfl rfl) rfl rfl (.yes rfl rfl rfl rfl) (fun _ => joins1_call _ _) ?_
  refine F_pure rfl (fun _ _ => V_pick_t rfl rfl rfl) rfl rfl (.none rfl) ?_
  refine F_pure rfl (fun _ _ => V_move rfl rfl) rfl rfl (.none rfl) ?_
  (refine F_litZ rfl rfl rfl (by decide) (by simp [fillS, zeros, setLs, setL, Value.cells, List.range, List.range.loop]; rfl) (by rfl) rfl rfl (.yes rfl rfl rfl rfl) ?_; intro b48 E48 hE48 hs48)
  replace hs43 := hs43.mono hE48
  replace hs41 := hs41.mono hE48
  replace hs39 := hs39.mono hE48
  replace hs34 := hs34.mono hE48
  replace hs15 := hs15.mono hE48
  replace hs6 := hs6.mono hE48
  refine F_callv (k := 37) rfl (.mk rfl rfl rfl rfl) rfl rfl (.yes rfl rfl rfl rfl) (fun _ => ofL_call' _ _ _ _ _ _ (by assumption) (by omega) (by omega)) ?_
  dsimp only [Go.Proofs.YthcfakmmomfcaaaDoor.lk]
  (refine F_litZ rfl rfl rfl (by decide) (by simp [fillS, zeros, setLs, setL, Value.cells, List.range, List.range.loop]; rfl) (by rfl) rfl rfl (.yes rfl rfl rfl rfl) ?_; intro b50 E50 hE50 hs50)
  replace hs48 := hs48.mono hE50
  replace hs43 := hs43.mono hE50
  replace hs41 := hs41.mono hE50
  replace hs39 := hs39.mono hE50
  replace hs34 := hs34.mono hE50
  replace hs15 := hs15.mono hE50
  replace hs6 := hs6.mono hE50
  refine F_callv (k := 37) rfl (.mk rfl rfl rfl rfl) rfl rfl (.yes rfl rfl rfl rfl) (fun _ => of_1 _ _ _ _ _ (by assumption) (by omega)) ?_
  dsimp only [Go.Proofs.YthcfakmmomfcaaaDoor.lk]
  (refine F_litZ rfl rfl rfl (by decide) (by simp [fillS, zeros, setLs, setL, Value.cells, List.range, List.range.loop]; rfl) (by rfl) rfl rfl (.yes rfl rfl rfl rfl) ?_; intro b52 E52 hE52 hs52)
  replace hs50 := hs50.mono hE52
  replace hs48 := hs48.mono hE52
  replace hs43 := hs43.mono hE52
  replace hs41 := hs41.mono hE52
  replace hs39 := hs39.mono hE52
  replace hs34 := hs34.mono hE52
  replace hs15 := hs15.mono hE52
  replace hs6 := hs6.mono hE52
  refine F_callv (k := 37) rfl (.mk rfl rfl rfl rfl) rfl rfl (.yes rfl rfl rfl rfl) (fun _ => of_lit' _ _ _ _ _ _ _ (by assumption) (by omega) (by omega) (by omega)) ?_
  dsimp only [Go.Proofs.YthcfakmmomfcaaaDoor.lk]
  refine F_callv (k := 38) rfl (.mk rfl rfl rfl rfl) rfl rfl (.yes rfl rfl rfl rfl) (fun _ => joinsT_call' _ _) ?_
  refine F_pure rfl (fun _ _ => V_pick_t rfl rfl rfl) rfl rfl (.none rfl) ?_
  refine F_pure rfl (fun _ _ => V_move rfl rfl) rfl rfl (.none rfl) ?_
  (refine F_litZ rfl rfl rfl (by decide) (by simp [fillS, zeros, setLs, setL, Value.cells, List.range, List.range.loop]; rfl) (by rfl) rfl rfl (.yes rfl rfl rfl rfl) ?_; intro b57 E57 hE57 hs57)
  replace hs52 := hs52.mono hE57
  replace hs50 := hs50.mono hE57
  replace hs48 := hs48.mono hE57
  replace hs43 := hs43.mono hE57
  replace hs41 := hs41.mono hE57
  replace hs39 := hs39.mono hE57
  replace hs34 := hs34.mono hE57
  replace hs15 := hs15.mono hE57
  replace hs6 := hs6.mono hE57
  refine F_callv (k := 37) rfl (.mk rfl rfl rfl rfl) rfl rfl (.yes rfl rfl rfl rfl) (fun _ => of_1 _ _ _ _ _ (by assumption) (by omega)) ?_
  dsimp only [Go.Proofs.YthcfakmmomfcaaaDoor.lk]
  (refine F_litZ rfl rfl rfl (by decide) (by simp [fillS, zeros, setLs, setL, Value.cells, List.range, List.range.loop]; rfl) (by rfl) rfl rfl (.yes rfl rfl rfl rfl) ?_; intro b59 E59 hE59 hs59)
  replace hs57 := hs57.mono hE59
  replace hs52 := hs52.mono hE59
  replace hs50 := hs50.mono hE59
  replace hs48 := hs48.mono hE59
  replace hs43 := hs43.mono hE59
  replace hs41 := hs41.mono hE59
  replace hs39 := hs39.mono hE59
  replace hs34 := hs34.mono hE59
  replace hs15 := hs15.mono hE59
  replace hs6 := hs6.mono hE59
  refine F_callv (k := 37) rfl (.mk rfl rfl rfl rfl) rfl rfl (.yes rfl rfl rfl rfl) (fun _ => ofL_call' _ _ _ _ _ _ (by assumption) (by omega) (by omega)) ?_
  dsimp only [Go.Proofs.YthcfakmmomfcaaaDoor.lk]
  refine F_callv (k := 43) rfl (.mk rfl rfl rfl rfl) rfl rfl (.yes rfl rfl rfl rfl) (fun _ => compares1_call _ _) ?_
  refine F_pure rfl (fun _ _ => V_pick_t rfl rfl rfl) rfl rfl (.none rfl) ?_
  refine F_pure rfl (fun _ _ => V_move rfl rfl) rfl rfl (.none rfl) ?_
  (refine F_litZ rfl rfl rfl (by decide) (by simp [fillS, zeros, setLs, setL, Value.cells, List.range, List.range.loop]; rfl) (by rfl) rfl rfl (.yes rfl rfl rfl rfl) ?_; intro b64 E64 hE64 hs64)
  replace hs59 := hs59.mono hE64
  replace hs57 := hs57.mono hE64
  replace hs52 := hs52.mono hE64
  replace hs50 := hs50.mono hE64
  replace hs48 := hs48.mono hE64
  replace hs43 := hs43.mono hE64
  replace hs41 := hs41.mono hE64
  replace hs39 := hs39.mono hE64
  replace hs34 := hs34.mono hE64
  replace hs15 := hs15.mono hE64
  replace hs6 := hs6.mono hE64
  refine F_callv (k := 37) rfl (.mk rfl rfl rfl rfl) rfl rfl (.yes rfl rfl rfl rfl) (fun _ => of_1 _ _ _ _ _ (by assumption) (by omega)) ?_
  dsimp only [Go.Proofs.YthcfakmmomfcaaaDoor.lk]
  (refine F_litZ rfl rfl rfl (by decide) (by simp [fillS, zeros, setLs, setL, Value.cells, List.range, List.range.loop]; rfl) (by rfl) rfl rfl (.yes rfl rfl rfl rfl) ?_; intro b66 E66 hE66 hs66)
  replace hs64 := hs64.mono hE66
  replace hs59 := hs59.mono hE66
  replace hs57 := hs57.mono hE66
  replace hs52 := hs52.mono hE66
  replace hs50 := hs50.mono hE66
  replace hs48 := hs48.mono hE66
  replace hs43 := hs43.mono hE66
  replace hs41 := hs41.mono hE66
  replace hs39 := hs39.mono hE66
  replace hs34 := hs34.mono hE66
  replace hs15 := hs15.mono hE66
  replace hs6 := hs6.mono hE66
  refine F_callv (k := 37) rfl (.mk rfl rfl rfl rfl) rfl rfl (.yes rfl rfl rfl rfl) (fun _ => ofL_call' _ _ _ _ _ _ (by assumption) (by omega) (by omega)) ?_
  dsimp only [Go.Proofs.YthcfakmmomfcaaaDoor.lk]
  refine F_callv (k := 43) rfl (.mk rfl rfl rfl rfl) rfl rfl (.yes rfl rfl rfl rfl) (fun _ => comparesT_call' _ _) ?_
  refine F_pure rfl (fun _ _ => V_pick_t rfl rfl rfl) rfl rfl (.none rfl) ?_
  refine F_pure rfl (fun _ _ => V_assign rfl rfl) rfl rfl (.none rfl) ?_
  (refine F_end (.nil _) ?_; dsimp only [List.drop])
  refine G_end (X_then (G_ret ?_))
  refine G_leaveS (.drop _ (.nil _)) (by exact (.cons (.tmp rfl) (.nil))) rfl ?_ ?_
  · exact ((((((((((((((hE6.trans hE4).trans hE9).trans hE15).trans hE34).trans hE39).trans hE41).trans hE43).trans hE48).trans hE50).trans hE52).trans hE57).trans hE59).trans hE64).trans hE66)
  exact ⟨(by kernel_rfl), rfl⟩
end
end Go.Proofs.YthcfakmmomfcaaaDoor
set_option linter.unusedSimpArgs false
set_option linter.unusedVariables false
set_option maxHeartbeats 2000000
set_option maxRecDepth 20000
namespace Go.Proofs.YthcfakmmomfcaaaDoor
open Go.RowKit
/-! The law LookMakes. -/
section
variable (E : Env) (L : List Res)
theorem Of_call' (p : Option Addr) (n c : Nat) (xs : List Int) (o1 o2 o3 o4 o5 e : Int) (h : SlE E 1 p n (i64s xs)) (hn : n ≤ 9223372036854775806) (ho : ofM xs = (lk o1 o2 o3 o4 o5, e)) : CallV Tryd.prog 12 #[.slice p n c] E L (.tuple #[lk o1 o2 o3 o4 o5, .int .i64 e]) := by
  have := Of_call E L p n c xs h hn
  rwa [ho] at this
theorem ROf_call' (p : Option Addr) (n c : Nat) (xs : List Int) (o1 o2 o3 o4 o5 e : Int) (h : SlE E 1 p n (i64s xs)) (hn : n ≤ 9223372036854775806) (ho : ofM xs = (lk o1 o2 o3 o4 o5, e)) : CallV Tryd.prog 13 #[.slice p n c] E L (.tuple #[lk o1 o2 o3 o4 o5, .int .i64 e]) := by
  have := ROf_call E L p n c xs h hn
  rwa [ho] at this
theorem LookMakes_call (p : Option Addr) (n c : Nat) (xs : List Int) (h : SlE E 1 p n (i64s xs)) (hn : n ≤ 9223372036854775807) (m a b c' d t : Int) : CallS Tryd.prog 3 #[.slice p n c, lk m a b c' d, .int .i64 t] E L (fun r E' L' => r = .bool true ∧ L = L') := by
  have en := h.nI
  subst en
  by_cases h8 : 8 < xs.length
  · refine CallS.intro (l := [_, _, _]) _ Tryd.func3 rfl Tryd.ntmps3 rfl ?_
    refine G_seq (G_region ?_)
    (refine G_boxA rfl rfl rfl rfl (.none rfl) ?_; intro b4)
    refine G_val (V_assign rfl rfl) rfl rfl (.none rfl) ?_
    refine G_end (X_then (G_seq (G_seq (G_region ?_))))
    refine G_val (V_move rfl rfl) rfl rfl (.none rfl) ?_
    refine G_val (V_lenS rfl rfl) rfl rfl (.none rfl) ?_
    refine G_val (V_gtr rfl rfl rfl) rfl rfl (.none rfl) ?_
    refine G_end (X_then ?_)
    refine G_cond_t rfl (decide_eq_true (by omega)) ?_
    refine G_seq (G_region ?_)
    refine G_call (k := 10) (.mk rfl rfl rfl rfl) rfl rfl (.none rfl) (awake_call _ _) ?_
    rintro r1 E2 L3 hE4 ⟨rfl, rfl⟩
    replace h := h.mono hE4
    refine G_val (V_assign rfl rfl) rfl rfl (.none rfl) ?_
    refine G_end (X_then (G_ret (X_then_ret ?_)))
    refine G_leaveS (.drop _ (.nil _)) (by exact (.cons (.tmp rfl) (.nil))) rfl ?_ ?_
    · exact hE4
    exact ⟨(by kernel_rfl), rfl⟩
  obtain ⟨o1, o2, o3, o4, o5, e, ho⟩ : ∃ o1 o2 o3 o4 o5 e, ofM xs = (lk o1 o2 o3 o4 o5, e) := by
    obtain ⟨o1, o2, o3, o4, o5, ho⟩ := ofM_lk xs
    exact ⟨o1, o2, o3, o4, o5, (ofM xs).2, by rw [← ho]⟩
  have hll : (listM m a b c' d).1.length ≤ 4 := by
    unfold listM; split
    · simp
    · rw [List.length_take]; simp only [List.length_cons, List.length_nil]; omega
  refine CallS.intro (l := [_, _, _]) _ Tryd.func3 rfl Tryd.ntmps3 rfl ?_
  refine G_seq (G_region ?_)
  (refine G_boxA rfl rfl rfl rfl (.none rfl) ?_; intro b4)
  refine G_val (V_assign rfl rfl) rfl rfl (.none rfl) ?_
  refine G_end (X_then (G_seq (G_seq (G_region ?_))))
  refine G_val (V_move rfl rfl) rfl rfl (.none rfl) ?_
  refine G_val (V_lenS rfl rfl) rfl rfl (.none rfl) ?_
  refine G_val (V_gtr rfl rfl rfl) rfl rfl (.none rfl) ?_
  refine G_end (X_then ?_)
  refine G_cond_f rfl (decide_eq_false (by omega)) ?_
  refine G_skip (X_then (G_seq (G_region ?_)))
  refine G_val (V_move rfl rfl) rfl rfl (.none rfl) ?_
  refine G_call (k := 11) (.mk rfl rfl rfl rfl) rfl rfl (.none rfl) (OwnInts_call _ _ _ _ _ (by assumption) (by omega)) ?_
  rintro r1 E2 L3 hE4 ⟨z5, ⟨z6, ⟨rfl, ⟨Z7, rfl⟩⟩⟩⟩
  replace h := h.mono hE4
  refine G_val (V_assign rfl rfl) rfl rfl (.none rfl) ?_
  refine G_end (X_then (G_seq (G_region ?_)))
  refine G_val (V_move rfl rfl) rfl rfl (.none rfl) ?_
  refine G_callv (k := 12) (.mk rfl rfl rfl rfl) rfl rfl (.none rfl) (Of_call' _ _ _ _ _ _ _ _ _ _ _ _ (by assumption) (by omega) (by assumption)) ?_
  refine G_val (V_move rfl rfl) rfl rfl (.none rfl) ?_
  refine G_val (V_extract rfl rfl rfl) rfl rfl (.none rfl) ?_
  refine G_val (V_extract rfl rfl rfl) rfl rfl (.none rfl) ?_
  (refine G_alloc rfl rfl rfl (.none rfl) ?_; intro b8)
  refine G_storeA rfl rfl rfl rfl (by simp [Value.oneCell']) rfl (.none rfl) (.head _ _ _) rfl ?_
  refine G_val (V_assign rfl rfl) rfl rfl (.none rfl) ?_
  refine G_end (X_then (G_seq (G_region ?_)))
  refine G_val (V_move rfl rfl) rfl rfl (.none rfl) ?_
  refine G_callv (k := 13) (.mk rfl rfl rfl rfl) rfl rfl (.none rfl) (ROf_call' _ _ _ _ _ _ _ _ _ _ _ _ (by assumption) (by omega) (by assumption)) ?_
  refine G_val (V_move rfl rfl) rfl rfl (.none rfl) ?_
  refine G_val (V_extract rfl rfl rfl) rfl rfl (.none rfl) ?_
  refine G_val (V_extract rfl rfl rfl) rfl rfl (.none rfl) ?_
  (refine G_alloc rfl rfl rfl (.none rfl) ?_; intro b10)
  refine G_storeA rfl rfl rfl rfl (by simp [Value.oneCell']) rfl (.none rfl) (.head _ _ _) rfl ?_
  refine G_val (V_assign rfl rfl) rfl rfl (.none rfl) ?_
  refine G_end (X_then (G_seq (G_region ?_)))
  refine G_val (V_loadA rfl rfl (Cells.own (.tail _ (.tail _ (.head _)))) rfl) rfl rfl (.none rfl) ?_
  refine G_call (k := 14) (.mk rfl rfl rfl rfl) rfl rfl (.none rfl) (List_call _ _ _ _ _ _ _) ?_
  rintro r8 E9 L10 hE11 ⟨z12, ⟨z13, ⟨rfl, ⟨Z14, rfl⟩⟩⟩⟩
  replace Z7 := Z7.mono hE11
  replace h := h.mono hE11
  refine G_val (V_move rfl rfl) rfl rfl (.none rfl) ?_
  refine G_val (V_extract rfl rfl rfl) rfl rfl (.none rfl) ?_
  refine G_val (V_extract rfl rfl rfl) rfl rfl (.none rfl) ?_
  refine G_val (V_assign rfl rfl) rfl rfl (.none rfl) ?_
  refine G_val (V_assign rfl rfl) rfl rfl (.none rfl) ?_
  refine G_end (X_then (G_seq (G_region ?_)))
  refine G_val (V_loadA rfl rfl (Cells.own (.tail _ (.tail _ (.head _)))) rfl) rfl rfl (.none rfl) ?_
  refine G_call (k := 15) (.mk rfl rfl rfl rfl) rfl rfl (.none rfl) (RList_call _ _ _ _ _ _ _) ?_
  rintro r15 E16 L17 hE18 ⟨z19, ⟨z20, ⟨rfl, ⟨Z21, rfl⟩⟩⟩⟩
  replace Z14 := Z14.mono hE18
  replace Z7 := Z7.mono hE18
  replace h := h.mono hE18
  refine G_val (V_move rfl rfl) rfl rfl (.none rfl) ?_
  refine G_val (V_extract rfl rfl rfl) rfl rfl (.none rfl) ?_
  refine G_val (V_extract rfl rfl rfl) rfl rfl (.none rfl) ?_
  refine G_val (V_assign rfl rfl) rfl rfl (.none rfl) ?_
  refine G_val (V_assign rfl rfl) rfl rfl (.none rfl) ?_
  refine G_end (X_then (G_seq (G_region ?_)))
  refine G_val (V_loadA rfl rfl (Cells.own (.tail _ (.tail _ (.head _)))) rfl) rfl rfl (.none rfl) ?_
  refine G_call (k := 16) (.mk rfl rfl rfl rfl) rfl rfl (.none rfl) (Text_call _ _ _ _ _ _ _) ?_
  rintro r22 E23 L24 hE25 ⟨rfl, rfl⟩
  replace Z21 := Z21.mono hE25
  replace Z14 := Z14.mono hE25
  replace Z7 := Z7.mono hE25
  replace h := h.mono hE25
  refine G_val (V_move rfl rfl) rfl rfl (.none rfl) ?_
  refine G_val (V_extract rfl rfl rfl) rfl rfl (.none rfl) ?_
  refine G_val (V_extract rfl rfl rfl) rfl rfl (.none rfl) ?_
  refine G_val (V_assign rfl rfl) rfl rfl (.none rfl) ?_
  refine G_val (V_assign rfl rfl) rfl rfl (.none rfl) ?_
  refine G_end (X_then (G_seq (G_region ?_)))
  refine G_val (V_loadA rfl rfl (Cells.own (.tail _ (.tail _ (.head _)))) rfl) rfl rfl (.none rfl) ?_
  refine G_callv (k := 17) (.mk rfl rfl rfl rfl) rfl rfl (.none rfl) (RText_call _ _ _ _ _ _ _) ?_
  refine G_val (V_move rfl rfl) rfl rfl (.none rfl) ?_
  refine G_val (V_extract rfl rfl rfl) rfl rfl (.none rfl) ?_
  refine G_val (V_extract rfl rfl rfl) rfl rfl (.none rfl) ?_
  refine G_val (V_assign rfl rfl) rfl rfl (.none rfl) ?_
  refine G_val (V_assign rfl rfl) rfl rfl (.none rfl) ?_
  refine G_end (X_then (G_seq ?_))
  refine G_drawX 46 ((0, 1) :: (1, 1) :: (2, 0) :: (3, 0) :: (4, 0) :: (5, 0) :: (6, 0) :: (7, 0) :: (8, 0) :: (9, 1) :: (10, 0) :: (12, 1) :: (11, 3) :: (13, 0) :: (14, 3) :: (15, 0) :: (16, 0) :: (17, 0) :: (18, 0) :: (19, 0) :: (20, 3) :: (21, 0) :: (22, 0) :: (23, 0) :: (24, 0) :: (25, 0) :: (26, 0) :: (27, 0) :: (28, 0) :: (29, 0) :: (30, 0) :: (31, 0) :: (32, 0) :: (33, 0) :: (34, 0) :: (35, 0) :: (36, 0) :: (37, 0) :: (38, 0) :: (39, 0) :: (40, 3) :: (41, 0) :: (42, 0) :: (43, 3) :: (44, 0) :: (45, 0) :: []) mixed (by kernel_rfl) ?_
  refine F_load rfl (.tail _ (.head _)) (V_loadA rfl rfl (Cells.own (.head _)) rfl) rfl rfl (.none rfl) ?_
  refine F_load rfl (.head _) (V_loadA rfl rfl (Cells.own (.head _)) rfl) rfl rfl (.none rfl) ?_
  refine F_pure rfl (fun _ _ => V_aeql_25 rfl rfl rfl) rfl rfl (.none rfl) ?_
  refine F_pure rfl (fun _ _ => V_move rfl rfl) rfl rfl (.none rfl) ?_
  refine GF.bool_t 59 rfl (decide_eq_true (by omega)) ?_
  refine F_pure rfl (fun _ _ => V_move rfl rfl) rfl rfl (.yes rfl rfl rfl rfl) ?_
  refine F_pure rfl (fun _ _ => V_move rfl rfl) rfl rfl (.yes rfl rfl rfl rfl) ?_
  refine F_pure rfl (fun _ _ => V_eql rfl rfl rfl) rfl rfl (.yes rfl rfl rfl rfl) ?_
  refine F_pure rfl (fun _ _ => V_pick_t rfl rfl rfl) rfl rfl (.none rfl) ?_
  refine F_pure rfl (fun _ _ => V_move rfl rfl) rfl rfl (.none rfl) ?_
  refine GF.bool_t 64 rfl (decide_eq_true (by omega)) ?_
  refine F_load rfl (.tail _ (.tail _ (.head _))) (V_loadA rfl rfl (Cells.own (.head _)) rfl) rfl rfl (.yes rfl rfl rfl rfl) ?_
  refine F_pure rfl (fun _ _ => V_move rfl rfl) rfl rfl (.yes rfl rfl rfl rfl) ?_
  refine F_load rfl (.tail _ (.tail _ (.head _))) (V_loadA rfl rfl (Cells.own (.head _)) rfl) rfl rfl (.yes rfl rfl rfl rfl) ?_
  refine F_callv (k := 18) rfl (.mk rfl rfl rfl rfl) rfl rfl (.yes rfl rfl rfl rfl) (fun _ => Check_call _ _ _ _ _ _ _ _) ?_
  refine F_pure rfl (fun _ _ => V_move rfl rfl) rfl rfl (.yes rfl rfl rfl rfl) ?_
  refine F_callv (k := 19) rfl (.mk rfl rfl rfl rfl) rfl rfl (.yes rfl rfl rfl rfl) (fun _ => RCheck_call _ _ _ _ _ _ _ _) ?_
  refine F_pure rfl (fun _ _ => V_eql rfl rfl rfl) rfl rfl (.yes rfl rfl rfl rfl) ?_
  refine F_pure rfl (fun _ _ => V_pick_t rfl rfl rfl) rfl rfl (.none rfl) ?_
  refine F_pure rfl (fun _ _ => V_move rfl rfl) rfl rfl (.none rfl) ?_
  refine GF.bool_t 73 rfl (decide_eq_true (by omega)) ?_
  refine F_pure rfl (fun _ _ => V_move rfl rfl) rfl rfl (.yes rfl rfl rfl rfl) ?_
  refine F_pure rfl (fun _ _ => V_move rfl rfl) rfl rfl (.yes rfl rfl rfl rfl) ?_
  refine F_callv (k := 20) rfl (.mk rfl rfl rfl rfl) rfl rfl (.yes rfl rfl rfl rfl) (fun _ => SameInts_call' _ _ _ _ _ _ _ _ _ _ (by assumption) (by assumption) (by omega) (by omega)) ?_
  refine F_pure rfl (fun _ _ => V_pick_t rfl rfl rfl) rfl rfl (.none rfl) ?_
  refine F_pure rfl (fun _ _ => V_move rfl rfl) rfl rfl (.none rfl) ?_
  refine GF.bool_t 78 rfl (by simp [*]; done) ?_
  refine F_pure rfl (fun _ _ => V_move rfl rfl) rfl rfl (.yes rfl rfl rfl rfl) ?_
  refine F_pure rfl (fun _ _ => V_move rfl rfl) rfl rfl (.yes rfl rfl rfl rfl) ?_
  refine F_pure rfl (fun _ _ => V_eql rfl rfl rfl) rfl rfl (.yes rfl rfl rfl rfl) ?_
  refine F_pure rfl (fun _ _ => V_pick_t rfl rfl rfl) rfl rfl (.none rfl) ?_
  refine F_pure rfl (fun _ _ => V_move rfl rfl) rfl rfl (.none rfl) ?_
  refine GF.bool_t 83 rfl (decide_eq_true (by omega)) ?_
  refine F_pure rfl (fun _ _ => V_move rfl rfl) rfl rfl (.yes rfl rfl rfl rfl) ?_
  refine F_pure rfl (fun _ _ => V_move rfl rfl) rfl rfl (.yes rfl rfl rfl rfl) ?_
  refine F_pure rfl (fun _ _ => V_seql rfl rfl rfl) rfl rfl (.yes rfl rfl rfl rfl) ?_
  refine F_pure rfl (fun _ _ => V_pick_t rfl rfl rfl) rfl rfl (.none rfl) ?_
  refine F_pure rfl (fun _ _ => V_move rfl rfl) rfl rfl (.none rfl) ?_
  refine GF.bool_t 88 rfl (by simp [*]; done) ?_
  refine F_pure rfl (fun _ _ => V_move rfl rfl) rfl rfl (.yes rfl rfl rfl rfl) ?_
  refine F_pure rfl (fun _ _ => V_move rfl rfl) rfl rfl (.yes rfl rfl rfl rfl) ?_
  refine F_pure rfl (fun _ _ => V_eql rfl rfl rfl) rfl rfl (.yes rfl rfl rfl rfl) ?_
  refine F_pure rfl (fun _ _ => V_pick_t rfl rfl rfl) rfl rfl (.none rfl) ?_
  refine F_pure rfl (fun _ _ => V_move rfl rfl) rfl rfl (.none rfl) ?_
  refine GF.bool_t 93 rfl (decide_eq_true (by omega)) ?_
  refine F_pure rfl (fun _ _ => V_move rfl rfl) rfl rfl (.yes rfl rfl rfl rfl) ?_
  refine F_pure rfl (fun _ _ => V_move rfl rfl) rfl rfl (.yes rfl rfl rfl rfl) ?_
  refine F_callv (k := 20) rfl (.mk rfl rfl rfl rfl) rfl rfl (.yes rfl rfl rfl rfl) (fun _ => SameInts_call' _ _ _ _ _ _ _ _ _ _ (by assumption) (by assumption) (by omega) (by omega)) ?_
  refine F_pure rfl (fun _ _ => V_pick_t rfl rfl rfl) rfl rfl (.none rfl) ?_
  refine F_pure rfl (fun _ _ => V_move rfl rfl) rfl rfl (.none rfl) ?_
  refine GF.bool_t 98 rfl (by simp [*]; done) ?_
  apply F_call (k := 10) rfl (.mk rfl rfl rfl rfl) rfl rfl (.yes rfl rfl rfl rfl)
  · (intro L0; refine CallS.mono (awake_call _ _) ?_; exact fun _ _ _ _ h => h)
  · (rintro L0 r E' L' ⟨rfl, rfl⟩; exact ⟨rfl, ⟨rfl, rfl⟩⟩)
  rintro r26 E27 hE28 ⟨rfl, _⟩
  replace Z21 := Z21.mono hE28
  replace Z14 := Z14.mono hE28
  replace Z7 := Z7.mono hE28
  replace h := h.mono hE28
  refine F_pure rfl (fun _ _ => V_pick_t rfl rfl rfl) rfl rfl (.none rfl) ?_
  refine F_pure rfl (fun _ _ => V_assign rfl rfl) rfl rfl (.none rfl) ?_
  (refine F_end (.nil _) ?_; dsimp only [List.drop])
  refine G_end (X_then (G_ret ?_))
  refine G_leaveS (.drop _ (.drop _ (.drop _ (.nil _)))) (by exact (.cons (.tmp rfl) (.nil))) rfl ?_ ?_
  · exact ((((hE4.trans hE11).trans hE18).trans hE25).trans hE28)
  exact ⟨(by kernel_rfl), rfl⟩
end
end Go.Proofs.YthcfakmmomfcaaaDoor
set_option linter.unusedSimpArgs false
set_option linter.unusedVariables false
set_option maxHeartbeats 2000000
set_option maxRecDepth 20000
namespace Go.Proofs.YthcfakmmomfcaaaDoor
open Go.RowKit
/-! The law LookJoins. -/
theorem joinM_lk (k n a b c d n' a' b' c' d' : Int) : ∃ o1 o2 o3 o4 o5 e, joinM k n a b c d n' a' b' c' d' = (lk o1 o2 o3 o4 o5, e) := by
  unfold joinM
  split
  · exact ⟨_, _, _, _, _, _, rfl⟩
  · split
    · exact ⟨_, _, _, _, _, _, rfl⟩
    · exact ⟨_, _, _, _, _, _, rfl⟩
theorem cutM_lk (n a b c d k : Int) : ∃ o1 o2 o3 o4 o5 e, cutM n a b c d k = (lk o1 o2 o3 o4 o5, e) := by
  unfold cutM
  split
  · exact ⟨_, _, _, _, _, _, rfl⟩
  · split
    · exact ⟨_, _, _, _, _, _, rfl⟩
    · exact ⟨_, _, _, _, _, _, rfl⟩
section
variable (E : Env) (L : List Res)
theorem Join_call' (k n a b c d n' a' b' c' d' o1 o2 o3 o4 o5 e : Int) (ho : joinM k n a b c d n' a' b' c' d' = (lk o1 o2 o3 o4 o5, e)) : CallS Tryd.prog 21 #[.int .i64 k, lk n a b c d, lk n' a' b' c' d'] E L (fun r E' L' => r = .tuple #[lk o1 o2 o3 o4 o5, .int .i64 e] ∧ L = L') := by
  have := Join_call E L k n a b c d n' a' b' c' d'
  rwa [ho] at this
theorem RJoin_call' (k n a b c d n' a' b' c' d' o1 o2 o3 o4 o5 e : Int) (ho : joinM k n a b c d n' a' b' c' d' = (lk o1 o2 o3 o4 o5, e)) : CallV Tryd.prog 22 #[.int .i64 k, lk n a b c d, lk n' a' b' c' d'] E L (.tuple #[lk o1 o2 o3 o4 o5, .int .i64 e]) := by
  have := RJoin_call E L k n a b c d n' a' b' c' d'
  rwa [ho] at this
theorem Cut_call' (n a b c d k o1 o2 o3 o4 o5 e : Int) (ho : cutM n a b c d k = (lk o1 o2 o3 o4 o5, e)) : CallS Tryd.prog 23 #[lk n a b c d, .int .i64 k] E L (fun r E' L' => r = .tuple #[lk o1 o2 o3 o4 o5, .int .i64 e] ∧ L = L') := by
  have := Cut_call E L n a b c d k
  rwa [ho] at this
theorem RCut_call' (n a b c d k o1 o2 o3 o4 o5 e : Int) (ho : cutM n a b c d k = (lk o1 o2 o3 o4 o5, e)) : CallV Tryd.prog 24 #[lk n a b c d, .int .i64 k] E L (.tuple #[lk o1 o2 o3 o4 o5, .int .i64 e]) := by
  have := RCut_call E L n a b c d k
  rwa [ho] at this
theorem LookJoins_call (k n a b c d n' a' b' c' d' : Int) : CallS Tryd.prog 4 #[lk n a b c d, lk n' a' b' c' d', .int .i64 k] E L (fun r E' L' => r = .bool true ∧ L = L') := by
  obtain ⟨o1, o2, o3, o4, o5, e, ho⟩ := joinM_lk k n a b c d n' a' b' c' d'
  obtain ⟨p1, p2, p3, p4, p5, e', hp⟩ := cutM_lk n a b c d k
  refine CallS.intro (l := [_, _, _]) _ Tryd.func4 rfl Tryd.ntmps4 rfl ?_
  refine G_seq (G_region ?_)
  (refine G_boxA rfl rfl rfl rfl (.none rfl) ?_; intro b3)
  (refine G_boxA rfl rfl rfl rfl (.none rfl) ?_; intro b4)
  refine G_val (V_assign rfl rfl) rfl rfl (.none rfl) ?_
  refine G_end (X_then (G_seq (G_region ?_)))
  refine G_val (V_move rfl rfl) rfl rfl (.none rfl) ?_
  refine G_val (V_loadA rfl rfl (Cells.own (.tail _ (.head _))) rfl) rfl rfl (.none rfl) ?_
  refine G_val (V_loadA rfl rfl (Cells.own (.head _)) rfl) rfl rfl (.none rfl) ?_
  refine G_call (k := 21) (.mk rfl rfl rfl rfl) rfl rfl (.none rfl) (Join_call' _ _ _ _ _ _ _ _ _ _ _ _ _ _ _ _ _ _ _ (by assumption)) ?_
  rintro r1 E2 L3 hE4 ⟨rfl, rfl⟩
  refine G_val (V_move rfl rfl) rfl rfl (.none rfl) ?_
  refine G_val (V_extract rfl rfl rfl) rfl rfl (.none rfl) ?_
  refine G_val (V_extract rfl rfl rfl) rfl rfl (.none rfl) ?_
  (refine G_alloc rfl rfl rfl (.none rfl) ?_; intro b7)
  refine G_storeA rfl rfl rfl rfl (by simp [Value.oneCell']) rfl (.none rfl) (.head _ _ _) rfl ?_
  refine G_val (V_assign rfl rfl) rfl rfl (.none rfl) ?_
  refine G_end (X_then (G_seq (G_region ?_)))
  refine G_val (V_move rfl rfl) rfl rfl (.none rfl) ?_
  refine G_val (V_loadA rfl rfl (Cells.own (.tail _ (.tail _ (.head _)))) rfl) rfl rfl (.none rfl) ?_
  refine G_val (V_loadA rfl rfl (Cells.own (.tail _ (.head _))) rfl) rfl rfl (.none rfl) ?_
  refine G_callv (k := 22) (.mk rfl rfl rfl rfl) rfl rfl (.none rfl) (RJoin_call' _ _ _ _ _ _ _ _ _ _ _ _ _ _ _ _ _ _ _ (by assumption)) ?_
  refine G_val (V_move rfl rfl) rfl rfl (.none rfl) ?_
  refine G_val (V_extract rfl rfl rfl) rfl rfl (.none rfl) ?_
  refine G_val (V_extract rfl rfl rfl) rfl rfl (.none rfl) ?_
  (refine G_alloc rfl rfl rfl (.none rfl) ?_; intro b9)
  refine G_storeA rfl rfl rfl rfl (by simp [Value.oneCell']) rfl (.none rfl) (.head _ _ _) rfl ?_
  refine G_val (V_assign rfl rfl) rfl rfl (.none rfl) ?_
  refine G_end (X_then (G_seq (G_region ?_)))
  refine G_val (V_loadA rfl rfl (Cells.own (.tail _ (.tail _ (.tail _ (.head _))))) rfl) rfl rfl (.none rfl) ?_
  refine G_val (V_move rfl rfl) rfl rfl (.none rfl) ?_
  refine G_call (k := 23) (.mk rfl rfl rfl rfl) rfl rfl (.none rfl) (Cut_call' _ _ _ _ _ _ _ _ _ _ _ _ _ _ (by assumption)) ?_
  rintro r5 E6 L7 hE8 ⟨rfl, rfl⟩
  refine G_val (V_move rfl rfl) rfl rfl (.none rfl) ?_
  refine G_val (V_extract rfl rfl rfl) rfl rfl (.none rfl) ?_
  refine G_val (V_extract rfl rfl rfl) rfl rfl (.none rfl) ?_
  (refine G_alloc rfl rfl rfl (.none rfl) ?_; intro b11)
  refine G_storeA rfl rfl rfl rfl (by simp [Value.oneCell']) rfl (.none rfl) (.head _ _ _) rfl ?_
  refine G_val (V_assign rfl rfl) rfl rfl (.none rfl) ?_
  refine G_end (X_then (G_seq (G_region ?_)))
  refine G_val (V_loadA rfl rfl (Cells.own (.tail _ (.tail _ (.tail _ (.tail _ (.head _)))))) rfl) rfl rfl (.none rfl) ?_
  refine G_val (V_move rfl rfl) rfl rfl (.none rfl) ?_
  refine G_callv (k := 24) (.mk rfl rfl rfl rfl) rfl rfl (.none rfl) (RCut_call' _ _ _ _ _ _ _ _ _ _ _ _ _ _ (by assumption)) ?_
  refine G_val (V_move rfl rfl) rfl rfl (.none rfl) ?_
  refine G_val (V_extract rfl rfl rfl) rfl rfl (.none rfl) ?_
  refine G_val (V_extract rfl rfl rfl) rfl rfl (.none rfl) ?_
  (refine G_alloc rfl rfl rfl (.none rfl) ?_; intro b13)
  refine G_storeA rfl rfl rfl rfl (by simp [Value.oneCell']) rfl (.none rfl) (.head _ _ _) rfl ?_
  refine G_val (V_assign rfl rfl) rfl rfl (.none rfl) ?_
  refine G_end (X_then (G_seq (G_seq (G_region ?_))))
  refine G_val (V_loadA rfl rfl (Cells.own (.tail _ (.tail _ (.tail _ (.head _))))) rfl) rfl rfl (.none rfl) ?_
  refine G_val (V_loadA rfl rfl (Cells.own (.tail _ (.tail _ (.head _)))) rfl) rfl rfl (.none rfl) ?_
  refine G_val (V_aneq_25 rfl rfl rfl) rfl rfl (.none rfl) ?_
  refine G_val (V_move rfl rfl) rfl rfl (.none rfl) ?_
  refine G.bool_f 48 rfl (decide_eq_false (by omega)) ?_
  refine G_val (V_move rfl rfl) rfl rfl (.yes rfl rfl rfl rfl) ?_
  refine G_val (V_move rfl rfl) rfl rfl (.yes rfl rfl rfl rfl) ?_
  refine G_val (V_neq rfl rfl rfl) rfl rfl (.yes rfl rfl rfl rfl) ?_
  refine G_val (V_pick_f rfl rfl rfl) rfl rfl (.none rfl) ?_
  refine G_val (V_move rfl rfl) rfl rfl (.none rfl) ?_
  refine G.bool_f 53 rfl (decide_eq_false (by omega)) ?_
  refine G_val (V_loadA rfl rfl (Cells.own (.tail _ (.head _))) rfl) rfl rfl (.yes rfl rfl rfl rfl) ?_
  refine G_val (V_loadA rfl rfl (Cells.own (.head _)) rfl) rfl rfl (.yes rfl rfl rfl rfl) ?_
  refine G_val (V_aneq_25 rfl rfl rfl) rfl rfl (.yes rfl rfl rfl rfl) ?_
  refine G_val (V_pick_f rfl rfl rfl) rfl rfl (.none rfl) ?_
  refine G_val (V_move rfl rfl) rfl rfl (.none rfl) ?_
  refine G.bool_f 58 rfl (decide_eq_false (by omega)) ?_
  refine G_val (V_move rfl rfl) rfl rfl (.yes rfl rfl rfl rfl) ?_
  refine G_val (V_move rfl rfl) rfl rfl (.yes rfl rfl rfl rfl) ?_
  refine G_val (V_neq rfl rfl rfl) rfl rfl (.yes rfl rfl rfl rfl) ?_
  refine G_val (V_pick_f rfl rfl rfl) rfl rfl (.none rfl) ?_
  refine G_end (X_then ?_)
  refine G_cond_f rfl (decide_eq_false (by omega)) ?_
  refine G_skip (X_then (G_seq (G_region ?_)))
  refine G_val (V_loadA rfl rfl (Cells.own (.tail _ (.tail _ (.tail _ (.tail _ (.tail _ (.head _))))))) rfl) rfl rfl (.none rfl) ?_
  refine G_val (V_loadA rfl rfl (Cells.own (.tail _ (.tail _ (.tail _ (.tail _ (.head _)))))) rfl) rfl rfl (.none rfl) ?_
  refine G_call (k := 25) (.mk rfl rfl rfl rfl) rfl rfl (.none rfl) (Compare_call _ _ _ _ _ _ _ _ _ _ _ _) ?_
  rintro r9 E10 L11 hE12 ⟨rfl, rfl⟩
  refine G_val (V_move rfl rfl) rfl rfl (.none rfl) ?_
  refine G_val (V_extract rfl rfl rfl) rfl rfl (.none rfl) ?_
  refine G_val (V_extract rfl rfl rfl) rfl rfl (.none rfl) ?_
  refine G_val (V_assign rfl rfl) rfl rfl (.none rfl) ?_
  refine G_val (V_assign rfl rfl) rfl rfl (.none rfl) ?_
  refine G_end (X_then (G_seq (G_region ?_)))
  refine G_val (V_loadA rfl rfl (Cells.own (.tail _ (.tail _ (.tail _ (.tail _ (.tail _ (.head _))))))) rfl) rfl rfl (.none rfl) ?_
  refine G_val (V_loadA rfl rfl (Cells.own (.tail _ (.tail _ (.tail _ (.tail _ (.head _)))))) rfl) rfl rfl (.none rfl) ?_
  refine G_callv (k := 26) (.mk rfl rfl rfl rfl) rfl rfl (.none rfl) (RCompare_call _ _ _ _ _ _ _ _ _ _ _ _) ?_
  refine G_val (V_move rfl rfl) rfl rfl (.none rfl) ?_
  refine G_val (V_extract rfl rfl rfl) rfl rfl (.none rfl) ?_
  refine G_val (V_extract rfl rfl rfl) rfl rfl (.none rfl) ?_
  refine G_val (V_assign rfl rfl) rfl rfl (.none rfl) ?_
  refine G_val (V_assign rfl rfl) rfl rfl (.none rfl) ?_
  refine G_end (X_then (G_seq (G_region ?_)))
  refine G_val (V_loadA rfl rfl (Cells.own (.tail _ (.tail _ (.tail _ (.tail _ (.tail _ (.head _))))))) rfl) rfl rfl (.none rfl) ?_
  refine G_val (V_loadA rfl rfl (Cells.own (.tail _ (.tail _ (.tail _ (.tail _ (.head _)))))) rfl) rfl rfl (.none rfl) ?_
  refine G_call (k := 27) (.mk rfl rfl rfl rfl) rfl rfl (.none rfl) (Begins_call _ _ _ _ _ _ _ _ _ _ _ _) ?_
  rintro r13 E14 L15 hE16 ⟨rfl, rfl⟩
  refine G_val (V_move rfl rfl) rfl rfl (.none rfl) ?_
  refine G_val (V_extract rfl rfl rfl) rfl rfl (.none rfl) ?_
  refine G_val (V_extract rfl rfl rfl) rfl rfl (.none rfl) ?_
  refine G_val (V_assign rfl rfl) rfl rfl (.none rfl) ?_
  refine G_val (V_assign rfl rfl) rfl rfl (.none rfl) ?_
  refine G_end (X_then (G_seq (G_region ?_)))
  refine G_val (V_loadA rfl rfl (Cells.own (.tail _ (.tail _ (.tail _ (.tail _ (.tail _ (.head _))))))) rfl) rfl rfl (.none rfl) ?_
  refine G_val (V_loadA rfl rfl (Cells.own (.tail _ (.tail _ (.tail _ (.tail _ (.head _)))))) rfl) rfl rfl (.none rfl) ?_
  refine G_callv (k := 28) (.mk rfl rfl rfl rfl) rfl rfl (.none rfl) (RBegins_call _ _ _ _ _ _ _ _ _ _ _ _) ?_
  refine G_val (V_move rfl rfl) rfl rfl (.none rfl) ?_
  refine G_val (V_extract rfl rfl rfl) rfl rfl (.none rfl) ?_
  refine G_val (V_extract rfl rfl rfl) rfl rfl (.none rfl) ?_
  refine G_val (V_assign rfl rfl) rfl rfl (.none rfl) ?_
  refine G_val (V_assign rfl rfl) rfl rfl (.none rfl) ?_
  refine G_end (X_then (G_seq (G_region ?_)))
  refine G_val (V_move rfl rfl) rfl rfl (.none rfl) ?_
  refine G_val (V_move rfl rfl) rfl rfl (.none rfl) ?_
  refine G_val (V_eql rfl rfl rfl) rfl rfl (.none rfl) ?_
  refine G_val (V_move rfl rfl) rfl rfl (.none rfl) ?_
  refine G.bool_t 90 rfl (decide_eq_true (by omega)) ?_
  refine G_val (V_move rfl rfl) rfl rfl (.yes rfl rfl rfl rfl) ?_
  refine G_val (V_move rfl rfl) rfl rfl (.yes rfl rfl rfl rfl) ?_
  refine G_val (V_eql rfl rfl rfl) rfl rfl (.yes rfl rfl rfl rfl) ?_
  refine G_val (V_pick_t rfl rfl rfl) rfl rfl (.none rfl) ?_
  refine G_val (V_move rfl rfl) rfl rfl (.none rfl) ?_
  refine G.bool_t 95 rfl (decide_eq_true (by omega)) ?_
  refine G_val (V_move rfl rfl) rfl rfl (.yes rfl rfl rfl rfl) ?_
  refine G_val (V_move rfl rfl) rfl rfl (.yes rfl rfl rfl rfl) ?_
  refine G_val (V_beql rfl rfl rfl) rfl rfl (.yes rfl rfl rfl rfl) ?_
  refine G_val (V_pick_t rfl rfl rfl) rfl rfl (.none rfl) ?_
  refine G_val (V_move rfl rfl) rfl rfl (.none rfl) ?_
  refine G.bool_t 100 rfl (by simp [*]; done) ?_
  refine G_val (V_move rfl rfl) rfl rfl (.yes rfl rfl rfl rfl) ?_
  refine G_val (V_move rfl rfl) rfl rfl (.yes rfl rfl rfl rfl) ?_
  refine G_val (V_eql rfl rfl rfl) rfl rfl (.yes rfl rfl rfl rfl) ?_
  refine G_val (V_pick_t rfl rfl rfl) rfl rfl (.none rfl) ?_
  refine G_val (V_move rfl rfl) rfl rfl (.none rfl) ?_
  refine G.bool_t 105 rfl (decide_eq_true (by omega)) ?_
  refine G_call (k := 10) (.mk rfl rfl rfl rfl) rfl rfl (.yes rfl rfl rfl rfl) (awake_call _ _) ?_
  rintro r17 E18 L19 hE20 ⟨rfl, rfl⟩
  refine G_val (V_pick_t rfl rfl rfl) rfl rfl (.none rfl) ?_
  refine G_val (V_assign rfl rfl) rfl rfl (.none rfl) ?_
  refine G_end (X_then (G_ret ?_))
  refine G_leaveS (.drop _ (.drop _ (.drop _ (.drop _ (.drop _ (.drop _ (.nil _))))))) (by exact (.cons (.tmp rfl) (.nil))) rfl ?_ ?_
  · exact ((((hE4.trans hE8).trans hE12).trans hE16).trans hE20)
  exact ⟨(by kernel_rfl), rfl⟩
end
end Go.Proofs.YthcfakmmomfcaaaDoor
