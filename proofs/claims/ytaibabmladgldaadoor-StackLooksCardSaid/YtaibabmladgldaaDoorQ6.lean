/-
  Rules and contracts, packed: Sep31, Sep32, T0, T1, S13, S39, S4, S5, S6, S9.
-/
import Derived.Test.YtaibabmladgldaaDoorQ5
set_option maxHeartbeats 1000000
namespace Go.Proofs.YtaibabmladgldaaDoor
open Go.RowKit
section rules
variable {P : Program} {ro : Option Nat} {n : Nat} {ds : List Deferred} {fs : List (Nat × Value)} {E : Env} {L : List Res} {ops : Array Oper} {Q : Exit → Act → World → Prop} {rest : List Oper} {o : Oper}
variable {T : Act → Fam → Prop} {J : Nat → World → Prop} {π : List (Nat × Nat)} {i : Nat}
end rules
end Go.Proofs.YtaibabmladgldaaDoor
namespace Go.Proofs.YtaibabmladgldaaDoor
open Go.RowKit
section rules
variable {P : Program} {n : Nat} {ds : List Deferred} {fs : List (Nat × Value)} {E : Env} {L : List Res} {o : Oper}
theorem V_copy0 {x y : Operand} {t u e : TypeId} {sz' : Nat} {ag' : Bool} {z : Value} {bytes : Nat} [ht : Ty P t (.slice e) sz' ag'] [hi : Inf P e z 1 bytes] {p a : Option Addr} {dl dc m c : Nat}
    (ho : o.op = .call { callee := .builtin .copy, args := #[x, y], argTypes := #[t, u] }) (hx : ev fs x = some (.slice p dl dc)) (hy : ev fs y = some (.slice a m c)) (h0 : min m dl = 0) : Val P o fs E L (.int .i64 0) :=
  ⟨(by rw [ho]; intro c h; cases h), fun n ds a' w ha _ => by
    obtain ⟨i, hi1, _, hs1, _⟩ := hi.inf
    have hs : (P.info? e).map (·.size) = some 1 := by rw [hi1]; simp [hs1]
    have hrun := run_copy_none (P := P) w t u o.type e p a dl dc m c ht.und hs h0
    simp only [execOp, ho, resolve, invoke, builtin, Sem.run_bind, Sem.run_pure, Result.andThen_ok, List.map_toArray, List.map_cons, List.map_nil, ha.eval hx, ha.eval hy, hrun]; rfl⟩
variable {ops : Array Oper} {T : Act → Fam → Prop} {J : Nat → World → Prop} {π : List (Nat × Nat)} {i : Nat}
theorem F_makeNoZero {k : FuncId} {fn : Func} {t e : TypeId} {ps : Array TypeId} {m d : Nat} (hf : P.funcs[k]? = some fn) (hname : (fn.name == "runtime.NumGoroutine") = false) (hb : fn.body.isNone = true) (hfn : Extern.findNext fn = none)
    (he : Extern.find fn = some (Extern.BytealgMakeNoZero.makeNoZero ps #[t])) (hte : P.underlying t = some (.slice e)) (h0 : ops[i]? = some o) (ht : Goesto fs o k #[.int .i64 m]) (hm : m ≤ 140737488355328) (hd : o.dst = some d) (hn : Nat.blt d n = true) (hg : Goes ops fs o)
    (h : ∀ b c, m ≤ c → GF n ds ((d, .slice (some ⟨b, 0, none⟩) m c) :: fs) E (.sl e 1 (some ⟨b, 0, none⟩) 0 c [] :: L) (wpF P ops T J π)) : GF n ds fs E L (wpF P ops T J ((i, 3) :: π)) := fun a ha =>
  ⟨o, h0, by
    rw [if_pos (hg.wanted ha)]
    intro M w hw
    unfold Steps
    obtain ⟨f, xs, ts, vs, cap, ho, hfv, hx, hargs⟩ := ht
    have e1 := evs_args ha hx
    simp only [Array.toArray_toList] at e1
    have e2 := ha.eval hfv
    obtain ⟨cs, hrun, hc1, hc2⟩ := Lib.run_makeNoZero (P := P) w ps t e hte m (by omega)
    have e3 : (execOp a.eval o).run P w = .ok (.value (.slice (some ⟨w.heap.size, 0, none⟩) m cs.size)) (w.drew.drew.alloc (.cells cs e)) := by
      simp only [execOp, ho, resolve, e2, Deferred.ofValue, e1]
      simp [invoke, ← hargs, run_callFunc_extern hf hname hb hfn he, hrun, Result.andThen]
    rw [e3]
    have hst := ((hw.drew (w.drawn + 1)).drew (w.drawn + 2)).alloc (.cells cs e)
    have hst2 : St E (.blk w.heap.size (.cells cs e) :: (M ++ L)) (w.drew.drew.alloc (.cells cs e)) := hst
    have s2 : St E (.sl e 1 (some ⟨w.heap.size, 0, none⟩) 0 cs.size [] :: (M ++ L)) (w.drew.drew.alloc (.cells cs e)) := by
      refine hst2.conv (r' := .sl e 1 (some ⟨w.heap.size, 0, none⟩) 0 cs.size []) (by simp [Res.sl, Res.blk]) ?_
      exact ⟨rfl, .inr ⟨w.heap.size, cs, rfl, hst2.own _ (.head _), Nat.zero_le _, hc2 (by simp only [maxLen]; omega), by simp, by simp⟩⟩
    refine ⟨Fam.st E (.sl e 1 (some ⟨w.heap.size, 0, none⟩) 0 cs.size [] :: L), fun w' ⟨M', h'⟩ => ⟨M' ++ [_], by show St E ((M' ++ [_]) ++ L) w'; rw [List.append_assoc]; exact h'⟩, s2.perm List.perm_middle.symm, ?_⟩
    rw [hd]
    exact h _ _ hc1 _ (ha.put hn _)⟩
end rules
end Go.Proofs.YtaibabmladgldaaDoor
set_option linter.unusedSimpArgs false
set_option linter.unusedVariables false
set_option maxHeartbeats 2000000
set_option maxRecDepth 20000
namespace Go.Proofs.YtaibabmladgldaaDoor
open Go.RowKit
/-! strings.Builder's Grow, for texts that do without the looks. -/
section
variable (E : Env) (L : List Res)
theorem grow_parts (b : Nat) (n : Nat) (hn : n ≤ 1000000) (u : Bool) :
    CallS Tryd.prog 55 #[.pointer (some ⟨b, 0, none⟩), .int .i64 n] E (.blk b (Bld.obj b u none 0 0) :: L)
      (fun r E' L' => ∃ a c, n ≤ c ∧ r = .tuple #[] ∧ E = E' ∧ L' = .blk b (Bld.obj b u (some ⟨a, 0, none⟩) 0 c) :: .sl 5 1 (some ⟨a, 0, none⟩) 0 c [] :: L) := by
  refine CallS.intro (l := [_, _]) _ Tryd.func55 rfl Tryd.ntmps55 rfl ?_
  simp only [Bld.obj]
  refine G_seq ?_
  refine G_drawX 16 [(0, 0), (1, 0), (2, 0), (3, 1), (4, 0), (5, 0), (6, 0), (7, 0), (9, 0), (10, 0), (11, 0), (12, 1), (8, 3), (13, 0), (14, 0), (15, 0)] mixed (by kernel_rfl) ?_
  refine F_pure rfl (fun _ _ => V_move rfl rfl) rfl rfl (.none rfl) ?_
  refine F_pure rfl (fun _ _ => V_nilCheck rfl rfl) rfl rfl (.none rfl) ?_
  refine F_pure rfl (fun _ _ => V_fieldAddr rfl rfl (by decide)) rfl rfl (.none rfl) ?_
  refine F_load rfl (.head _) (V_load rfl rfl (Cell.own (.head _) rfl)) rfl rfl (.none rfl) ?_
  refine F_pure rfl (fun _ _ => V_cap rfl rfl) rfl rfl (.none rfl) ?_
  refine F_pure rfl (fun _ _ => V_mul_i64 rfl rfl rfl (by omega) (by omega)) rfl rfl (.none rfl) ?_
  refine F_pure rfl (fun _ _ => V_move rfl rfl) rfl rfl (.none rfl) ?_
  refine F_pure rfl (fun _ _ => V_add_i64 rfl rfl rfl (by omega) (by omega)) rfl rfl (.none rfl) ?_
  refine F_pure rfl (fun _ _ => V_move rfl rfl) rfl rfl (.none rfl) ?_
  refine F_pure rfl (fun _ _ => V_nilCheck rfl rfl) rfl rfl (.none rfl) ?_
  refine F_pure rfl (fun _ _ => V_fieldAddr rfl rfl (by decide)) rfl rfl (.none rfl) ?_
  refine F_load rfl (.head _) (V_load rfl rfl (Cell.own (.head _) rfl)) rfl rfl (.none rfl) ?_
  have e12 : (2 * ((0 : Nat) : Int) + (n : Int)) = ((n : Nat) : Int) := by omega
  rw [e12]
  refine F_makeNoZero (t := 68) (e := 5) (ps := #[3]) Tryd.func76 (by kernel_rfl) (by kernel_rfl) (by kernel_rfl) (by kernel_rfl) Tryd.underlying68 rfl (.mk rfl rfl rfl rfl) (by omega) rfl rfl (.none rfl) ?_
  intro a13 c13 hc13
  refine F_pure rfl (fun _ _ => V_lenS rfl rfl) rfl rfl (.none rfl) ?_
  refine F_pure rfl (fun _ _ => V_slHead rfl rfl rfl (by omega) (by omega)) rfl rfl (.none rfl) ?_
  refine F_pure rfl (fun _ _ => V_assign rfl rfl) rfl rfl (.none rfl) ?_
  (refine F_end (.nil _) ?_; dsimp only [List.drop])
  refine G_end (X_then (G_seq (G_region ?_)))
  refine Gm ?_
  refine Gm ?_
  refine Gv (V_nilCheck rfl rfl) ?_
  refine Gv (V_fieldAddr rfl rfl (by decide)) ?_
  refine Gv (V_load rfl rfl (Cell.own (.tail _ (.head _)) rfl)) ?_
  refine Gv (V_copy0 rfl rfl rfl rfl) ?_
  refine G.front (.tail _ (.head _ _)) ?_
  refine G_end (X_then (G_region ?_))
  refine Gm ?_
  refine Gm ?_
  refine Gv (V_nilCheck rfl rfl) ?_
  refine Gv (V_fieldAddr rfl rfl (by decide)) ?_
  refine G_storeAt rfl rfl rfl rfl rfl rfl (.none rfl) (.head _ _ _) (Nat.le_of_ble_eq_true rfl) (by simp only [putAll, Nat.zero_add, Nat.reduceAdd, List.setIfInBounds_toArray, List.set_cons_succ, List.set_cons_zero]; rfl) ?_
  refine G_end ?_
  refine G_leaveS_n (.keep _ (.keep _ (.nil _))) (by exact (.nil)) rfl ?_ ?_
  · exact (.refl _)
  exact ⟨_, ⟨_, ⟨(by assumption), ⟨(by kernel_rfl), ⟨rfl, rfl⟩⟩⟩⟩⟩
theorem Grow_parts (b : Nat) (n : Nat) (hn : n ≤ 1000000) (h1 : 1 ≤ n) :
    CallS Tryd.prog 40 #[.pointer (some ⟨b, 0, none⟩), .int .i64 n] E (.blk b (Bld.obj b false none 0 0) :: L)
      (fun r E' L' => ∃ a c, n ≤ c ∧ r = .tuple #[] ∧ E = E' ∧ L' = .blk b (Bld.obj b true (some ⟨a, 0, none⟩) 0 c) :: .sl 5 1 (some ⟨a, 0, none⟩) 0 c [] :: L) := by
  refine CallS.intro (l := [_, _]) _ Tryd.func40 rfl Tryd.ntmps40 rfl ?_
  refine G_seq (G_region ?_)
  refine Gm ?_
  refine G_call (k := 54) (.mk rfl rfl rfl rfl) rfl rfl (.none rfl) (copyCheck_call _ _ b false none 0 0) ?_
  rintro r1 E1 L1 hE1 ⟨rfl, rfl, rfl⟩
  simp only [Bld.obj]
  refine G_end (X_then (G_seq (G_seq (G_region ?_))))
  refine Gm ?_
  refine Gv (V_lss rfl rfl rfl) ?_
  refine G_end (X_then ?_)
  refine G_cond_f rfl (decide_eq_false (by omega)) ?_
  refine G_skip (X_then (G_seq ?_))
  refine G_draw mixed (by kernel_rfl) ?_
  refine Q_val (V_move rfl rfl) rfl rfl (.none rfl) ?_
  refine Q_val (V_nilCheck rfl rfl) rfl rfl (.none rfl) ?_
  refine Q_val (V_fieldAddr rfl rfl (by decide)) rfl rfl (.none rfl) ?_
  refine Q_val (V_load rfl rfl (Cell.own (.head _) rfl)) rfl rfl (.none rfl) ?_
  refine Q_val (V_cap rfl rfl) rfl rfl (.none rfl) ?_
  refine Q_val (V_move rfl rfl) rfl rfl (.none rfl) ?_
  refine Q_val (V_nilCheck rfl rfl) rfl rfl (.none rfl) ?_
  refine Q_val (V_fieldAddr rfl rfl (by decide)) rfl rfl (.none rfl) ?_
  refine Q_val (V_load rfl rfl (Cell.own (.head _) rfl)) rfl rfl (.none rfl) ?_
  refine Q_val (V_lenS rfl rfl) rfl rfl (.none rfl) ?_
  refine Q_val (V_sub_i64 rfl rfl rfl (by omega) (by omega)) rfl rfl (.none rfl) ?_
  refine Q_val (V_move rfl rfl) rfl rfl (.none rfl) ?_
  refine Q_val (V_lss rfl rfl rfl) rfl rfl (.none rfl) ?_
  refine Q_end ?_
  refine X_then ?_
  refine G_cond_t rfl (decide_eq_true (by omega)) ?_
  refine G_region ?_
  refine Gm ?_
  refine Gm ?_
  refine G_call (k := 55) (.mk rfl rfl rfl rfl) rfl rfl (.none rfl) (grow_parts _ _ b n hn true) ?_
  rintro r2 E2 L2 hE2 ⟨a, c, hc, rfl, rfl, rfl⟩
  refine G_end ?_
  refine G_leaveS_n (.keep _ (.keep _ (.nil _))) (by exact (.nil)) rfl ?_ ?_
  · exact (.refl _)
  exact ⟨_, ⟨_, ⟨(by assumption), ⟨(by kernel_rfl), ⟨rfl, rfl⟩⟩⟩⟩⟩
theorem Grow_call (b : Nat) (n : Nat) (hn : n ≤ 1000000) (h1 : 1 ≤ n) :
    CallS Tryd.prog 40 #[.pointer (some ⟨b, 0, none⟩), .int .i64 n] E (.bld b Bld.new :: L)
      (fun r E' L' => ∃ t, r = .tuple #[] ∧ E = E' ∧ t.xs = [] ∧ t.xs.length = 0 ∧ L' = .bld b t :: L) := fun w hw => by
  have hw2 := St.both.1 hw
  have hw3 : St E (.blk b (Bld.obj b false none 0 0) :: .sl 5 1 none 0 0 [] :: L) w := hw2
  have hw4 := (hw3.perm (List.Perm.swap _ _ _)).drop
  refine (Grow_parts E L b n hn h1 w hw4).mono ?_
  rintro e w' ⟨r, E', L', he, hE, hs, a', c', hc, hr, hE', hL⟩
  subst hL
  exact ⟨r, E', .bld b ⟨true, some ⟨a', 0, none⟩, c', [], .inr (by omega)⟩ :: L, he, hE, St.both.2 hs, _, hr, hE', rfl, rfl, rfl⟩
end
end Go.Proofs.YtaibabmladgldaaDoor
set_option linter.unusedSimpArgs false
set_option linter.unusedVariables false
set_option maxHeartbeats 2000000
set_option maxRecDepth 20000
namespace Go.Proofs.YtaibabmladgldaaDoor
open Go.RowKit
/-! strings.Join with one blank, any texts. -/
def jnS : List (List UInt8) → List UInt8
  | [] => []
  | x :: l => x ++ l.flatMap fun y => 32 :: y
theorem jnS_snoc (xs : List (List UInt8)) (v : List UInt8) (h : xs ≠ []) : jnS (xs ++ [v]) = (jnS xs ++ [32]) ++ v := by
  rcases xs with _ | ⟨x, xs⟩
  · exact absurd rfl h
  · simp [jnS]
/-- The bytes of the first texts. -/
def sumL (xs : List (List UInt8)) (i : Nat) : Nat := ((xs.take i).map List.length).sum
theorem sumL_succ {xs : List (List UInt8)} {i : Nat} (h : i < xs.length) : sumL xs (i + 1) = sumL xs i + xs[i].length := by
  rw [sumL, List.take_succ_eq_append_getElem h, List.map_append, List.sum_append]
  simp [sumL]
theorem sumL_le {xs : List (List UInt8)} (h1 : ∀ i (h : i < xs.length), xs[i].length ≤ 1000) : ∀ i, i ≤ xs.length → sumL xs i ≤ 1000 * i
  | 0, _ => by simp [sumL]
  | i + 1, h => by rw [sumL_succ h]; have := sumL_le h1 i (by omega); have := h1 i h; omega
section
variable (E : Env) (L : List Res)
theorem Join1_call (p : Option Addr) (c : Nat) (x : List UInt8) (hx : SlE E 1 p 1 (strs [x])) : CallV Tryd.prog 30 #[.slice p 1 c, .string (S [32])] E L (.string (S x)) := by
  have h0 := strs_get (l := [x]) (k := 0) (s := x) rfl
  refine CallS.toV (CallS.intro (l := [_, _]) _ Tryd.func30 rfl Tryd.ntmps30 rfl ?_)
  refine G_seq (G_region ?_)
  refine Ga ?_
  refine G_end (X_then (G_seq (G_seq (G_region ?_))))
  refine Gm ?_
  refine Gv (V_lenS rfl rfl) ?_
  refine G_end (X_then (G_block (G_seq (G_region ?_))))
  refine Gv (V_eql rfl rfl rfl) ?_
  refine Ga ?_
  refine G_end (X_then ?_)
  refine G_cond_f rfl (by kernel_rfl) ?_
  refine G_seq (G_region ?_)
  refine Gv (V_eql rfl rfl rfl) ?_
  refine Ga ?_
  refine G_end (X_then ?_)
  refine G_cond_t rfl (by kernel_rfl) ?_
  refine G_seq (G_region ?_)
  refine Gm ?_
  refine Gv (V_idxAddr rfl rfl rfl (SlE.rd (by assumption)) (by omega) (by omega)) ?_
  refine Gv (V_loadS rfl rfl (SlE.rd (by assumption)) (by assumption) (by simp)) ?_
  refine Ga ?_
  refine G_end (X_then (G_ret (X_block_ret (X_then_ret ?_))))
  refine G_leaveS (.nil _) (by exact (.cons (.tmp rfl) (.nil))) rfl ?_ ?_
  · exact (.refl _)
  exact ⟨rfl, rfl⟩
theorem JoinN_call (p : Option Addr) (n c : Nat) (xs : List (List UInt8)) (hx : SlE E 1 p n (strs xs)) (hc : n ≤ c) (h2 : 2 ≤ n) (h64 : n ≤ 64) (h1 : ∀ i (h : i < xs.length), xs[i].length ≤ 1000) : CallV Tryd.prog 30 #[.slice p n c, .string (S [32])] E L (.string (S (jnS xs))) := by
  have e := hx.nS
  subst e
  have hq : ¬ (IntKind.i64.wrap ((9223372036854775807 : Int).tdiv (xs.length - 1)) ≤ ((([32] : List UInt8).length : Nat) : Int)) := by
    have h5 : (9223372036854775807 : Int).tdiv ((xs.length : Int) - 1) = 9223372036854775807 / ((xs.length : Int) - 1) := Int.tdiv_eq_ediv_of_nonneg (by omega)
    have h6 : (100 : Int) ≤ 9223372036854775807 / ((xs.length : Int) - 1) := (Int.le_ediv_iff_mul_le (by omega)).2 (by omega)
    have h7 : 9223372036854775807 / ((xs.length : Int) - 1) ≤ 9223372036854775807 := Int.ediv_le_self _ (by omega)
    rw [h5, wrap_i64 (by omega) h7]
    simp only [List.length_singleton]
    omega
  have e5 : IntKind.i64.wrap (0 + IntKind.i64.wrap (((([32] : List UInt8).length : Nat) : Int) * (xs.length - 1))) = ((xs.length - 1 + sumL xs 0 : Nat) : Int) := by
    have h8 : ((([32] : List UInt8).length : Nat) : Int) * ((xs.length : Int) - 1) = (xs.length : Int) - 1 := by simp
    have h9 : sumL xs 0 = 0 := rfl
    rw [h8, h9, wrap_i64 (a := (xs.length : Int) - 1) (by omega) (by omega), wrap_i64 (by omega) (by omega)]
    omega
  refine CallS.toV (CallS.intro (l := [_, _]) _ Tryd.func30 rfl Tryd.ntmps30 rfl ?_)
  refine G_seq (G_region ?_)
  refine Ga ?_
  refine G_end (X_then (G_seq (G_seq (G_region ?_))))
  refine Gm ?_
  refine Gv (V_lenS rfl rfl) ?_
  refine G_end (X_then (G_block (G_seq (G_region ?_))))
  refine Gv (V_eql rfl rfl rfl) ?_
  refine Ga ?_
  refine G_end (X_then ?_)
  refine G_cond_f rfl (decide_eq_false (by omega)) ?_
  refine G_seq (G_region ?_)
  refine Gv (V_eql rfl rfl rfl) ?_
  refine Ga ?_
  refine G_end (X_then ?_)
  refine G_cond_f rfl (decide_eq_false (by omega)) ?_
  refine G_skip (X_block (X_then (G_seq (G_region ?_))))
  refine Ga ?_
  refine G_end (X_then (G_seq (G_seq (G_region ?_))))
  refine Gm ?_
  refine Gv (V_len rfl rfl) ?_
  refine Gv (V_gtr rfl rfl rfl) ?_
  refine G_end (X_then ?_)
  refine G_cond_t rfl (by kernel_rfl) ?_
  refine G_seq (G_seq (G_region ?_))
  refine Gm ?_
  refine Gv (V_len rfl rfl) ?_
  refine Gm ?_
  refine Gv (V_lenS rfl rfl) ?_
  refine Gv (V_sub_i64 rfl rfl rfl (by omega) (by omega)) ?_
  refine Gv (V_quo rfl rfl rfl (by omega)) ?_
  refine Gv (V_geq rfl rfl rfl) ?_
  refine G_end (X_then ?_)
  refine G_cond_f rfl (decide_eq_false (by omega)) ?_
  refine G_skip (X_then (G_region ?_))
  refine Gm ?_
  refine Gm ?_
  refine Gv (V_len rfl rfl) ?_
  refine Gm ?_
  refine Gv (V_lenS rfl rfl) ?_
  refine Gv (V_sub_i64 rfl rfl rfl (by omega) (by omega)) ?_
  refine Gv (V_mul rfl rfl rfl) ?_
  refine Gv (V_add rfl rfl rfl) ?_
  refine Ga ?_
  refine G_end (X_then (G_seq (G_seq (G_region ?_))))
  refine Gm ?_
  refine Gv (V_lenS rfl rfl) ?_
  refine Gm ?_
  refine G_end (X_then (G_block ?_))
  rw [e5]
  refine G_loop (α := Nat) (fun i => [(0, .slice p xs.length c), (1, .string (S [32])), (5, .int .i64 ((xs.length - 1 + sumL xs i : Nat) : Int)), (39, .slice p xs.length c), (40, .int .i64 xs.length), (41, .int .i64 (i : Nat))]) (fun _ => E) (fun _ => L)
    (fun i => i ≤ xs.length) (fun i => xs.length - i) 0 (Nat.zero_le _) ⟨rfl, rfl, rfl, rfl, rfl, rfl, trivial⟩ rfl rfl ?_
  rintro i hi
  have hsi := sumL_le h1 i hi
  by_cases hlt : i < xs.length
  · have h0 := strs_get (List.getElem?_eq_getElem hlt)
    have h5 := h1 i hlt
    refine G_seq (G_region ?_)
    refine Gv (V_lss rfl rfl rfl) ?_
    refine G_end (X_then (G_seq ?_))
    refine G_cond_t rfl (decide_eq_true (by omega)) ?_
    refine G_skip (X_then (G_seq (G_block (G_seq (G_region ?_)))))
    refine Gv (V_idxAddr rfl rfl rfl (SlE.rd (by assumption)) (by omega) (by omega)) ?_
    refine Gv (V_loadS rfl rfl (SlE.rd (by assumption)) (by assumption) (by simp)) ?_
    refine Ga ?_
    refine G_end (X_then (G_seq (G_seq (G_region ?_))))
    refine Gm ?_
    refine Gv (V_len rfl rfl) ?_
    refine Gm ?_
    refine Gv (V_sub_i64 rfl rfl rfl (by omega) (by omega)) ?_
    refine Gv (V_gtr rfl rfl rfl) ?_
    refine G_end (X_then ?_)
    refine G_cond_f rfl (decide_eq_false (by omega)) ?_
    refine G_skip (X_then (G_region ?_))
    refine Gm ?_
    refine Gm ?_
    refine Gv (V_len rfl rfl) ?_
    refine Gv (V_add_i64 rfl rfl rfl (by omega) (by omega)) ?_
    refine Ga ?_
    refine G_end (X_block (X_then (G_region ?_)))
    refine Gv (V_add_i64 rfl rfl rfl (by omega) (by omega)) ?_
    refine Gm ?_
    refine G_end (X_then ?_)
    rw [show ((xs.length - 1 + sumL xs i : Nat) : Int) + (xs[i].length : Nat) = ((xs.length - 1 + sumL xs (i + 1) : Nat) : Int) by rw [sumL_succ hlt]; omega]
    exact G_again (i + 1) hlt (by omega) ⟨rfl, rfl, rfl, rfl, rfl, rfl, trivial⟩ rfl rfl
  · obtain rfl : i = xs.length := by omega
    have h0 := strs_get (List.getElem?_eq_getElem (l := xs) (i := 0) (by omega))
    have h5 := h1 0 (by omega)
    have htl : SlE E 1 (tailAt p 1 c 1) (xs.length - 1) (strs (xs.drop 1)) := by
      have := hx.tail (l := 1) (c := c) (by omega) hc
      simpa [strs] using this
    refine G_seq (G_region ?_)
    refine Gv (V_lss rfl rfl rfl) ?_
    refine G_end (X_then (G_seq ?_))
    refine G_cond_f rfl (decide_eq_false (by omega)) ?_
    refine G_exit (X_then_exit (X_then_exit (X_block_hit (X_then (G_seq (G_region ?_))))))
    (refine G_alloc rfl rfl rfl (.none rfl) ?_; intro b8)
    refine G_end (X_then (G_seq (G_region ?_)))
    refine Gm ?_
    refine G.bldNew ?_
    refine G_call (k := 40) (.mk rfl rfl rfl rfl) rfl rfl (.none rfl) (Grow_call _ _ _ _ (by omega) (by omega)) ?_
    rintro r1 E2 L3 hE4 ⟨z5, ⟨rfl, ⟨rfl, ⟨Z6, ⟨Z7, rfl⟩⟩⟩⟩⟩
    replace hx := hx.mono hE4
    replace htl := htl.mono hE4
    refine G_end (X_then (G_seq (G_region ?_)))
    refine Gm ?_
    refine Gv (V_idxAddr rfl rfl rfl (SlE.rd (by assumption)) (by omega) (by omega)) ?_
    refine Gv (V_loadS rfl rfl (SlE.rd (by assumption)) (by assumption) (by simp)) ?_
    refine G_call (k := 41) (.mk rfl rfl rfl rfl) rfl rfl (.none rfl) (WriteString_call _ _ _ _ _ (by omega)) ?_
    rintro r8 E9 L10 hE11 ⟨z12, ⟨rfl, ⟨rfl, ⟨Z13, ⟨Z14, rfl⟩⟩⟩⟩⟩
    replace hx := hx.mono hE11
    replace htl := htl.mono hE11
    refine G_end (X_then (G_seq (G_seq (G_region ?_))))
    refine Gm ?_
    refine Gv (V_slTail1 rfl rfl rfl (by omega)) ?_
    refine Gv (V_lenS rfl rfl) ?_
    refine Gm ?_
    refine G_end (X_then (G_block ?_))
    have hs1 : jnS (xs.take (0 + 1)) = xs[0] := by
      rw [List.take_succ_eq_append_getElem (by omega)]; simp [jnS]
    rw [Z6, List.nil_append, ← hs1] at Z13
    rw [Z7] at Z14
    refine G_loop (α := Nat × Bld) (fun x => [(1, .string (S [32])), (8, .pointer (some ⟨b8, 0, none⟩)), (63, .slice (tailAt p 1 c 1) (xs.length - 1) (c - 1)), (64, .int .i64 (xs.length - 1 : Nat)), (65, .int .i64 (x.1 : Nat))]) (fun _ => E9)
      (fun x => .bld b8 x.2 :: L) (fun x => x.1 ≤ xs.length - 1 ∧ x.2.xs = jnS (xs.take (x.1 + 1)) ∧ x.2.xs.length ≤ 1001 * x.1 + 1000) (fun x => xs.length - x.1) (0, z12) ⟨Nat.zero_le _, Z13, by show z12.xs.length ≤ _; omega⟩ ⟨rfl, rfl, rfl, rfl, rfl, trivial⟩ rfl rfl ?_
    rintro ⟨j, t⟩ ⟨hj, ht, htl2⟩
    simp only at hj ht htl2 ⊢
    by_cases hltj : j < xs.length - 1
    · have hg : (strs (xs.drop 1))[j]? = some (.string (S (xs[1 + j]'(by omega)))) := strs_get (by rw [List.getElem?_drop, List.getElem?_eq_getElem (by omega)])
      have h6 := h1 (1 + j) (by omega)
      have hsn : jnS (xs.take (j + 1 + 1)) = (jnS (xs.take (j + 1)) ++ [32]) ++ xs[1 + j]'(by omega) := by
        rw [List.take_succ_eq_append_getElem (by omega), jnS_snoc _ _ (fun h => by have := congrArg List.length h; rw [List.length_take, List.length_nil] at this; omega)]
        congr 2
        omega
      have h32 : ([32] : List UInt8).length = 1 := rfl
      clear hx h0
      refine G_seq (G_region ?_)
      refine Gv (V_lss rfl rfl rfl) ?_
      refine G_end (X_then (G_seq ?_))
      refine G_cond_t rfl (decide_eq_true (by omega)) ?_
      refine G_skip (X_then (G_seq (G_block (G_seq (G_region ?_)))))
      refine Gv (V_idxAddr rfl rfl rfl (SlE.rd (by assumption)) (by omega) (by omega)) ?_
      refine Gv (V_loadS rfl rfl (SlE.rd (by assumption)) (by assumption) (by simp)) ?_
      refine Ga ?_
      refine G_end (X_then (G_seq (G_region ?_)))
      refine Gm ?_
      refine G_call (k := 41) (.mk rfl rfl rfl rfl) rfl rfl (.none rfl) (WriteString_call _ _ _ _ _ (by omega)) ?_
      rintro r1 E2 L3 hE5 ⟨z6, ⟨rfl, ⟨rfl, ⟨Z8, ⟨Z9, rfl⟩⟩⟩⟩⟩
      replace htl := htl.mono hE5
      refine G_end (X_then (G_region ?_))
      refine Gm ?_
      refine G_call (k := 41) (.mk rfl rfl rfl rfl) rfl rfl (.none rfl) (WriteString_call _ _ _ _ _ (by omega)) ?_
      rintro r10 E11 L12 hE13 ⟨z14, ⟨rfl, ⟨rfl, ⟨Z15, ⟨Z16, rfl⟩⟩⟩⟩⟩
      replace htl := htl.mono hE13
      refine G_end (X_block (X_then (G_region ?_)))
      refine Gv (V_add_i64 rfl rfl rfl (by omega) (by omega)) ?_
      refine Gm ?_
      refine G_end (X_then ?_)
      exact G_again (j + 1, z14) ⟨by show j + 1 ≤ _; omega, by show z14.xs = _; rw [Z15, Z8, ht, hsn], by show z14.xs.length ≤ 1001 * (j + 1) + 1000; omega⟩ (by show xs.length - (j + 1) < xs.length - j; omega) ⟨rfl, rfl, rfl, rfl, rfl, trivial⟩ rfl rfl
    · obtain rfl : j = xs.length - 1 := by omega
      rw [show xs.length - 1 + 1 = xs.length by omega, List.take_length] at ht
      rw [← ht]
      refine G_seq (G_region ?_)
      refine Gv (V_lss rfl rfl rfl) ?_
      refine G_end (X_then (G_seq ?_))
      refine G_cond_f rfl (decide_eq_false (by omega)) ?_
      refine G_exit (X_then_exit (X_then_exit (X_block_hit (X_then (G_seq (G_region ?_))))))
      refine G_call (k := 42) (.mk rfl rfl rfl rfl) rfl rfl (.none rfl) (BString_call _ _ _ _ (by omega)) ?_
      rintro r1 E2 L3 hE5 ⟨rfl, ⟨rfl, rfl⟩⟩
      replace hx := hx.mono hE5
      replace htl := htl.mono hE5
      refine Ga ?_
      refine G_end (X_then (G_ret ?_))
      refine G_leaveS (.nil _) (by exact (.cons (.tmp rfl) (.nil))) rfl ?_ ?_
      · exact (.refl _)
      exact ⟨rfl, rfl⟩
end
end Go.Proofs.YtaibabmladgldaaDoor
set_option linter.unusedSimpArgs false
set_option linter.unusedVariables false
set_option maxHeartbeats 2000000
set_option maxRecDepth 20000
namespace Go.Proofs.YtaibabmladgldaaDoor
open Go.RowKit
/-! stack.Text. -/
def dgb (x : Int) : UInt8 := UInt8.ofNat (48 + x.toNat)
/-- The digits of a number below 1,000. -/
def dec (x : Int) : List UInt8 := if x < 10 then [dgb x] else if x < 100 then [dgb (x / 10), dgb (x % 10)] else [dgb (x / 100), dgb (x / 10 % 10), dgb (x % 10)]
theorem dec_len (x : Int) : 1 ≤ (dec x).length ∧ (dec x).length ≤ 3 := by unfold dec; split; simp; split <;> simp
def spT (s : Spt) : List UInt8 := (dec s.1 ++ [58]) ++ dec s.2
theorem spT_len (s : Spt) : (spT s).length ≤ 7 := by
  have h1 := dec_len s.1
  have h2 := dec_len s.2
  simp only [spT, List.length_append, List.length_singleton]
  omega
abbrev badT (s : Spt) : Prop := min s.1 s.2 < 0 ∨ 999 < max s.1 s.2
def txtE : List Spt → Int
  | [] => 0
  | s :: l => if badT s then 2 else txtE l
def txtM (l : List Spt) : List UInt8 × Int := if 64 < l.length then ([], 21) else if txtE l ≠ 0 then ([], 2) else if l = [] then ([45], 0) else (jnS (l.map spT), 0)
theorem txtE_drop {l : List Spt} {k : Nat} {s : Spt} (h : l[k]? = some s) : txtE (l.drop k) = if badT s then 2 else txtE (l.drop (k + 1)) := by
  rw [List.drop_eq_getElem_cons (List.getElem?_eq_some_iff.1 h).1, (List.getElem?_eq_some_iff.1 h).2]
  rfl
section
variable (E : Env) (L : List Res)
/-- strconv.Itoa writes this number so. -/
def ItoaOk (E : Env) (x : Int) : Prop := ∀ L0, CallV Tryd.prog 29 #[.int .i64 x] E L0 (.string (S (dec x)))
theorem ItoaO_call (x : Int) (h : ItoaOk E x) : CallV Tryd.prog 29 #[.int .i64 x] E L (.string (S (dec x))) := h L
theorem SText_call (I : Int → Prop) (hI : ∀ (E0 : Env) (x : Int), E.Le E0 → I x → ItoaOk E0 x) (p : Option Addr) (n c : Nat) (l : List Spt) (hs : SlE E 2 p n (spC l)) (hn : n ≤ 9223372036854775807)
    (hi : ∀ s, s ∈ l → ¬ badT s → I s.1 ∧ I s.2) : CallS Tryd.prog 13 #[.slice p n c] E L (fun r E' L' => r = .tuple #[.string (S (txtM l).1), .int .i64 (txtM l).2] ∧ L' = L) := by
  have en := hs.nSp
  subst en
  unfold txtM
  by_cases h64 : 64 < l.length
  · rw [if_pos h64]
    refine CallS.intro (l := [_]) _ Tryd.func13 rfl Tryd.ntmps13 rfl ?_
    refine G_seq (G_region ?_)
    (refine G_alloc rfl rfl rfl (.none rfl) ?_; intro b2)
    (refine G_alloc rfl rfl rfl (.none rfl) ?_; intro b3)
    refine G_end (X_then (G_seq (G_seq (G_region ?_))))
    refine Gm ?_
    refine Gv (V_lenS rfl rfl) ?_
    refine Gv (V_gtr rfl rfl rfl) ?_
    refine G_end (X_then ?_)
    refine G_cond_t rfl (decide_eq_true (by omega)) ?_
    refine G_seq (G_region ?_)
    refine G_store1 rfl rfl rfl rfl rfl rfl (.none rfl) (.tail _ (.head _ _ _)) ?_
    refine G_store1 rfl rfl rfl rfl rfl rfl (.none rfl) (.head _ _ _) ?_
    refine G_end (X_then (G_ret (X_then_ret ?_)))
    refine G_leaveS (.drop _ (.drop _ (.nil _))) (by exact (.cons (.cell1 rfl (Cell.own1 (.tail _ (.head _)))) (.cons (.cell1 rfl (Cell.own1 (.head _))) (.nil)))) rfl ?_ ?_
    · exact (.refl _)
    exact ⟨(by kernel_rfl), rfl⟩
  rw [if_neg h64]
  refine CallS.intro (l := [_]) _ Tryd.func13 rfl Tryd.ntmps13 rfl ?_
  refine G_seq (G_region ?_)
  (refine G_alloc rfl rfl rfl (.none rfl) ?_; intro b2)
  (refine G_alloc rfl rfl rfl (.none rfl) ?_; intro b3)
  refine G_end (X_then (G_seq (G_seq (G_region ?_))))
  refine Gm ?_
  refine Gv (V_lenS rfl rfl) ?_
  refine Gv (V_gtr rfl rfl rfl) ?_
  refine G_end (X_then ?_)
  refine G_cond_f rfl (decide_eq_false (by omega)) ?_
  refine G_skip (X_then (G_seq (G_region ?_)))
  (refine G_alloc rfl rfl rfl (.none rfl) ?_; intro b4)
  refine G_end (X_then (G_seq (G_seq (G_region ?_))))
  refine Gm ?_
  refine G_call (k := 27) (.mk rfl rfl rfl rfl) rfl rfl (.none rfl) (spots_call _ _ _ _ _) ?_
  rintro r1 E2 L3 hE4 ⟨z5, ⟨rfl, ⟨rfl, rfl⟩⟩⟩
  replace hs := hs.mono hE4
  refine G_end (X_then (G_block ?_))
  refine G.nilSl 9 1 ?_
  refine G.front (.tail _ (.head _ _)) ?_
  refine G_rangeI (σ := Env × Option Addr × Nat × List (List UInt8) × Int) (enc := spEnc) rfl (iter_spots E z5 p _ c l hs (by omega)) (fun v => v.1)
    (fun v => .sl 9 1 v.2.1 v.2.2.2.1.length v.2.2.1 (strs v.2.2.2.1) :: .blk b4 (.cells #[.slice v.2.1 v.2.2.2.1.length v.2.2.1] 22 (0, 0)) :: .blk b3 (.cells #[.int .i64 v.2.2.2.2] 33 (0, 0)) :: .blk b2 (.cells #[.string (S [])] 9 (0, 0)) :: L)
    (fun pre v => v.2.2.2.2 = 0 ∧ v.2.2.2.1 = pre.map (fun x => spT x.1) ∧ txtE l = txtE (l.drop pre.length)) (fun q pre v => q = .ret ∧ v.2.2.2.2 = 2 ∧ txtE l = 2) (E, none, 0, [], 0) ⟨rfl, rfl, rfl⟩ rfl (.refl _) rfl (fun _ => rfl) ?_ ?_ ?_
  · rintro y D tm fn M pre ⟨⟨sp, sd⟩, j⟩ ⟨E1, a, ca, ts, e⟩ hpre ⟨rfl, hts, hst⟩ hE
    obtain ⟨hx, hj, hlt⟩ := zip_pre hpre
    simp only at hx hj hst hts hE
    rw [txtE_drop hx] at hst
    simp only [List.cons_append]
    dsimp only [spEnc]
    by_cases hb1 : min sp sd < 0
    · rw [if_pos (by simp only [badT]; omega)] at hst
      refine G_region ?_
      (refine G_alloc rfl rfl rfl (.none rfl) ?_; intro b6)
      refine G_storeA rfl rfl rfl rfl (by simp [Value.oneCell']) rfl (.none rfl) (.head _ _ _) rfl ?_
      refine G_end (X_then ?_)
      refine G_begin (.tail _ (.head _ _ _)) ?_
      refine G_block (G_seq (G_seq (G_region ?_)))
      refine Gv (V_fieldAddr rfl rfl (by decide)) ?_
      refine Gv (V_load rfl rfl (Cell.own (.head _) rfl)) ?_
      refine Gv (V_fieldAddr rfl rfl (by decide)) ?_
      refine Gv (V_load rfl rfl (Cell.own (.head _) rfl)) ?_
      refine Gv (V_min rfl rfl rfl) ?_
      refine Gv (V_lss rfl rfl rfl) ?_
      refine Gm ?_
      refine G.bool_t 20 rfl (decide_eq_true (by omega)) ?_
      refine Gn ?_
      refine Gn ?_
      refine Gn ?_
      refine Gn ?_
      refine Gn ?_
      refine Gn ?_
      refine Gv (V_pick_t rfl rfl rfl) ?_
      refine G_end (X_then ?_)
      refine G_cond_t rfl rfl ?_
      refine G_seq (G_region ?_)
      refine G_store1 rfl rfl rfl rfl rfl rfl (.none rfl) (.tail _ (.tail _ (.tail _ (.tail _ (.tail _ (.tail _ (.head _ _ _))))))) ?_
      refine G_store1 rfl rfl rfl rfl rfl rfl (.none rfl) (.tail _ (.tail _ (.tail _ (.tail _ (.tail _ (.head _ _ _)))))) ?_
      refine G_end (X_then (G_ret (X_then_ret (X_block_ret ?_))))
      refine G.drop ?_
      exact G_rRet (E1, a, ca, ts, 2) ⟨rfl, rfl, hst⟩ rfl (.refl _) rfl
    by_cases hb2 : 999 < max sp sd
    · rw [if_pos (by simp only [badT]; omega)] at hst
      refine G_region ?_
      (refine G_alloc rfl rfl rfl (.none rfl) ?_; intro b6)
      refine G_storeA rfl rfl rfl rfl (by simp [Value.oneCell']) rfl (.none rfl) (.head _ _ _) rfl ?_
      refine G_end (X_then ?_)
      refine G_begin (.tail _ (.head _ _ _)) ?_
      refine G_block (G_seq (G_seq (G_region ?_)))
      refine Gv (V_fieldAddr rfl rfl (by decide)) ?_
      refine Gv (V_load rfl rfl (Cell.own (.head _) rfl)) ?_
      refine Gv (V_fieldAddr rfl rfl (by decide)) ?_
      refine Gv (V_load rfl rfl (Cell.own (.head _) rfl)) ?_
      refine Gv (V_min rfl rfl rfl) ?_
      refine Gv (V_lss rfl rfl rfl) ?_
      refine Gm ?_
      refine G.bool_f 20 rfl (decide_eq_false (by omega)) ?_
      refine Gy (V_fieldAddr rfl rfl (by decide)) ?_
      refine Gy (V_load rfl rfl (Cell.own (.head _) rfl)) ?_
      refine Gy (V_fieldAddr rfl rfl (by decide)) ?_
      refine Gy (V_load rfl rfl (Cell.own (.head _) rfl)) ?_
      refine Gy (V_max rfl rfl rfl) ?_
      refine Gy (V_gtr rfl rfl rfl) ?_
      refine Gv (V_pick_f rfl rfl rfl) ?_
      refine G_end (X_then ?_)
      refine G_cond_t rfl (decide_eq_true (by omega)) ?_
      refine G_seq (G_region ?_)
      refine G_store1 rfl rfl rfl rfl rfl rfl (.none rfl) (.tail _ (.tail _ (.tail _ (.tail _ (.tail _ (.tail _ (.head _ _ _))))))) ?_
      refine G_store1 rfl rfl rfl rfl rfl rfl (.none rfl) (.tail _ (.tail _ (.tail _ (.tail _ (.tail _ (.head _ _ _)))))) ?_
      refine G_end (X_then (G_ret (X_then_ret (X_block_ret ?_))))
      refine G.drop ?_
      exact G_rRet (E1, a, ca, ts, 2) ⟨rfl, rfl, hst⟩ rfl (.refl _) rfl
    have hb : ¬ badT (sp, sd) := by simp only [badT]; omega
    rw [if_neg hb] at hst
    obtain ⟨i1, i2⟩ := hi (sp, sd) (List.mem_of_getElem? hx) hb
    have h1 := hI E1 sp hE i1
    have h2 := hI E1 sd hE i2
    have l1 := dec_len sp
    have l2 := dec_len sd
    have htl : ts.length = pre.length := by rw [hts, List.length_map]
    -- the region's end would let go what stands behind an append
    obtain ⟨LM, hLM⟩ : ∃ X, L ++ M = X := ⟨_, rfl⟩
    rw [hLM]
    refine G_region ?_
    (refine G_alloc rfl rfl rfl (.none rfl) ?_; intro b6)
    refine G_storeA rfl rfl rfl rfl (by simp [Value.oneCell']) rfl (.none rfl) (.head _ _ _) rfl ?_
    refine G_end (X_then ?_)
    refine G_begin (.tail _ (.head _ _ _)) ?_
    refine G_block (G_seq (G_seq (G_region ?_)))
    refine Gv (V_fieldAddr rfl rfl (by decide)) ?_
    refine Gv (V_load rfl rfl (Cell.own (.head _) rfl)) ?_
    refine Gv (V_fieldAddr rfl rfl (by decide)) ?_
    refine Gv (V_load rfl rfl (Cell.own (.head _) rfl)) ?_
    refine Gv (V_min rfl rfl rfl) ?_
    refine Gv (V_lss rfl rfl rfl) ?_
    refine Gm ?_
    refine G.bool_f 20 rfl (decide_eq_false (by omega)) ?_
    refine Gy (V_fieldAddr rfl rfl (by decide)) ?_
    refine Gy (V_load rfl rfl (Cell.own (.head _) rfl)) ?_
    refine Gy (V_fieldAddr rfl rfl (by decide)) ?_
    refine Gy (V_load rfl rfl (Cell.own (.head _) rfl)) ?_
    refine Gy (V_max rfl rfl rfl) ?_
    refine Gy (V_gtr rfl rfl rfl) ?_
    refine Gv (V_pick_f rfl rfl rfl) ?_
    refine G_end (X_then ?_)
    refine G_cond_f rfl (decide_eq_false (by omega)) ?_
    refine G_skip (X_then ?_)
    refine G_drawX 12 [(0, 1), (1, 0), (2, 1), (5, 0), (6, 1), (3, 3), (4, 0), (7, 3), (8, 0), (9, 2), (10, 4), (11, 4)] mixed (by kernel_rfl) ?_
    refine F_load rfl (.tail _ (.tail _ (.tail _ (.tail _ (.head _))))) (V_load rfl rfl (Cell.own1 (.head _))) rfl rfl (.none rfl) ?_
    refine F_pure rfl (fun _ _ => V_fieldAddr rfl rfl (by decide)) rfl rfl (.none rfl) ?_
    refine F_load rfl (.head _) (V_load rfl rfl (Cell.own (.head _) rfl)) rfl rfl (.none rfl) ?_
    refine F_pure rfl (fun _ _ => V_fieldAddr rfl rfl (by decide)) rfl rfl (.none rfl) ?_
    refine F_load rfl (.head _) (V_load rfl rfl (Cell.own (.head _) rfl)) rfl rfl (.none rfl) ?_
    refine F_callv (k := 29) rfl (.mk rfl rfl rfl rfl) rfl rfl (.none rfl) (fun _ => ItoaO_call _ _ _ (by assumption)) ?_
    refine F_pure rfl (fun _ _ => V_cat rfl rfl rfl (by simp; omega)) rfl rfl (.none rfl) ?_
    refine F_callv (k := 29) rfl (.mk rfl rfl rfl rfl) rfl rfl (.none rfl) (fun _ => ItoaO_call _ _ _ (by assumption)) ?_
    refine F_pure rfl (fun _ _ => V_cat rfl rfl rfl (by simp; omega)) rfl rfl (.none rfl) ?_
    (refine F_litZ rfl rfl rfl (by decide) (by simp [fillS, zeros, setLs, setL, Value.cells, List.range, List.range.loop]; rfl) (by rfl) rfl rfl (.none rfl) ?_; intro b37 E37 hE37 hs37)
    (refine F_appendT rfl rfl rfl rfl (by assumption) (by simp [Value.oneCell', strs, i64s]) (by omega) (by omega) rfl rfl (.none rfl) (fun _ _ => (.tail _ (.tail _ (.tail _ (.head _ _ _))))) ?_; intro a38 c38; refine ⟨_, (.drop (by kernel_rfl) (.drop (by kernel_rfl) (.drop (by kernel_rfl) (.nil)))), ?_⟩)
    refine F_store1 rfl rfl rfl rfl rfl rfl rfl (.none rfl) (.tail _ (.tail _ (.tail _ (.tail _ (.head _ _ _))))) (.nil) ?_
    (refine F_end (.nil _) ?_; dsimp only [List.drop])
    refine G_end (X_block ?_)
    refine G.drop ?_
    rw [← hLM]
    have zl : (ts ++ [spT (sp, sd)]).length = ts.length + 1 := by simp
    have zs : strs ts ++ [Value.string (S (dec sp ++ 58 :: dec sd))] = strs (ts ++ [spT (sp, sd)]) := by simp [strs, spT]
    rw [zs, ← zl]
    exact G_rEnd (E37, a38, c38, ts ++ [spT (sp, sd)], 0) ⟨rfl, by simp only [hts, List.map_append, List.map_cons, List.map_nil], by simp only [List.length_append, List.length_singleton]; exact hst⟩ rfl hE37 rfl
  · rintro D ⟨E1, a, ca, ts, e⟩ ⟨rfl, hts, hst⟩ hE
    rw [List.length_zipIdx, List.drop_length] at hst
    simp only at hts hE ⊢
    have hts2 : ts = l.map spT := by rw [hts]; apply List.ext_getElem <;> simp
    have htl : ts.length = l.length := by rw [hts2, List.length_map]
    rw [if_neg (by rw [hst]; simp [txtE])]
    by_cases hl0 : l = []
    · have hl1 : ts.length = 0 := by rw [htl, hl0]; rfl
      rw [if_pos hl0]
      refine X_block (X_then (G_seq (G_seq (G_region ?_))))
      refine Gv (V_load rfl rfl (Cell.own1 (.tail _ (.tail _ (.head _))))) ?_
      refine Gv (V_lenS rfl rfl) ?_
      refine Gv (V_eql rfl rfl rfl) ?_
      refine G_end (X_then ?_)
      refine G_cond_t rfl (decide_eq_true (by omega)) ?_
      refine G_seq (G_region ?_)
      refine G_store1 rfl rfl rfl rfl rfl rfl (.none rfl) (.tail _ (.tail _ (.tail _ (.tail _ (.head _ _ _))))) ?_
      refine G_store1 rfl rfl rfl rfl rfl rfl (.none rfl) (.tail _ (.tail _ (.tail _ (.head _ _ _)))) ?_
      refine G_end (X_then (G_ret (X_then_ret ?_)))
      refine G_leave_ms [D] ?_
      refine G_leaveS (.drop _ (.drop _ (.drop _ (.drop _ (.nil _))))) (by exact (.cons (.cell1 rfl (Cell.own1 (.tail _ (.tail _ (.tail _ (.head _)))))) (.cons (.cell1 rfl (Cell.own1 (.tail _ (.tail _ (.head _))))) (.nil)))) rfl ?_ ?_
      · exact hE
      exact ⟨(by kernel_rfl), rfl⟩
    · rw [if_neg hl0, ← hts2]
      have hlp : 0 < ts.length := by rw [htl]; exact List.length_pos_iff.2 hl0
      refine G.freezeSl (.tail _ (.head _ _)) ?_
      intro E2 hE2 hts3 hca
      have h7 : ∀ i (h : i < ts.length), ts[i].length ≤ 1000 := fun i h => by
        simp only [hts2, List.getElem_map]; have := spT_len (l[i]'(by omega)); omega
      by_cases hl1 : ts.length = 1
      · obtain ⟨x, rfl⟩ := List.length_eq_one_iff.1 hl1
        have hj1 : jnS [x] = x := by simp [jnS]
        rw [hj1]
        refine X_block (X_then (G_seq (G_seq (G_region ?_))))
        refine Gv (V_load rfl rfl (Cell.own1 (.tail _ (.head _)))) ?_
        refine Gv (V_lenS rfl rfl) ?_
        refine Gv (V_eql rfl rfl rfl) ?_
        refine G_end (X_then ?_)
        refine G_cond_f rfl (decide_eq_false (by omega)) ?_
        refine G_skip (X_then (G_seq (G_region ?_)))
        refine Gv (V_load rfl rfl (Cell.own1 (.tail _ (.head _)))) ?_
        refine G_callv (k := 30) (.mk rfl rfl rfl rfl) rfl rfl (.none rfl) (Join1_call _ _ a ca x hts3) ?_
        refine G_store1 rfl rfl rfl rfl rfl rfl (.none rfl) (.tail _ (.tail _ (.tail _ (.head _ _ _)))) ?_
        refine G_store1 rfl rfl rfl rfl rfl rfl (.none rfl) (.tail _ (.tail _ (.head _ _ _))) ?_
        refine G_end (X_then (G_ret ?_))
        refine G_leave_ms [D] ?_
        refine G_leaveS (.drop _ (.drop _ (.drop _ (.nil _)))) (by exact (.cons (.cell1 rfl (Cell.own1 (.tail _ (.tail _ (.head _))))) (.cons (.cell1 rfl (Cell.own1 (.tail _ (.head _)))) (.nil)))) rfl ?_ ?_
        · exact (hE.trans hE2)
        exact ⟨rfl, rfl⟩
      · refine X_block ?_
        refine X_then (G_seq (G_seq (G_region ?_)))
        refine Gv (V_load rfl rfl (Cell.own1 (.tail _ (.head _)))) ?_
        refine Gv (V_lenS rfl rfl) ?_
        refine Gv (V_eql rfl rfl rfl) ?_
        refine G_end (X_then ?_)
        refine G_cond_f rfl (decide_eq_false (by omega)) ?_
        refine G_skip (X_then (G_seq (G_region ?_)))
        refine Gv (V_load rfl rfl (Cell.own1 (.tail _ (.head _)))) ?_
        refine G_callv (k := 30) (.mk rfl rfl rfl rfl) rfl rfl (.none rfl) (JoinN_call _ _ a _ ca ts hts3 hca (by omega) (by omega) h7) ?_
        refine G_store1 rfl rfl rfl rfl rfl rfl (.none rfl) (.tail _ (.tail _ (.tail _ (.head _ _ _)))) ?_
        refine G_store1 rfl rfl rfl rfl rfl rfl (.none rfl) (.tail _ (.tail _ (.head _ _ _))) ?_
        refine G_end (X_then (G_ret ?_))
        refine G_leave_ms [D] ?_
        refine G_leaveS (.drop _ (.drop _ (.drop _ (.nil _)))) (by exact (.cons (.cell1 rfl (Cell.own1 (.tail _ (.tail _ (.head _))))) (.cons (.cell1 rfl (Cell.own1 (.tail _ (.head _)))) (.nil)))) rfl ?_ ?_
        · exact (hE.trans hE2)
        exact ⟨rfl, rfl⟩
  · rintro D q pre ⟨E1, a, ca, ts, e⟩ hpre ⟨rfl, rfl, hst⟩ hE
    simp only at hE ⊢
    refine G_ret (X_block_ret (X_then_ret ?_))
    refine G_leave_ms [D] ?_
    rw [if_pos (by omega)]
    refine G_leaveS (.drop _ (.drop _ (.drop _ (.drop _ (.nil _))))) (by exact (.cons (.cell1 rfl (Cell.own1 (.tail _ (.tail _ (.tail _ (.head _)))))) (.cons (.cell1 rfl (Cell.own1 (.tail _ (.tail _ (.head _))))) (.nil)))) rfl ?_ ?_
    · exact hE
    exact ⟨(by kernel_rfl), rfl⟩
end
end Go.Proofs.YtaibabmladgldaaDoor
set_option linter.unusedSimpArgs false
set_option linter.unusedVariables false
set_option maxHeartbeats 2000000
set_option maxRecDepth 20000
namespace Go.Proofs.YtaibabmladgldaaDoor
open Go.RowKit
/-! The reference's decimal and Text. -/
theorem dgb_nat {d : Int} (h : 0 ≤ d ∧ d < 10) : ((dgb d).toNat : Int) = 48 + d := by
  have : 48 + d.toNat < 256 := by omega
  simp [dgb, UInt8.toNat_ofNat, Nat.mod_eq_of_lt this]
  omega
theorem dec_one {x : Int} (h : x < 10) : dec x = [dgb x] := by unfold dec; rw [if_pos h]
theorem dec_step {x : Int} (h : 10 ≤ x ∧ x < 1000) : dec x = dec (x / 10) ++ [dgb (x % 10)] := by
  unfold dec
  rw [if_neg (by omega)]
  by_cases h1 : x < 100
  · rw [if_pos h1, if_pos (by omega)]
    rfl
  · rw [if_neg h1, if_neg (by omega), if_pos (by omega), show x / 10 / 10 = x / 100 by omega]
    rfl
theorem dgb_row {E : Env} {a : Option Addr} {d : Int} (h : 0 ≤ d ∧ d < 10) (hs : SlE E 1 a 1 [.int .u8 (48 + d)]) : SlE E 1 a 1 ([dgb d].map fun b => .int .u8 b.toNat) := by
  rw [List.map_cons, List.map_nil, dgb_nat h]
  exact hs
theorem jn_len : ∀ ws : List (List UInt8), (∀ w, w ∈ ws → w.length ≤ 7) → (jnS ws).length ≤ 8 * ws.length := by
  intro ws
  cases ws with
  | nil => intro _; simp [jnS]
  | cons x ws =>
    intro h1
    have hx := h1 x (.head _)
    have h2 : ∀ vs : List (List UInt8), (∀ w, w ∈ vs → w.length ≤ 7) → (vs.flatMap fun y => (32 : UInt8) :: y).length ≤ 8 * vs.length := by
      intro vs
      induction vs with
      | nil => intro _; simp
      | cons v vs ih =>
        intro h3
        have := ih (fun w hw => h3 w (.tail _ hw))
        have := h3 v (.head _)
        simp only [List.flatMap_cons, List.length_append, List.length_cons]
        omega
    have := h2 ws (fun w hw => h1 w (.tail _ hw))
    simp only [jnS, List.length_append, List.length_cons]
    omega
section
variable (E : Env) (L : List Res)
theorem Rdec1_call (x : Int) (h : 0 ≤ x ∧ x < 10) : CallS Tryd.prog 31 #[.int .i64 x] E L (fun r E' L' => r = .string (S (dec x)) ∧ L' = L) := by
  rw [dec_one h.2]
  have hm : x % 10 = x := by omega
  refine CallS.intro (l := [_]) _ Tryd.func31 rfl Tryd.ntmps31 rfl ?_
  refine G_seq (G_region ?_)
  refine Ga ?_
  refine G_end (X_then (G_seq (G_region ?_)))
  refine Gm ?_
  refine Gv (V_rem_n rfl rfl rfl (by omega) (by omega)) ?_
  refine Gv (V_add_i64 rfl rfl rfl (by omega) (by omega)) ?_
  refine Gv (V_conv_u8 rfl rfl (by omega) (by omega)) ?_
  (refine G_lit1 rfl rfl rfl rfl rfl (.none rfl) ?_; intro b8)
  rw [hm]
  refine G.freezeB (k := 1) (sz := 1) (.head _ _) rfl ?_
  intro E2 hE2 hz
  have hz2 := dgb_row h hz
  refine Gv (V_b2s rfl rfl (SlE.rd hz2)) ?_
  refine Ga ?_
  refine G_end (X_then (G_seq (G_seq (G_region ?_))))
  refine Gm ?_
  refine Gv (V_geq rfl rfl rfl) ?_
  refine G_end (X_then ?_)
  refine G_cond_f rfl (decide_eq_false (by omega)) ?_
  refine G_skip (X_then (G_seq (G_region ?_)))
  refine Gm ?_
  refine Ga ?_
  refine G_end (X_then (G_ret ?_))
  refine G_leaveS (.nil _) (by exact (.cons (.tmp rfl) (.nil))) rfl ?_ ?_
  · exact hE2
  exact ⟨rfl, rfl⟩
theorem Rdec2_call (x : Int) (h : 10 ≤ x ∧ x < 100) : CallS Tryd.prog 31 #[.int .i64 x] E L (fun r E' L' => r = .string (S (dec x)) ∧ L' = L) := by
  rw [dec_step ⟨h.1, by omega⟩]
  have hm : 0 ≤ x % 10 ∧ x % 10 < 10 := by omega
  have hd := dec_len (x / 10)
  refine CallS.intro (l := [_]) _ Tryd.func31 rfl Tryd.ntmps31 rfl ?_
  refine G_seq (G_region ?_)
  refine Ga ?_
  refine G_end (X_then (G_seq (G_region ?_)))
  refine Gm ?_
  refine Gv (V_rem_n rfl rfl rfl (by omega) (by omega)) ?_
  refine Gv (V_add_i64 rfl rfl rfl (by omega) (by omega)) ?_
  refine Gv (V_conv_u8 rfl rfl (by omega) (by omega)) ?_
  (refine G_lit1 rfl rfl rfl rfl rfl (.none rfl) ?_; intro b8)
  refine G.freezeB (k := 1) (sz := 1) (.head _ _) rfl ?_
  intro E2 hE2 hz
  have hz2 := dgb_row hm hz
  refine Gv (V_b2s rfl rfl (SlE.rd hz2)) ?_
  refine Ga ?_
  refine G_end (X_then (G_seq (G_seq (G_region ?_))))
  refine Gm ?_
  refine Gv (V_geq rfl rfl rfl) ?_
  refine G_end (X_then ?_)
  refine G_cond_t rfl (decide_eq_true (by omega)) ?_
  refine G_region ?_
  refine Gm ?_
  refine Gv (V_quo_n rfl rfl rfl (by omega) (by omega) (by simp [IntKind.max, IntKind.signed, IntKind.bits]; omega)) ?_
  refine G_call (k := 31) (.mk rfl rfl rfl rfl) rfl rfl (.none rfl) (Rdec1_call _ _ (x / 10) (by omega)) ?_
  rintro x3 E3 L3 hE3 ⟨rfl, rfl⟩
  refine Gm ?_
  refine Gv (V_cat rfl rfl rfl (by simp; omega)) ?_
  refine Ga ?_
  refine G_end (X_then (G_seq (G_region ?_)))
  refine Gm ?_
  refine Ga ?_
  refine G_end (X_then (G_ret ?_))
  refine G_leaveS (.nil _) (by exact (.cons (.tmp rfl) (.nil))) rfl ?_ ?_
  · exact (hE2.trans hE3)
  exact ⟨rfl, rfl⟩
theorem Rdec3_call (x : Int) (h : 100 ≤ x ∧ x < 1000) : CallS Tryd.prog 31 #[.int .i64 x] E L (fun r E' L' => r = .string (S (dec x)) ∧ L' = L) := by
  rw [dec_step ⟨by omega, h.2⟩]
  have hm : 0 ≤ x % 10 ∧ x % 10 < 10 := by omega
  have hd := dec_len (x / 10)
  refine CallS.intro (l := [_]) _ Tryd.func31 rfl Tryd.ntmps31 rfl ?_
  refine G_seq (G_region ?_)
  refine Ga ?_
  refine G_end (X_then (G_seq (G_region ?_)))
  refine Gm ?_
  refine Gv (V_rem_n rfl rfl rfl (by omega) (by omega)) ?_
  refine Gv (V_add_i64 rfl rfl rfl (by omega) (by omega)) ?_
  refine Gv (V_conv_u8 rfl rfl (by omega) (by omega)) ?_
  (refine G_lit1 rfl rfl rfl rfl rfl (.none rfl) ?_; intro b8)
  refine G.freezeB (k := 1) (sz := 1) (.head _ _) rfl ?_
  intro E2 hE2 hz
  have hz2 := dgb_row hm hz
  refine Gv (V_b2s rfl rfl (SlE.rd hz2)) ?_
  refine Ga ?_
  refine G_end (X_then (G_seq (G_seq (G_region ?_))))
  refine Gm ?_
  refine Gv (V_geq rfl rfl rfl) ?_
  refine G_end (X_then ?_)
  refine G_cond_t rfl (decide_eq_true (by omega)) ?_
  refine G_region ?_
  refine Gm ?_
  refine Gv (V_quo_n rfl rfl rfl (by omega) (by omega) (by simp [IntKind.max, IntKind.signed, IntKind.bits]; omega)) ?_
  refine G_call (k := 31) (.mk rfl rfl rfl rfl) rfl rfl (.none rfl) (Rdec2_call _ _ (x / 10) (by omega)) ?_
  rintro x3 E3 L3 hE3 ⟨rfl, rfl⟩
  refine Gm ?_
  refine Gv (V_cat rfl rfl rfl (by simp; omega)) ?_
  refine Ga ?_
  refine G_end (X_then (G_seq (G_region ?_)))
  refine Gm ?_
  refine Ga ?_
  refine G_end (X_then (G_ret ?_))
  refine G_leaveS (.nil _) (by exact (.cons (.tmp rfl) (.nil))) rfl ?_ ?_
  · exact (hE2.trans hE3)
  exact ⟨rfl, rfl⟩
theorem Rdec1_call' (x : Int) (h : 0 ≤ x ∧ x < 1000) : CallS Tryd.prog 31 #[.int .i64 x] E L (fun r E' L' => r = .string (S (dec x)) ∧ L' = L) := by
  by_cases h1 : x < 10
  · exact Rdec1_call E L x ⟨h.1, h1⟩
  · by_cases h2 : x < 100
    · exact Rdec2_call E L x ⟨by omega, h2⟩
    · exact Rdec3_call E L x ⟨by omega, h.2⟩
theorem RText_call (p : Option Addr) (n c : Nat) (l : List Spt) (hs : SlE E 2 p n (spC l)) (hn : n ≤ 9223372036854775807) :
    CallS Tryd.prog 14 #[.slice p n c] E L (fun r E' L' => r = .tuple #[.string (S (txtM l).1), .int .i64 (txtM l).2] ∧ L' = L) := by
  have en := hs.nSp
  subst en
  unfold txtM
  by_cases h64 : 64 < l.length
  · rw [if_pos h64]
    refine CallS.intro (l := [_]) _ Tryd.func14 rfl Tryd.ntmps14 rfl ?_
    refine G_seq (G_region ?_)
    refine Ga ?_
    refine Ga ?_
    refine G_end (X_then (G_seq (G_seq (G_region ?_))))
    refine Gm ?_
    refine Gv (V_lenS rfl rfl) ?_
    refine Gv (V_gtr rfl rfl rfl) ?_
    refine G_end (X_then ?_)
    refine G_cond_t rfl (decide_eq_true (by omega)) ?_
    refine G_seq (G_region ?_)
    refine Ga ?_
    refine Ga ?_
    refine G_end (X_then (G_ret (X_then_ret ?_)))
    refine G_leaveS (.nil _) (by exact (.cons (.tmp rfl) (.cons (.tmp rfl) (.nil)))) rfl ?_ ?_
    · exact (.refl _)
    exact ⟨(by kernel_rfl), rfl⟩
  rw [if_neg h64]
  refine CallS.intro (l := [_]) _ Tryd.func14 rfl Tryd.ntmps14 rfl ?_
  refine G_seq (G_region ?_)
  refine Ga ?_
  refine Ga ?_
  refine G_end (X_then (G_seq (G_seq (G_region ?_))))
  refine Gm ?_
  refine Gv (V_lenS rfl rfl) ?_
  refine Gv (V_gtr rfl rfl rfl) ?_
  refine G_end (X_then ?_)
  refine G_cond_f rfl (decide_eq_false (by omega)) ?_
  refine G_skip (X_then (G_seq (G_region ?_)))
  refine Ga ?_
  refine G_end (X_then (G_seq (G_seq (G_region ?_))))
  refine Ga ?_
  refine G_end (X_then (G_block ?_))
  refine G_loop (α := Nat × Env) (fun x => [(0, .slice p l.length c), (4, .string (S (jnS ((l.take x.1).map spT)))), (5, .int .i64 x.1)]) (fun x => x.2) (fun _ => L)
    (fun x => E.Le x.2 ∧ x.1 ≤ l.length ∧ txtE l = txtE (l.drop x.1)) (fun x => l.length - x.1) (0, E) ⟨.refl _, Nat.zero_le _, rfl⟩ ⟨rfl, rfl, rfl, trivial⟩ rfl rfl ?_
  rintro ⟨i, E1⟩ ⟨hE, hi, hst⟩
  simp only at hE hi hst ⊢
  replace hs := hs.mono hE
  have hjl := jn_len ((l.take i).map spT) (fun w hw => by obtain ⟨s, _, rfl⟩ := List.mem_map.1 hw; exact spT_len s)
  have hmt : ((l.take i).map spT).length = i := by rw [List.length_map, List.length_take]; omega
  rw [hmt] at hjl
  by_cases hlt : i < l.length
  · have hx := List.getElem?_eq_getElem hlt
    have hcat : jnS ((l.take (i + 1)).map spT) = (if 0 < i then jnS ((l.take i).map spT) ++ [32] else jnS ((l.take i).map spT)) ++ dec l[i].1 ++ [58] ++ dec l[i].2 := by
      rw [List.take_succ_eq_append_getElem hlt, List.map_append, List.map_cons, List.map_nil]
      by_cases h0 : 0 < i
      · rw [if_pos h0, jnS_snoc _ _ (by intro e; have := congrArg List.length e; rw [hmt] at this; simp at this; omega)]
        simp [spT]
      · obtain rfl : i = 0 := by omega
        simp [jnS, spT]
    rw [txtE_drop hx] at hst
    generalize l[i] = s at *
    obtain ⟨sp, sd⟩ := s
    simp only at hcat
    have z1 : (spC l)[((i : Nat) : Int).toNat * 2]? = some (.int .i64 sp) := by rw [Int.toNat_natCast]; exact spC_fst hx
    have z2 : (spC l)[((i : Nat) : Int).toNat * 2 + 1]? = some (.int .i64 sd) := by rw [Int.toNat_natCast]; exact spC_snd hx
    by_cases hb : badT (sp, sd)
    · rw [if_pos hb] at hst
      rw [if_pos (by omega)]
      simp only [badT] at hb
      by_cases c1 : sp < 0
      · refine G_seq ?_
        refine G_seq (G_region ?_)
        refine Gm ?_
        refine Gm ?_
        refine Gv (V_lenS rfl rfl) ?_
        refine Gv (V_lss rfl rfl rfl) ?_
        refine G_end (X_then ?_)
        refine G_cond_t rfl (decide_eq_true (by omega)) ?_
        refine G_skip (X_then (G_seq (G_block (G_seq (G_seq (G_region ?_))))))
        refine Gm ?_
        refine Gm ?_
        refine Gv (V_idxAddr rfl rfl rfl (SlE.rd (by assumption)) (by omega) (by omega)) ?_
        refine Gv (V_fieldAddrE rfl rfl (by assumption) (by omega) (by decide)) ?_
        refine Gv (V_loadS rfl rfl (SlE.rd (by assumption)) z1 (by simp)) ?_
        refine Gv (V_lss rfl rfl rfl) ?_
        refine Gm ?_
        refine G.bool_t 21 rfl (decide_eq_true (by omega)) ?_
        refine Gn ?_
        refine Gn ?_
        refine Gn ?_
        refine Gn ?_
        refine Gn ?_
        refine Gn ?_
        refine Gv (V_pick_t rfl rfl rfl) ?_
        refine Gm ?_
        refine Gn ?_
        refine Gn ?_
        refine Gn ?_
        refine Gn ?_
        refine Gn ?_
        refine Gn ?_
        refine Gv (V_pick_t rfl rfl rfl) ?_
        refine Gm ?_
        refine Gn ?_
        refine Gn ?_
        refine Gn ?_
        refine Gn ?_
        refine Gn ?_
        refine Gn ?_
        refine Gv (V_pick_t rfl rfl rfl) ?_
        refine G_end (X_then ?_)
        refine G_cond_t rfl rfl ?_
        refine G_seq (G_region ?_)
        refine Ga ?_
        refine Ga ?_
        refine G_end (X_then (G_ret (X_then_ret (X_block_ret (X_then_ret (X_then_ret (X_block_ret (X_then_ret ?_))))))))
        refine G_leaveS (.nil _) (by exact (.cons (.tmp rfl) (.cons (.tmp rfl) (.nil)))) rfl ?_ ?_
        · exact hE
        exact ⟨(by kernel_rfl), rfl⟩
      by_cases c2 : 999 < sp
      · refine G_seq ?_
        refine G_seq (G_region ?_)
        refine Gm ?_
        refine Gm ?_
        refine Gv (V_lenS rfl rfl) ?_
        refine Gv (V_lss rfl rfl rfl) ?_
        refine G_end (X_then ?_)
        refine G_cond_t rfl (decide_eq_true (by omega)) ?_
        refine G_skip (X_then (G_seq (G_block (G_seq (G_seq (G_region ?_))))))
        refine Gm ?_
        refine Gm ?_
        refine Gv (V_idxAddr rfl rfl rfl (SlE.rd (by assumption)) (by omega) (by omega)) ?_
        refine Gv (V_fieldAddrE rfl rfl (by assumption) (by omega) (by decide)) ?_
        refine Gv (V_loadS rfl rfl (SlE.rd (by assumption)) z1 (by simp)) ?_
        refine Gv (V_lss rfl rfl rfl) ?_
        refine Gm ?_
        refine G.bool_f 21 rfl (decide_eq_false (by omega)) ?_
        refine Gy (V_move rfl rfl) ?_
        refine Gy (V_move rfl rfl) ?_
        refine Gy (V_idxAddr rfl rfl rfl (SlE.rd (by assumption)) (by omega) (by omega)) ?_
        refine Gy (V_fieldAddrE rfl rfl (by assumption) (by omega) (by decide)) ?_
        refine Gy (V_loadS rfl rfl (SlE.rd (by assumption)) z1 (by simp)) ?_
        refine Gy (V_gtr rfl rfl rfl) ?_
        refine Gv (V_pick_f rfl rfl rfl) ?_
        refine Gm ?_
        refine G.bool_t 29 rfl (decide_eq_true (by omega)) ?_
        refine Gn ?_
        refine Gn ?_
        refine Gn ?_
        refine Gn ?_
        refine Gn ?_
        refine Gn ?_
        refine Gv (V_pick_t rfl rfl rfl) ?_
        refine Gm ?_
        refine Gn ?_
        refine Gn ?_
        refine Gn ?_
        refine Gn ?_
        refine Gn ?_
        refine Gn ?_
        refine Gv (V_pick_t rfl rfl rfl) ?_
        refine G_end (X_then ?_)
        refine G_cond_t rfl rfl ?_
        refine G_seq (G_region ?_)
        refine Ga ?_
        refine Ga ?_
        refine G_end (X_then (G_ret (X_then_ret (X_block_ret (X_then_ret (X_then_ret (X_block_ret (X_then_ret ?_))))))))
        refine G_leaveS (.nil _) (by exact (.cons (.tmp rfl) (.cons (.tmp rfl) (.nil)))) rfl ?_ ?_
        · exact hE
        exact ⟨(by kernel_rfl), rfl⟩
      by_cases c3 : sd < 0
      · refine G_seq ?_
        refine G_seq (G_region ?_)
        refine Gm ?_
        refine Gm ?_
        refine Gv (V_lenS rfl rfl) ?_
        refine Gv (V_lss rfl rfl rfl) ?_
        refine G_end (X_then ?_)
        refine G_cond_t rfl (decide_eq_true (by omega)) ?_
        refine G_skip (X_then (G_seq (G_block (G_seq (G_seq (G_region ?_))))))
        refine Gm ?_
        refine Gm ?_
        refine Gv (V_idxAddr rfl rfl rfl (SlE.rd (by assumption)) (by omega) (by omega)) ?_
        refine Gv (V_fieldAddrE rfl rfl (by assumption) (by omega) (by decide)) ?_
        refine Gv (V_loadS rfl rfl (SlE.rd (by assumption)) z1 (by simp)) ?_
        refine Gv (V_lss rfl rfl rfl) ?_
        refine Gm ?_
        refine G.bool_f 21 rfl (decide_eq_false (by omega)) ?_
        refine Gy (V_move rfl rfl) ?_
        refine Gy (V_move rfl rfl) ?_
        refine Gy (V_idxAddr rfl rfl rfl (SlE.rd (by assumption)) (by omega) (by omega)) ?_
        refine Gy (V_fieldAddrE rfl rfl (by assumption) (by omega) (by decide)) ?_
        refine Gy (V_loadS rfl rfl (SlE.rd (by assumption)) z1 (by simp)) ?_
        refine Gy (V_gtr rfl rfl rfl) ?_
        refine Gv (V_pick_f rfl rfl rfl) ?_
        refine Gm ?_
        refine G.bool_f 29 rfl (decide_eq_false (by omega)) ?_
        refine Gy (V_move rfl rfl) ?_
        refine Gy (V_move rfl rfl) ?_
        refine Gy (V_idxAddr rfl rfl rfl (SlE.rd (by assumption)) (by omega) (by omega)) ?_
        refine Gy (V_fieldAddrE rfl rfl (by assumption) (by omega) (by decide)) ?_
        refine Gy (V_loadS rfl rfl (SlE.rd (by assumption)) (by assumption) (by simp)) ?_
        refine Gy (V_lss rfl rfl rfl) ?_
        refine Gv (V_pick_f rfl rfl rfl) ?_
        refine Gm ?_
        refine G.bool_t 37 rfl (decide_eq_true (by omega)) ?_
        refine Gn ?_
        refine Gn ?_
        refine Gn ?_
        refine Gn ?_
        refine Gn ?_
        refine Gn ?_
        refine Gv (V_pick_t rfl rfl rfl) ?_
        refine G_end (X_then ?_)
        refine G_cond_t rfl rfl ?_
        refine G_seq (G_region ?_)
        refine Ga ?_
        refine Ga ?_
        refine G_end (X_then (G_ret (X_then_ret (X_block_ret (X_then_ret (X_then_ret (X_block_ret (X_then_ret ?_))))))))
        refine G_leaveS (.nil _) (by exact (.cons (.tmp rfl) (.cons (.tmp rfl) (.nil)))) rfl ?_ ?_
        · exact hE
        exact ⟨(by kernel_rfl), rfl⟩
      have c4 : 999 < sd := by omega
      refine G_seq (G_seq (G_region ?_))
      refine Gm ?_
      refine Gm ?_
      refine Gv (V_lenS rfl rfl) ?_
      refine Gv (V_lss rfl rfl rfl) ?_
      refine G_end (X_then ?_)
      refine G_cond_t rfl (decide_eq_true (by omega)) ?_
      refine G_skip (X_then (G_seq (G_block (G_seq (G_seq (G_region ?_))))))
      refine Gm ?_
      refine Gm ?_
      refine Gv (V_idxAddr rfl rfl rfl (SlE.rd (by assumption)) (by omega) (by omega)) ?_
      refine Gv (V_fieldAddrE rfl rfl (by assumption) (by omega) (by decide)) ?_
      refine Gv (V_loadS rfl rfl (SlE.rd (by assumption)) z1 (by simp)) ?_
      refine Gv (V_lss rfl rfl rfl) ?_
      refine Gm ?_
      refine G.bool_f 21 rfl (decide_eq_false (by omega)) ?_
      refine Gy (V_move rfl rfl) ?_
      refine Gy (V_move rfl rfl) ?_
      refine Gy (V_idxAddr rfl rfl rfl (SlE.rd (by assumption)) (by omega) (by omega)) ?_
      refine Gy (V_fieldAddrE rfl rfl (by assumption) (by omega) (by decide)) ?_
      refine Gy (V_loadS rfl rfl (SlE.rd (by assumption)) z1 (by simp)) ?_
      refine Gy (V_gtr rfl rfl rfl) ?_
      refine Gv (V_pick_f rfl rfl rfl) ?_
      refine Gm ?_
      refine G.bool_f 29 rfl (decide_eq_false (by omega)) ?_
      refine Gy (V_move rfl rfl) ?_
      refine Gy (V_move rfl rfl) ?_
      refine Gy (V_idxAddr rfl rfl rfl (SlE.rd (by assumption)) (by omega) (by omega)) ?_
      refine Gy (V_fieldAddrE rfl rfl (by assumption) (by omega) (by decide)) ?_
      refine Gy (V_loadS rfl rfl (SlE.rd (by assumption)) (by assumption) (by simp)) ?_
      refine Gy (V_lss rfl rfl rfl) ?_
      refine Gv (V_pick_f rfl rfl rfl) ?_
      refine Gm ?_
      refine G.bool_f 37 rfl (decide_eq_false (by omega)) ?_
      refine Gy (V_move rfl rfl) ?_
      refine Gy (V_move rfl rfl) ?_
      refine Gy (V_idxAddr rfl rfl rfl (SlE.rd (by assumption)) (by omega) (by omega)) ?_
      refine Gy (V_fieldAddrE rfl rfl (by assumption) (by omega) (by decide)) ?_
      refine Gy (V_loadS rfl rfl (SlE.rd (by assumption)) (by assumption) (by simp)) ?_
      refine Gy (V_gtr rfl rfl rfl) ?_
      refine Gv (V_pick_f rfl rfl rfl) ?_
      refine G_end (X_then ?_)
      refine G_cond_t rfl (decide_eq_true (by omega)) ?_
      refine G_seq (G_region ?_)
      refine Ga ?_
      refine Ga ?_
      refine G_end (X_then (G_ret (X_then_ret (X_block_ret (X_then_ret (X_then_ret (X_block_ret (X_then_ret ?_))))))))
      refine G_leaveS (.nil _) (by exact (.cons (.tmp rfl) (.cons (.tmp rfl) (.nil)))) rfl ?_ ?_
      · exact hE
      exact ⟨(by kernel_rfl), rfl⟩
    · rw [if_neg hb] at hst
      simp only [badT] at hb
      have l1 := dec_len sp
      have l2 := dec_len sd
      have hok : 0 ≤ sp ∧ sp < 1000 := by omega
      have hok2 : 0 ≤ sd ∧ sd < 1000 := by omega
      generalize jnS ((l.take i).map spT) = out at *
      by_cases h0 : 0 < i
      · rw [if_pos h0] at hcat
        have hol : (out ++ [(32 : UInt8)]).length = out.length + 1 := by simp
        refine G_seq (G_seq (G_region ?_))
        refine Gm ?_
        refine Gm ?_
        refine Gv (V_lenS rfl rfl) ?_
        refine Gv (V_lss rfl rfl rfl) ?_
        refine G_end (X_then ?_)
        refine G_cond_t rfl (decide_eq_true (by omega)) ?_
        refine G_skip (X_then (G_seq (G_block (G_seq (G_seq (G_region ?_))))))
        refine Gm ?_
        refine Gm ?_
        refine Gv (V_idxAddr rfl rfl rfl (SlE.rd (by assumption)) (by omega) (by omega)) ?_
        refine Gv (V_fieldAddrE rfl rfl (by assumption) (by omega) (by decide)) ?_
        refine Gv (V_loadS rfl rfl (SlE.rd (by assumption)) z1 (by simp)) ?_
        refine Gv (V_lss rfl rfl rfl) ?_
        refine Gm ?_
        refine G.bool_f 21 rfl (decide_eq_false (by omega)) ?_
        refine Gy (V_move rfl rfl) ?_
        refine Gy (V_move rfl rfl) ?_
        refine Gy (V_idxAddr rfl rfl rfl (SlE.rd (by assumption)) (by omega) (by omega)) ?_
        refine Gy (V_fieldAddrE rfl rfl (by assumption) (by omega) (by decide)) ?_
        refine Gy (V_loadS rfl rfl (SlE.rd (by assumption)) z1 (by simp)) ?_
        refine Gy (V_gtr rfl rfl rfl) ?_
        refine Gv (V_pick_f rfl rfl rfl) ?_
        refine Gm ?_
        refine G.bool_f 29 rfl (decide_eq_false (by omega)) ?_
        refine Gy (V_move rfl rfl) ?_
        refine Gy (V_move rfl rfl) ?_
        refine Gy (V_idxAddr rfl rfl rfl (SlE.rd (by assumption)) (by omega) (by omega)) ?_
        refine Gy (V_fieldAddrE rfl rfl (by assumption) (by omega) (by decide)) ?_
        refine Gy (V_loadS rfl rfl (SlE.rd (by assumption)) (by assumption) (by simp)) ?_
        refine Gy (V_lss rfl rfl rfl) ?_
        refine Gv (V_pick_f rfl rfl rfl) ?_
        refine Gm ?_
        refine G.bool_f 37 rfl (decide_eq_false (by omega)) ?_
        refine Gy (V_move rfl rfl) ?_
        refine Gy (V_move rfl rfl) ?_
        refine Gy (V_idxAddr rfl rfl rfl (SlE.rd (by assumption)) (by omega) (by omega)) ?_
        refine Gy (V_fieldAddrE rfl rfl (by assumption) (by omega) (by decide)) ?_
        refine Gy (V_loadS rfl rfl (SlE.rd (by assumption)) (by assumption) (by simp)) ?_
        refine Gy (V_gtr rfl rfl rfl) ?_
        refine Gv (V_pick_f rfl rfl rfl) ?_
        refine G_end (X_then ?_)
        refine G_cond_f rfl (decide_eq_false (by omega)) ?_
        refine G_skip (X_then (G_seq (G_seq (G_region ?_))))
        refine Gm ?_
        refine Gv (V_gtr rfl rfl rfl) ?_
        refine G_end (X_then ?_)
        refine G_cond_t rfl (decide_eq_true (by omega)) ?_
        refine G_region ?_
        refine Gm ?_
        refine Gv (V_cat rfl rfl rfl (by simp; omega)) ?_
        refine Ga ?_
        refine G_end (X_then ?_)
        refine G_drawX 16 [(0, 0), (1, 0), (2, 0), (3, 1), (4, 0), (5, 1), (9, 0), (10, 0), (11, 1), (12, 0), (13, 1), (6, 3), (7, 0), (8, 0), (14, 3), (15, 0)] mixed (by kernel_rfl) ?_
        refine F_pure rfl (fun _ _ => V_move rfl rfl) rfl rfl (.none rfl) ?_
        refine F_pure rfl (fun _ _ => V_move rfl rfl) rfl rfl (.none rfl) ?_
        refine F_pure rfl (fun _ _ => V_move rfl rfl) rfl rfl (.none rfl) ?_
        refine F_loadE rfl (V_idxAddr rfl rfl rfl (SlE.rd (by assumption)) (by omega) (by omega)) rfl rfl (.none rfl) ?_
        refine F_pure rfl (fun _ _ => V_fieldAddrX rfl rfl (by assumption) (by omega) (by decide)) rfl rfl (.none rfl) ?_
        refine F_loadE rfl (V_loadS rfl rfl (SlE.rd (by assumption)) z1 (by simp)) rfl rfl (.none rfl) ?_
        refine F_pure rfl (fun _ _ => V_move rfl rfl) rfl rfl (.none rfl) ?_
        refine F_pure rfl (fun _ _ => V_move rfl rfl) rfl rfl (.none rfl) ?_
        refine F_loadE rfl (V_idxAddr rfl rfl rfl (SlE.rd (by assumption)) (by omega) (by omega)) rfl rfl (.none rfl) ?_
        refine F_pure rfl (fun _ _ => V_fieldAddrX rfl rfl (by assumption) (by omega) (by decide)) rfl rfl (.none rfl) ?_
        refine F_loadE rfl (V_loadS rfl rfl (SlE.rd (by assumption)) (by assumption) (by simp)) rfl rfl (.none rfl) ?_
        apply F_call (k := 31) rfl (.mk rfl rfl rfl rfl) rfl rfl (.none rfl)
        · (intro L0; refine CallS.mono (Rdec1_call' _ _ _ (by assumption)) ?_; exact fun _ _ _ _ h => h)
        · (rintro L0 r E' L' ⟨rfl, rfl⟩; exact ⟨rfl, ⟨rfl, rfl⟩⟩)
        rintro r1 E2 hE3 ⟨rfl, _⟩
        replace hs := hs.mono hE3
        refine F_pure rfl (fun _ _ => V_cat rfl rfl rfl (by simp; omega)) rfl rfl (.none rfl) ?_
        refine F_pure rfl (fun _ _ => V_cat rfl rfl rfl (by simp; omega)) rfl rfl (.none rfl) ?_
        apply F_call (k := 31) rfl (.mk rfl rfl rfl rfl) rfl rfl (.none rfl)
        · (intro L0; refine CallS.mono (Rdec1_call' _ _ _ (by assumption)) ?_; exact fun _ _ _ _ h => h)
        · (rintro L0 r E' L' ⟨rfl, rfl⟩; exact ⟨rfl, ⟨rfl, rfl⟩⟩)
        rintro r4 E5 hE6 ⟨rfl, _⟩
        replace hs := hs.mono hE6
        refine F_pure rfl (fun _ _ => V_cat rfl rfl rfl (by simp; omega)) rfl rfl (.none rfl) ?_
        (refine F_end (.nil _) ?_; dsimp only [List.drop])
        refine Ga ?_
        refine G_end (X_block (X_then (G_region ?_)))
        refine Gm ?_
        refine Gv (V_add_i64 rfl rfl rfl (by omega) (by omega)) ?_
        refine Ga ?_
        refine G_end (X_then ?_)
        rw [← hcat]
        exact G_again (i + 1, E5) ⟨(by repeat (first | assumption | refine Env.Le.trans (by assumption) ?_)), hlt, hst⟩ (by simp only; omega) ⟨rfl, rfl, rfl, trivial⟩ rfl rfl
      · rw [if_neg h0] at hcat
        refine G_seq (G_seq (G_region ?_))
        refine Gm ?_
        refine Gm ?_
        refine Gv (V_lenS rfl rfl) ?_
        refine Gv (V_lss rfl rfl rfl) ?_
        refine G_end (X_then ?_)
        refine G_cond_t rfl (decide_eq_true (by omega)) ?_
        refine G_skip (X_then (G_seq (G_block (G_seq (G_seq (G_region ?_))))))
        refine Gm ?_
        refine Gm ?_
        refine Gv (V_idxAddr rfl rfl rfl (SlE.rd (by assumption)) (by omega) (by omega)) ?_
        refine Gv (V_fieldAddrE rfl rfl (by assumption) (by omega) (by decide)) ?_
        refine Gv (V_loadS rfl rfl (SlE.rd (by assumption)) z1 (by simp)) ?_
        refine Gv (V_lss rfl rfl rfl) ?_
        refine Gm ?_
        refine G.bool_f 21 rfl (decide_eq_false (by omega)) ?_
        refine Gy (V_move rfl rfl) ?_
        refine Gy (V_move rfl rfl) ?_
        refine Gy (V_idxAddr rfl rfl rfl (SlE.rd (by assumption)) (by omega) (by omega)) ?_
        refine Gy (V_fieldAddrE rfl rfl (by assumption) (by omega) (by decide)) ?_
        refine Gy (V_loadS rfl rfl (SlE.rd (by assumption)) z1 (by simp)) ?_
        refine Gy (V_gtr rfl rfl rfl) ?_
        refine Gv (V_pick_f rfl rfl rfl) ?_
        refine Gm ?_
        refine G.bool_f 29 rfl (decide_eq_false (by omega)) ?_
        refine Gy (V_move rfl rfl) ?_
        refine Gy (V_move rfl rfl) ?_
        refine Gy (V_idxAddr rfl rfl rfl (SlE.rd (by assumption)) (by omega) (by omega)) ?_
        refine Gy (V_fieldAddrE rfl rfl (by assumption) (by omega) (by decide)) ?_
        refine Gy (V_loadS rfl rfl (SlE.rd (by assumption)) (by assumption) (by simp)) ?_
        refine Gy (V_lss rfl rfl rfl) ?_
        refine Gv (V_pick_f rfl rfl rfl) ?_
        refine Gm ?_
        refine G.bool_f 37 rfl (decide_eq_false (by omega)) ?_
        refine Gy (V_move rfl rfl) ?_
        refine Gy (V_move rfl rfl) ?_
        refine Gy (V_idxAddr rfl rfl rfl (SlE.rd (by assumption)) (by omega) (by omega)) ?_
        refine Gy (V_fieldAddrE rfl rfl (by assumption) (by omega) (by decide)) ?_
        refine Gy (V_loadS rfl rfl (SlE.rd (by assumption)) (by assumption) (by simp)) ?_
        refine Gy (V_gtr rfl rfl rfl) ?_
        refine Gv (V_pick_f rfl rfl rfl) ?_
        refine G_end (X_then ?_)
        refine G_cond_f rfl (decide_eq_false (by omega)) ?_
        refine G_skip (X_then (G_seq (G_seq (G_region ?_))))
        refine Gm ?_
        refine Gv (V_gtr rfl rfl rfl) ?_
        refine G_end (X_then ?_)
        refine G_cond_f rfl (decide_eq_false (by omega)) ?_
        refine G_skip (X_then ?_)
        refine G_drawX 16 [(0, 0), (1, 0), (2, 0), (3, 1), (4, 0), (5, 1), (9, 0), (10, 0), (11, 1), (12, 0), (13, 1), (6, 3), (7, 0), (8, 0), (14, 3), (15, 0)] mixed (by kernel_rfl) ?_
        refine F_pure rfl (fun _ _ => V_move rfl rfl) rfl rfl (.none rfl) ?_
        refine F_pure rfl (fun _ _ => V_move rfl rfl) rfl rfl (.none rfl) ?_
        refine F_pure rfl (fun _ _ => V_move rfl rfl) rfl rfl (.none rfl) ?_
        refine F_loadE rfl (V_idxAddr rfl rfl rfl (SlE.rd (by assumption)) (by omega) (by omega)) rfl rfl (.none rfl) ?_
        refine F_pure rfl (fun _ _ => V_fieldAddrX rfl rfl (by assumption) (by omega) (by decide)) rfl rfl (.none rfl) ?_
        refine F_loadE rfl (V_loadS rfl rfl (SlE.rd (by assumption)) z1 (by simp)) rfl rfl (.none rfl) ?_
        refine F_pure rfl (fun _ _ => V_move rfl rfl) rfl rfl (.none rfl) ?_
        refine F_pure rfl (fun _ _ => V_move rfl rfl) rfl rfl (.none rfl) ?_
        refine F_loadE rfl (V_idxAddr rfl rfl rfl (SlE.rd (by assumption)) (by omega) (by omega)) rfl rfl (.none rfl) ?_
        refine F_pure rfl (fun _ _ => V_fieldAddrX rfl rfl (by assumption) (by omega) (by decide)) rfl rfl (.none rfl) ?_
        refine F_loadE rfl (V_loadS rfl rfl (SlE.rd (by assumption)) (by assumption) (by simp)) rfl rfl (.none rfl) ?_
        apply F_call (k := 31) rfl (.mk rfl rfl rfl rfl) rfl rfl (.none rfl)
        · (intro L0; refine CallS.mono (Rdec1_call' _ _ _ (by assumption)) ?_; exact fun _ _ _ _ h => h)
        · (rintro L0 r E' L' ⟨rfl, rfl⟩; exact ⟨rfl, ⟨rfl, rfl⟩⟩)
        rintro r1 E2 hE3 ⟨rfl, _⟩
        replace hs := hs.mono hE3
        refine F_pure rfl (fun _ _ => V_cat rfl rfl rfl (by omega)) rfl rfl (.none rfl) ?_
        refine F_pure rfl (fun _ _ => V_cat rfl rfl rfl (by simp; omega)) rfl rfl (.none rfl) ?_
        apply F_call (k := 31) rfl (.mk rfl rfl rfl rfl) rfl rfl (.none rfl)
        · (intro L0; refine CallS.mono (Rdec1_call' _ _ _ (by assumption)) ?_; exact fun _ _ _ _ h => h)
        · (rintro L0 r E' L' ⟨rfl, rfl⟩; exact ⟨rfl, ⟨rfl, rfl⟩⟩)
        rintro r4 E5 hE6 ⟨rfl, _⟩
        replace hs := hs.mono hE6
        refine F_pure rfl (fun _ _ => V_cat rfl rfl rfl (by simp; omega)) rfl rfl (.none rfl) ?_
        (refine F_end (.nil _) ?_; dsimp only [List.drop])
        refine Ga ?_
        refine G_end (X_block (X_then (G_region ?_)))
        refine Gm ?_
        refine Gv (V_add_i64 rfl rfl rfl (by omega) (by omega)) ?_
        refine Ga ?_
        refine G_end (X_then ?_)
        rw [← hcat]
        exact G_again (i + 1, E5) ⟨(by repeat (first | assumption | refine Env.Le.trans (by assumption) ?_)), hlt, hst⟩ (by simp only; omega) ⟨rfl, rfl, rfl, trivial⟩ rfl rfl
  · obtain rfl : i = l.length := by omega
    rw [List.drop_length] at hst
    rw [if_neg (by rw [hst]; simp [txtE]), List.take_length]
    by_cases h0 : l = []
    · have h00 : l.length = 0 := by rw [h0]; rfl
      rw [if_pos h0]
      refine G_seq (G_seq (G_region ?_))
      refine Gm ?_
      refine Gm ?_
      refine Gv (V_lenS rfl rfl) ?_
      refine Gv (V_lss rfl rfl rfl) ?_
      refine G_end (X_then ?_)
      refine G_cond_f rfl (decide_eq_false (by omega)) ?_
      refine G_exit (X_then_exit (X_then_exit (X_block_hit (X_then (G_seq (G_seq (G_region ?_)))))))
      refine Gm ?_
      refine Gv (V_lenS rfl rfl) ?_
      refine Gv (V_eql rfl rfl rfl) ?_
      refine G_end (X_then ?_)
      refine G_cond_t rfl (decide_eq_true (by omega)) ?_
      refine G_region ?_
      refine Ga ?_
      refine G_end (X_then (G_seq (G_region ?_)))
      refine Gm ?_
      refine Ga ?_
      refine Ga ?_
      refine G_end (X_then (G_ret ?_))
      refine G_leaveS (.nil _) (by exact (.cons (.tmp rfl) (.cons (.tmp rfl) (.nil)))) rfl ?_ ?_
      · exact hE
      exact ⟨(by kernel_rfl), rfl⟩
    · have h00 : 0 < l.length := List.length_pos_iff.2 h0
      rw [if_neg h0]
      refine G_seq (G_seq (G_region ?_))
      refine Gm ?_
      refine Gm ?_
      refine Gv (V_lenS rfl rfl) ?_
      refine Gv (V_lss rfl rfl rfl) ?_
      refine G_end (X_then ?_)
      refine G_cond_f rfl (decide_eq_false (by omega)) ?_
      refine G_exit (X_then_exit (X_then_exit (X_block_hit (X_then (G_seq (G_seq (G_region ?_)))))))
      refine Gm ?_
      refine Gv (V_lenS rfl rfl) ?_
      refine Gv (V_eql rfl rfl rfl) ?_
      refine G_end (X_then ?_)
      refine G_cond_f rfl (decide_eq_false (by omega)) ?_
      refine G_skip (X_then (G_seq (G_region ?_)))
      refine Gm ?_
      refine Ga ?_
      refine Ga ?_
      refine G_end (X_then (G_ret ?_))
      refine G_leaveS (.nil _) (by exact (.cons (.tmp rfl) (.cons (.tmp rfl) (.nil)))) rfl ?_ ?_
      · exact hE
      exact ⟨rfl, rfl⟩
end
end Go.Proofs.YtaibabmladgldaaDoor
set_option linter.unusedSimpArgs false
set_option linter.unusedVariables false
set_option maxHeartbeats 2000000
set_option maxRecDepth 20000
namespace Go.Proofs.YtaibabmladgldaaDoor
open Go.RowKit
/-! stack.Check. -/
theorem wantS_drop {ps : List Pr} {l : List Spt} {k : Nat} {s : Spt} (h : l[k]? = some s) (w : Int) : stk ps w (l.drop k) = if outS ps s then 2 else if leftP ps s.1 ≠ w then 9 else stk ps (nextS ps s) (l.drop (k + 1)) := by
  rw [List.drop_eq_getElem_cons (List.getElem?_eq_some_iff.1 h).1, (List.getElem?_eq_some_iff.1 h).2]
  rfl
section
variable (E : Env) (L : List Res)
theorem SCheck_call (gv : Value) (g : Gr) (hg : GrE E gv g) (hl : Light g) (p : Option Addr) (n c : Nat) (l : List Spt) (hs : SlE E 2 p n (spC l)) (hn : n ≤ 9223372036854775807) : CallV Tryd.prog 26 #[gv, .slice p n c] E L (.int .i64 (chkS g l)) := by
  have en := hs.nSp
  subst en
  have hg0 := hg
  obtain ⟨tp, tc, np, nc, pp, pc, rfl, ht, hn', ⟨rows, hrows, hps, hre⟩, k1, k2, k3⟩ := hg
  have hlen : g.prods.length = rows.length := by rw [← hrows]; simp
  have q3 := hl.p
  unfold chkS
  by_cases h0 : gcheck g ≠ 0
  · rw [if_pos h0]
    have hc := GCheck_call E
    generalize hr : gcheck g = r at h0 ⊢
    refine CallS.toV (CallS.intro (l := [_, _]) _ Tryd.func26 rfl Tryd.ntmps26 rfl ?_)
    refine G_seq (G_region ?_)
    (refine G_boxA rfl rfl rfl rfl (.none rfl) ?_; intro b2)
    (refine G_alloc rfl rfl rfl (.none rfl) ?_; intro b4)
    refine G_end (X_then (G_seq (G_seq (G_region ?_))))
    refine Gv (V_loadA rfl rfl (Cells.own (.tail _ (.head _))) rfl) ?_
    refine G_callv (k := 36) (.mk rfl rfl rfl rfl) rfl rfl (.none rfl) (GCheck_call _ _ _ g hg0 hl) ?_
    rw [hr]
    refine Ga ?_
    refine G_end (X_then (G_seq (G_region ?_)))
    refine Gm ?_
    refine Gv (V_neq rfl rfl rfl) ?_
    refine G_end (X_then ?_)
    refine G_cond_t rfl (decide_eq_true (by omega)) ?_
    refine G_seq (G_region ?_)
    refine Gm ?_
    refine G_store1 rfl rfl rfl rfl rfl rfl (.none rfl) (.head _ _ _) ?_
    refine G_end (X_then (G_ret (X_then_ret ?_)))
    refine G_leaveS (.drop _ (.drop _ (.nil _))) (by exact (.cons (.cell1 rfl (Cell.own1 (.head _))) (.nil))) rfl ?_ ?_
    · exact (.refl _)
    exact ⟨rfl, rfl⟩
  rw [if_neg h0]
  have h1 : gcheck g = 0 := by omega
  by_cases h64 : 64 < l.length
  · rw [if_pos h64]
    refine CallS.toV (CallS.intro (l := [_, _]) _ Tryd.func26 rfl Tryd.ntmps26 rfl ?_)
    refine G_seq (G_region ?_)
    (refine G_boxA rfl rfl rfl rfl (.none rfl) ?_; intro b2)
    (refine G_alloc rfl rfl rfl (.none rfl) ?_; intro b4)
    refine G_end (X_then (G_seq (G_seq (G_region ?_))))
    refine Gv (V_loadA rfl rfl (Cells.own (.tail _ (.head _))) rfl) ?_
    refine G_callv (k := 36) (.mk rfl rfl rfl rfl) rfl rfl (.none rfl) (GCheck_call _ _ _ g hg0 hl) ?_
    rw [h1]
    refine Ga ?_
    refine G_end (X_then (G_seq (G_region ?_)))
    refine Gm ?_
    refine Gv (V_neq rfl rfl rfl) ?_
    refine G_end (X_then ?_)
    refine G_cond_f rfl (by kernel_rfl) ?_
    refine G_skip (X_then (G_seq (G_seq (G_region ?_))))
    refine Gm ?_
    refine Gv (V_lenS rfl rfl) ?_
    refine Gv (V_gtr rfl rfl rfl) ?_
    refine G_end (X_then ?_)
    refine G_cond_t rfl (decide_eq_true (by omega)) ?_
    refine G_seq (G_region ?_)
    refine G_store1 rfl rfl rfl rfl rfl rfl (.none rfl) (.head _ _ _) ?_
    refine G_end (X_then (G_ret (X_then_ret ?_)))
    refine G_leaveS (.drop _ (.drop _ (.nil _))) (by exact (.cons (.cell1 rfl (Cell.own1 (.head _))) (.nil))) rfl ?_ ?_
    · exact (.refl _)
    exact ⟨(by kernel_rfl), rfl⟩
  rw [if_neg h64]
  refine CallS.toV (CallS.intro (l := [_, _]) _ Tryd.func26 rfl Tryd.ntmps26 rfl ?_)
  refine G_seq (G_region ?_)
  (refine G_boxA rfl rfl rfl rfl (.none rfl) ?_; intro b2)
  (refine G_alloc rfl rfl rfl (.none rfl) ?_; intro b4)
  refine G_end (X_then (G_seq (G_seq (G_region ?_))))
  refine Gv (V_loadA rfl rfl (Cells.own (.tail _ (.head _))) rfl) ?_
  refine G_callv (k := 36) (.mk rfl rfl rfl rfl) rfl rfl (.none rfl) (GCheck_call _ _ _ g hg0 hl) ?_
  rw [h1]
  refine Ga ?_
  refine G_end (X_then (G_seq (G_region ?_)))
  refine Gm ?_
  refine Gv (V_neq rfl rfl rfl) ?_
  refine G_end (X_then ?_)
  refine G_cond_f rfl (by kernel_rfl) ?_
  refine G_skip (X_then (G_seq (G_seq (G_region ?_))))
  refine Gm ?_
  refine Gv (V_lenS rfl rfl) ?_
  refine Gv (V_gtr rfl rfl rfl) ?_
  refine G_end (X_then ?_)
  refine G_cond_f rfl (decide_eq_false (by omega)) ?_
  refine G_skip (X_then (G_seq (G_region ?_)))
  refine Gv (V_fieldAddr rfl rfl (by decide)) ?_
  refine Gv (V_load rfl rfl (Cell.own (.tail _ (.head _)) rfl)) ?_
  (refine G_alloc rfl rfl rfl (.none rfl) ?_; intro b6)
  refine G_store1 rfl rfl rfl rfl rfl rfl (.none rfl) (.head _ _ _) ?_
  refine G_end (X_then (G_seq (G_seq (G_region ?_))))
  refine Gm ?_
  refine G_call (k := 27) (.mk rfl rfl rfl rfl) rfl rfl (.none rfl) (spots_call _ _ _ _ _) ?_
  rintro r1 E2 L3 hE4 ⟨z5, ⟨rfl, ⟨rfl, rfl⟩⟩⟩
  replace hs := hs.mono hE4
  replace hg0 := hg0.mono hE4
  replace ht := ht.mono hE4
  replace hn' := hn'.mono hE4
  replace hps := hps.mono hE4
  replace hre := hre.mono hE4
  refine G_end (X_then (G_block ?_))
  refine G_rangeI (σ := Int × Int) (enc := spEnc) rfl (iter_spots E z5 p _ c l hs (by omega)) (fun _ => E)
    (fun v => .blk b6 (.cells #[.int .i64 v.1] 3 (0, 0)) :: .blk b4 (.cells #[.int .i64 v.2] 33 (0, 0)) :: GB b2 g tp tc np nc pp pc :: L)
    (fun pre v => v.2 = 0 ∧ stk g.prods g.start l = stk g.prods v.1 (l.drop pre.length)) (fun q pre v => q = .ret ∧ v.2 = stk g.prods g.start l) (g.start, 0) ⟨rfl, rfl⟩ rfl (.refl _) rfl (fun _ => rfl) ?_ ?_ ?_
  · rintro y D tm fn M pre ⟨⟨sp, sd⟩, j⟩ ⟨w, e⟩ hpre ⟨rfl, hst⟩ hE
    obtain ⟨hx, hj, hlt⟩ := zip_pre hpre
    simp only at hx hj hst
    rw [wantS_drop hx w] at hst
    simp only [List.cons_append]
    dsimp only [spEnc]
    by_cases ho1 : sp < 0
    · rw [if_pos (by simp only [outS]; omega)] at hst
      refine G_region ?_
      (refine G_alloc rfl rfl rfl (.none rfl) ?_; intro b8)
      refine G_storeA rfl rfl rfl rfl (by simp [Value.oneCell']) rfl (.none rfl) (.head _ _ _) rfl ?_
      refine G_end (X_then ?_)
      refine G_begin (.tail _ (.head _ _ _)) ?_
      refine G_block (G_seq (G_seq ?_))
      refine G_draw mixed (by kernel_rfl) ?_
      refine Q_val (V_fieldAddr rfl rfl (by decide)) rfl rfl (.none rfl) ?_
      refine Q_val (V_load rfl rfl (Cell.own (.head _) rfl)) rfl rfl (.none rfl) ?_
      refine Q_val (V_lss rfl rfl rfl) rfl rfl (.none rfl) ?_
      refine Q_val (V_move rfl rfl) rfl rfl (.none rfl) ?_
      refine Q_bool_t 27 rfl (decide_eq_true (by omega)) ?_
      refine Q_stay (.no rfl rfl rfl rfl) rfl rfl ?_
      refine Q_stay (.no rfl rfl rfl rfl) rfl rfl ?_
      refine Q_stay (.no rfl rfl rfl rfl) rfl rfl ?_
      refine Q_stay (.no rfl rfl rfl rfl) rfl rfl ?_
      refine Q_stay (.no rfl rfl rfl rfl) rfl rfl ?_
      refine Q_stay (.no rfl rfl rfl rfl) rfl rfl ?_
      refine Q_val (V_pick_t rfl rfl rfl) rfl rfl (.none rfl) ?_
      refine Q_val (V_move rfl rfl) rfl rfl (.none rfl) ?_
      refine Q_stay (.no rfl rfl rfl rfl) rfl rfl ?_
      refine Q_stay (.no rfl rfl rfl rfl) rfl rfl ?_
      refine Q_stay (.no rfl rfl rfl rfl) rfl rfl ?_
      refine Q_val (V_pick_t rfl rfl rfl) rfl rfl (.none rfl) ?_
      refine Q_val (V_move rfl rfl) rfl rfl (.none rfl) ?_
      refine Q_stay (.no rfl rfl rfl rfl) rfl rfl ?_
      refine Q_stay (.no rfl rfl rfl rfl) rfl rfl ?_
      refine Q_stay (.no rfl rfl rfl rfl) rfl rfl ?_
      refine Q_stay (.no rfl rfl rfl rfl) rfl rfl ?_
      refine Q_stay (.no rfl rfl rfl rfl) rfl rfl ?_
      refine Q_stay (.no rfl rfl rfl rfl) rfl rfl ?_
      refine Q_stay (.no rfl rfl rfl rfl) rfl rfl ?_
      refine Q_stay (.no rfl rfl rfl rfl) rfl rfl ?_
      refine Q_stay (.no rfl rfl rfl rfl) rfl rfl ?_
      refine Q_stay (.no rfl rfl rfl rfl) rfl rfl ?_
      refine Q_stay (.no rfl rfl rfl rfl) rfl rfl ?_
      refine Q_val (V_pick_t rfl rfl rfl) rfl rfl (.none rfl) ?_
      refine Q_end ?_
      refine X_then ?_
      refine G_cond_t rfl rfl ?_
      refine G_seq (G_region ?_)
      refine G_store1 rfl rfl rfl rfl rfl rfl (.none rfl) (.tail _ (.tail _ (.tail _ (.tail _ (.head _ _ _))))) ?_
      refine G_end (X_then (G_ret (X_then_ret (X_block_ret ?_))))
      refine G.drop ?_
      exact G_rRet (w, 2) ⟨rfl, hst.symm⟩ rfl (.refl _) rfl
    by_cases ho2 : (g.prods.length : Int) ≤ sp
    · rw [if_pos (by simp only [outS]; omega)] at hst
      refine G_region ?_
      (refine G_alloc rfl rfl rfl (.none rfl) ?_; intro b8)
      refine G_storeA rfl rfl rfl rfl (by simp [Value.oneCell']) rfl (.none rfl) (.head _ _ _) rfl ?_
      refine G_end (X_then ?_)
      refine G_begin (.tail _ (.head _ _ _)) ?_
      refine G_block (G_seq (G_seq ?_))
      refine G_draw mixed (by kernel_rfl) ?_
      refine Q_val (V_fieldAddr rfl rfl (by decide)) rfl rfl (.none rfl) ?_
      refine Q_val (V_load rfl rfl (Cell.own (.head _) rfl)) rfl rfl (.none rfl) ?_
      refine Q_val (V_lss rfl rfl rfl) rfl rfl (.none rfl) ?_
      refine Q_val (V_move rfl rfl) rfl rfl (.none rfl) ?_
      refine Q_bool_f 27 rfl (decide_eq_false (by omega)) ?_
      refine Q_val (V_fieldAddr rfl rfl (by decide)) rfl rfl (.yes rfl rfl rfl rfl) ?_
      refine Q_val (V_load rfl rfl (Cell.own (.head _) rfl)) rfl rfl (.yes rfl rfl rfl rfl) ?_
      refine Q_val (V_fieldAddr rfl rfl (by decide)) rfl rfl (.yes rfl rfl rfl rfl) ?_
      refine Q_val (V_load rfl rfl (Cell.own (.tail _ (.tail _ (.tail _ (.tail _ (.tail _ (.head _)))))) rfl)) rfl rfl (.yes rfl rfl rfl rfl) ?_
      refine Q_val (V_lenS rfl rfl) rfl rfl (.yes rfl rfl rfl rfl) ?_
      refine Q_val (V_geq rfl rfl rfl) rfl rfl (.yes rfl rfl rfl rfl) ?_
      refine Q_val (V_pick_f rfl rfl rfl) rfl rfl (.none rfl) ?_
      refine Q_val (V_move rfl rfl) rfl rfl (.none rfl) ?_
      refine Q_bool_t 35 rfl (decide_eq_true (by omega)) ?_
      refine Q_stay (.no rfl rfl rfl rfl) rfl rfl ?_
      refine Q_stay (.no rfl rfl rfl rfl) rfl rfl ?_
      refine Q_stay (.no rfl rfl rfl rfl) rfl rfl ?_
      refine Q_val (V_pick_t rfl rfl rfl) rfl rfl (.none rfl) ?_
      refine Q_val (V_move rfl rfl) rfl rfl (.none rfl) ?_
      refine Q_stay (.no rfl rfl rfl rfl) rfl rfl ?_
      refine Q_stay (.no rfl rfl rfl rfl) rfl rfl ?_
      refine Q_stay (.no rfl rfl rfl rfl) rfl rfl ?_
      refine Q_stay (.no rfl rfl rfl rfl) rfl rfl ?_
      refine Q_stay (.no rfl rfl rfl rfl) rfl rfl ?_
      refine Q_stay (.no rfl rfl rfl rfl) rfl rfl ?_
      refine Q_stay (.no rfl rfl rfl rfl) rfl rfl ?_
      refine Q_stay (.no rfl rfl rfl rfl) rfl rfl ?_
      refine Q_stay (.no rfl rfl rfl rfl) rfl rfl ?_
      refine Q_stay (.no rfl rfl rfl rfl) rfl rfl ?_
      refine Q_stay (.no rfl rfl rfl rfl) rfl rfl ?_
      refine Q_val (V_pick_t rfl rfl rfl) rfl rfl (.none rfl) ?_
      refine Q_end ?_
      refine X_then ?_
      refine G_cond_t rfl rfl ?_
      refine G_seq (G_region ?_)
      refine G_store1 rfl rfl rfl rfl rfl rfl (.none rfl) (.tail _ (.tail _ (.tail _ (.tail _ (.head _ _ _))))) ?_
      refine G_end (X_then (G_ret (X_then_ret (X_block_ret ?_))))
      refine G.drop ?_
      exact G_rRet (w, 2) ⟨rfl, hst.symm⟩ rfl (.refl _) rfl
    by_cases ho3 : sd < 0
    · rw [if_pos (by simp only [outS]; omega)] at hst
      refine G_region ?_
      (refine G_alloc rfl rfl rfl (.none rfl) ?_; intro b8)
      refine G_storeA rfl rfl rfl rfl (by simp [Value.oneCell']) rfl (.none rfl) (.head _ _ _) rfl ?_
      refine G_end (X_then ?_)
      refine G_begin (.tail _ (.head _ _ _)) ?_
      refine G_block (G_seq (G_seq ?_))
      refine G_draw mixed (by kernel_rfl) ?_
      refine Q_val (V_fieldAddr rfl rfl (by decide)) rfl rfl (.none rfl) ?_
      refine Q_val (V_load rfl rfl (Cell.own (.head _) rfl)) rfl rfl (.none rfl) ?_
      refine Q_val (V_lss rfl rfl rfl) rfl rfl (.none rfl) ?_
      refine Q_val (V_move rfl rfl) rfl rfl (.none rfl) ?_
      refine Q_bool_f 27 rfl (decide_eq_false (by omega)) ?_
      refine Q_val (V_fieldAddr rfl rfl (by decide)) rfl rfl (.yes rfl rfl rfl rfl) ?_
      refine Q_val (V_load rfl rfl (Cell.own (.head _) rfl)) rfl rfl (.yes rfl rfl rfl rfl) ?_
      refine Q_val (V_fieldAddr rfl rfl (by decide)) rfl rfl (.yes rfl rfl rfl rfl) ?_
      refine Q_val (V_load rfl rfl (Cell.own (.tail _ (.tail _ (.tail _ (.tail _ (.tail _ (.head _)))))) rfl)) rfl rfl (.yes rfl rfl rfl rfl) ?_
      refine Q_val (V_lenS rfl rfl) rfl rfl (.yes rfl rfl rfl rfl) ?_
      refine Q_val (V_geq rfl rfl rfl) rfl rfl (.yes rfl rfl rfl rfl) ?_
      refine Q_val (V_pick_f rfl rfl rfl) rfl rfl (.none rfl) ?_
      refine Q_val (V_move rfl rfl) rfl rfl (.none rfl) ?_
      refine Q_bool_f 35 rfl (decide_eq_false (by omega)) ?_
      refine Q_val (V_fieldAddr rfl rfl (by decide)) rfl rfl (.yes rfl rfl rfl rfl) ?_
      refine Q_val (V_load rfl rfl (Cell.own (.head _) rfl)) rfl rfl (.yes rfl rfl rfl rfl) ?_
      refine Q_val (V_lss rfl rfl rfl) rfl rfl (.yes rfl rfl rfl rfl) ?_
      refine Q_val (V_pick_f rfl rfl rfl) rfl rfl (.none rfl) ?_
      refine Q_val (V_move rfl rfl) rfl rfl (.none rfl) ?_
      refine Q_bool_t 40 rfl (decide_eq_true (by omega)) ?_
      refine Q_stay (.no rfl rfl rfl rfl) rfl rfl ?_
      refine Q_stay (.no rfl rfl rfl rfl) rfl rfl ?_
      refine Q_stay (.no rfl rfl rfl rfl) rfl rfl ?_
      refine Q_stay (.no rfl rfl rfl rfl) rfl rfl ?_
      refine Q_stay (.no rfl rfl rfl rfl) rfl rfl ?_
      refine Q_stay (.no rfl rfl rfl rfl) rfl rfl ?_
      refine Q_stay (.no rfl rfl rfl rfl) rfl rfl ?_
      refine Q_stay (.no rfl rfl rfl rfl) rfl rfl ?_
      refine Q_stay (.no rfl rfl rfl rfl) rfl rfl ?_
      refine Q_stay (.no rfl rfl rfl rfl) rfl rfl ?_
      refine Q_stay (.no rfl rfl rfl rfl) rfl rfl ?_
      refine Q_val (V_pick_t rfl rfl rfl) rfl rfl (.none rfl) ?_
      refine Q_end ?_
      refine X_then ?_
      refine G_cond_t rfl rfl ?_
      refine G_seq (G_region ?_)
      refine G_store1 rfl rfl rfl rfl rfl rfl (.none rfl) (.tail _ (.tail _ (.tail _ (.tail _ (.head _ _ _))))) ?_
      refine G_end (X_then (G_ret (X_then_ret (X_block_ret ?_))))
      refine G.drop ?_
      exact G_rRet (w, 2) ⟨rfl, hst.symm⟩ rfl (.refl _) rfl
    obtain ⟨k, rfl⟩ : ∃ k : Nat, sp = k := ⟨sp.toNat, by omega⟩
    obtain ⟨d, rfl⟩ : ∃ d : Nat, sd = d := ⟨sd.toNat, by omega⟩
    have hk : k < rows.length := by omega
    have hrow := List.getElem?_eq_getElem hk
    have hpk : g.prods[k]? = some rows[k].2.2 := by rw [← hrows, List.getElem?_map, hrow]; rfl
    have hlf := leftP_eq hpk
    have hrt := rightP_eq hpk
    have x1 := prows_left hrow
    have x2 := prows_right hrow
    have x3 := prows_get hrow
    have x4 := hre.get hrow
    have hr8 : rows[k].2.2.2.length ≤ 8 := hl.ps rows[k].2.2 (List.mem_of_getElem? hpk)
    by_cases ho4 : (rows[k].2.2.2.length : Int) < d
    · rw [if_pos (by simp only [outS]; rw [hrt]; omega)] at hst
      refine G_region ?_
      (refine G_alloc rfl rfl rfl (.none rfl) ?_; intro b8)
      refine G_storeA rfl rfl rfl rfl (by simp [Value.oneCell']) rfl (.none rfl) (.head _ _ _) rfl ?_
      refine G_end (X_then ?_)
      refine G_begin (.tail _ (.head _ _ _)) ?_
      refine G_block (G_seq (G_seq ?_))
      refine G_draw mixed (by kernel_rfl) ?_
      refine Q_val (V_fieldAddr rfl rfl (by decide)) rfl rfl (.none rfl) ?_
      refine Q_val (V_load rfl rfl (Cell.own (.head _) rfl)) rfl rfl (.none rfl) ?_
      refine Q_val (V_lss rfl rfl rfl) rfl rfl (.none rfl) ?_
      refine Q_val (V_move rfl rfl) rfl rfl (.none rfl) ?_
      refine Q_bool_f 27 rfl (decide_eq_false (by omega)) ?_
      refine Q_val (V_fieldAddr rfl rfl (by decide)) rfl rfl (.yes rfl rfl rfl rfl) ?_
      refine Q_val (V_load rfl rfl (Cell.own (.head _) rfl)) rfl rfl (.yes rfl rfl rfl rfl) ?_
      refine Q_val (V_fieldAddr rfl rfl (by decide)) rfl rfl (.yes rfl rfl rfl rfl) ?_
      refine Q_val (V_load rfl rfl (Cell.own (.tail _ (.tail _ (.tail _ (.tail _ (.tail _ (.head _)))))) rfl)) rfl rfl (.yes rfl rfl rfl rfl) ?_
      refine Q_val (V_lenS rfl rfl) rfl rfl (.yes rfl rfl rfl rfl) ?_
      refine Q_val (V_geq rfl rfl rfl) rfl rfl (.yes rfl rfl rfl rfl) ?_
      refine Q_val (V_pick_f rfl rfl rfl) rfl rfl (.none rfl) ?_
      refine Q_val (V_move rfl rfl) rfl rfl (.none rfl) ?_
      refine Q_bool_f 35 rfl (decide_eq_false (by omega)) ?_
      refine Q_val (V_fieldAddr rfl rfl (by decide)) rfl rfl (.yes rfl rfl rfl rfl) ?_
      refine Q_val (V_load rfl rfl (Cell.own (.head _) rfl)) rfl rfl (.yes rfl rfl rfl rfl) ?_
      refine Q_val (V_lss rfl rfl rfl) rfl rfl (.yes rfl rfl rfl rfl) ?_
      refine Q_val (V_pick_f rfl rfl rfl) rfl rfl (.none rfl) ?_
      refine Q_val (V_move rfl rfl) rfl rfl (.none rfl) ?_
      refine Q_bool_f 40 rfl (decide_eq_false (by omega)) ?_
      refine Q_val (V_fieldAddr rfl rfl (by decide)) rfl rfl (.yes rfl rfl rfl rfl) ?_
      refine Q_val (V_load rfl rfl (Cell.own (.head _) rfl)) rfl rfl (.yes rfl rfl rfl rfl) ?_
      refine Q_val (V_fieldAddr rfl rfl (by decide)) rfl rfl (.yes rfl rfl rfl rfl) ?_
      refine Q_val (V_load rfl rfl (Cell.own (.tail _ (.tail _ (.tail _ (.tail _ (.tail _ (.head _)))))) rfl)) rfl rfl (.yes rfl rfl rfl rfl) ?_
      refine Q_val (V_fieldAddr rfl rfl (by decide)) rfl rfl (.yes rfl rfl rfl rfl) ?_
      refine Q_val (V_load rfl rfl (Cell.own (.head _) rfl)) rfl rfl (.yes rfl rfl rfl rfl) ?_
      refine Q_val (V_idxAddr rfl rfl rfl (SlE.rd (by assumption)) (by omega) (by omega)) rfl rfl (.yes rfl rfl rfl rfl) ?_
      refine Q_val (V_fieldAddrE rfl rfl (by assumption) (by omega) (by decide)) rfl rfl (.yes rfl rfl rfl rfl) ?_
      refine Q_val (V_loadS rfl rfl (SlE.rd (by assumption)) (by assumption) (by simp)) rfl rfl (.yes rfl rfl rfl rfl) ?_
      refine Q_val (V_lenS rfl rfl) rfl rfl (.yes rfl rfl rfl rfl) ?_
      refine Q_val (V_gtr rfl rfl rfl) rfl rfl (.yes rfl rfl rfl rfl) ?_
      refine Q_val (V_pick_f rfl rfl rfl) rfl rfl (.none rfl) ?_
      refine Q_end ?_
      refine X_then ?_
      refine G_cond_t rfl (decide_eq_true (by omega)) ?_
      refine G_seq (G_region ?_)
      refine G_store1 rfl rfl rfl rfl rfl rfl (.none rfl) (.tail _ (.tail _ (.tail _ (.tail _ (.head _ _ _))))) ?_
      refine G_end (X_then (G_ret (X_then_ret (X_block_ret ?_))))
      refine G.drop ?_
      exact G_rRet (w, 2) ⟨rfl, hst.symm⟩ rfl (.refl _) rfl
    rw [if_neg (by simp only [outS]; rw [hrt]; omega), hlf] at hst
    by_cases hw : rows[k].2.2.1 ≠ w
    · rw [if_pos hw] at hst
      refine G_region ?_
      (refine G_alloc rfl rfl rfl (.none rfl) ?_; intro b8)
      refine G_storeA rfl rfl rfl rfl (by simp [Value.oneCell']) rfl (.none rfl) (.head _ _ _) rfl ?_
      refine G_end (X_then ?_)
      refine G_begin (.tail _ (.head _ _ _)) ?_
      refine G_block (G_seq (G_seq ?_))
      refine G_draw mixed (by kernel_rfl) ?_
      refine Q_val (V_fieldAddr rfl rfl (by decide)) rfl rfl (.none rfl) ?_
      refine Q_val (V_load rfl rfl (Cell.own (.head _) rfl)) rfl rfl (.none rfl) ?_
      refine Q_val (V_lss rfl rfl rfl) rfl rfl (.none rfl) ?_
      refine Q_val (V_move rfl rfl) rfl rfl (.none rfl) ?_
      refine Q_bool_f 27 rfl (decide_eq_false (by omega)) ?_
      refine Q_val (V_fieldAddr rfl rfl (by decide)) rfl rfl (.yes rfl rfl rfl rfl) ?_
      refine Q_val (V_load rfl rfl (Cell.own (.head _) rfl)) rfl rfl (.yes rfl rfl rfl rfl) ?_
      refine Q_val (V_fieldAddr rfl rfl (by decide)) rfl rfl (.yes rfl rfl rfl rfl) ?_
      refine Q_val (V_load rfl rfl (Cell.own (.tail _ (.tail _ (.tail _ (.tail _ (.tail _ (.head _)))))) rfl)) rfl rfl (.yes rfl rfl rfl rfl) ?_
      refine Q_val (V_lenS rfl rfl) rfl rfl (.yes rfl rfl rfl rfl) ?_
      refine Q_val (V_geq rfl rfl rfl) rfl rfl (.yes rfl rfl rfl rfl) ?_
      refine Q_val (V_pick_f rfl rfl rfl) rfl rfl (.none rfl) ?_
      refine Q_val (V_move rfl rfl) rfl rfl (.none rfl) ?_
      refine Q_bool_f 35 rfl (decide_eq_false (by omega)) ?_
      refine Q_val (V_fieldAddr rfl rfl (by decide)) rfl rfl (.yes rfl rfl rfl rfl) ?_
      refine Q_val (V_load rfl rfl (Cell.own (.head _) rfl)) rfl rfl (.yes rfl rfl rfl rfl) ?_
      refine Q_val (V_lss rfl rfl rfl) rfl rfl (.yes rfl rfl rfl rfl) ?_
      refine Q_val (V_pick_f rfl rfl rfl) rfl rfl (.none rfl) ?_
      refine Q_val (V_move rfl rfl) rfl rfl (.none rfl) ?_
      refine Q_bool_f 40 rfl (decide_eq_false (by omega)) ?_
      refine Q_val (V_fieldAddr rfl rfl (by decide)) rfl rfl (.yes rfl rfl rfl rfl) ?_
      refine Q_val (V_load rfl rfl (Cell.own (.head _) rfl)) rfl rfl (.yes rfl rfl rfl rfl) ?_
      refine Q_val (V_fieldAddr rfl rfl (by decide)) rfl rfl (.yes rfl rfl rfl rfl) ?_
      refine Q_val (V_load rfl rfl (Cell.own (.tail _ (.tail _ (.tail _ (.tail _ (.tail _ (.head _)))))) rfl)) rfl rfl (.yes rfl rfl rfl rfl) ?_
      refine Q_val (V_fieldAddr rfl rfl (by decide)) rfl rfl (.yes rfl rfl rfl rfl) ?_
      refine Q_val (V_load rfl rfl (Cell.own (.head _) rfl)) rfl rfl (.yes rfl rfl rfl rfl) ?_
      refine Q_val (V_idxAddr rfl rfl rfl (SlE.rd (by assumption)) (by omega) (by omega)) rfl rfl (.yes rfl rfl rfl rfl) ?_
      refine Q_val (V_fieldAddrE rfl rfl (by assumption) (by omega) (by decide)) rfl rfl (.yes rfl rfl rfl rfl) ?_
      refine Q_val (V_loadS rfl rfl (SlE.rd (by assumption)) (by assumption) (by simp)) rfl rfl (.yes rfl rfl rfl rfl) ?_
      refine Q_val (V_lenS rfl rfl) rfl rfl (.yes rfl rfl rfl rfl) ?_
      refine Q_val (V_gtr rfl rfl rfl) rfl rfl (.yes rfl rfl rfl rfl) ?_
      refine Q_val (V_pick_f rfl rfl rfl) rfl rfl (.none rfl) ?_
      refine Q_end ?_
      refine X_then ?_
      refine G_cond_f rfl (decide_eq_false (by omega)) ?_
      refine G_skip (X_then (G_seq (G_region ?_)))
      refine Gv (V_fieldAddr rfl rfl (by decide)) ?_
      refine Gv (V_load rfl rfl (Cell.own (.tail _ (.tail _ (.tail _ (.tail _ (.tail _ (.head _)))))) rfl)) ?_
      refine Gv (V_fieldAddr rfl rfl (by decide)) ?_
      refine Gv (V_load rfl rfl (Cell.own (.head _) rfl)) ?_
      refine Gv (V_idxAddr rfl rfl rfl (SlE.rd (by assumption)) (by omega) (by omega)) ?_
      refine Gv (V_loadAS rfl rfl (SlE.rd (by assumption)) (by assumption) (by simp) (by rfl)) ?_
      (refine G_alloc rfl rfl rfl (.none rfl) ?_; intro b9)
      refine G_storeA rfl rfl rfl rfl (by simp [Value.oneCell']) rfl (.none rfl) (.head _ _ _) rfl ?_
      refine G_end (X_then (G_seq (G_seq (G_region ?_))))
      refine Gv (V_fieldAddr rfl rfl (by decide)) ?_
      refine Gv (V_load rfl rfl (Cell.own (.head _) rfl)) ?_
      refine Gv (V_load rfl rfl (Cell.own1 (.tail _ (.tail _ (.tail _ (.tail _ (.head _))))))) ?_
      refine Gv (V_neq rfl rfl rfl) ?_
      refine G_end (X_then ?_)
      refine G_cond_t rfl (decide_eq_true (by omega)) ?_
      refine G_seq (G_region ?_)
      refine G_store1 rfl rfl rfl rfl rfl rfl (.none rfl) (.tail _ (.tail _ (.tail _ (.tail _ (.tail _ (.head _ _ _)))))) ?_
      refine G_end (X_then (G_ret (X_then_ret (X_block_ret ?_))))
      refine G.drop (G.drop ?_)
      exact G_rRet (w, 9) ⟨rfl, hst.symm⟩ rfl (.refl _) rfl
    rw [if_neg hw] at hst
    unfold nextS at hst
    rw [hrt] at hst
    by_cases hd0 : 0 < d
    · rw [if_pos (by simp only; omega)] at hst
      obtain ⟨v, hv⟩ : ∃ v, rows[k].2.2.2[((d : Int) - 1).toNat]? = some v := ⟨_, List.getElem?_eq_getElem (l := rows[k].2.2.2) (i := ((d : Int) - 1).toNat) (by omega)⟩
      have x5 := i64s_get hv
      simp only at hst
      rw [hv, Option.getD_some] at hst
      refine G_region ?_
      (refine G_alloc rfl rfl rfl (.none rfl) ?_; intro b8)
      refine G_storeA rfl rfl rfl rfl (by simp [Value.oneCell']) rfl (.none rfl) (.head _ _ _) rfl ?_
      refine G_end (X_then ?_)
      refine G_begin (.tail _ (.head _ _ _)) ?_
      refine G_block (G_seq (G_seq ?_))
      refine G_draw mixed (by kernel_rfl) ?_
      refine Q_val (V_fieldAddr rfl rfl (by decide)) rfl rfl (.none rfl) ?_
      refine Q_val (V_load rfl rfl (Cell.own (.head _) rfl)) rfl rfl (.none rfl) ?_
      refine Q_val (V_lss rfl rfl rfl) rfl rfl (.none rfl) ?_
      refine Q_val (V_move rfl rfl) rfl rfl (.none rfl) ?_
      refine Q_bool_f 27 rfl (decide_eq_false (by omega)) ?_
      refine Q_val (V_fieldAddr rfl rfl (by decide)) rfl rfl (.yes rfl rfl rfl rfl) ?_
      refine Q_val (V_load rfl rfl (Cell.own (.head _) rfl)) rfl rfl (.yes rfl rfl rfl rfl) ?_
      refine Q_val (V_fieldAddr rfl rfl (by decide)) rfl rfl (.yes rfl rfl rfl rfl) ?_
      refine Q_val (V_load rfl rfl (Cell.own (.tail _ (.tail _ (.tail _ (.tail _ (.tail _ (.head _)))))) rfl)) rfl rfl (.yes rfl rfl rfl rfl) ?_
      refine Q_val (V_lenS rfl rfl) rfl rfl (.yes rfl rfl rfl rfl) ?_
      refine Q_val (V_geq rfl rfl rfl) rfl rfl (.yes rfl rfl rfl rfl) ?_
      refine Q_val (V_pick_f rfl rfl rfl) rfl rfl (.none rfl) ?_
      refine Q_val (V_move rfl rfl) rfl rfl (.none rfl) ?_
      refine Q_bool_f 35 rfl (decide_eq_false (by omega)) ?_
      refine Q_val (V_fieldAddr rfl rfl (by decide)) rfl rfl (.yes rfl rfl rfl rfl) ?_
      refine Q_val (V_load rfl rfl (Cell.own (.head _) rfl)) rfl rfl (.yes rfl rfl rfl rfl) ?_
      refine Q_val (V_lss rfl rfl rfl) rfl rfl (.yes rfl rfl rfl rfl) ?_
      refine Q_val (V_pick_f rfl rfl rfl) rfl rfl (.none rfl) ?_
      refine Q_val (V_move rfl rfl) rfl rfl (.none rfl) ?_
      refine Q_bool_f 40 rfl (decide_eq_false (by omega)) ?_
      refine Q_val (V_fieldAddr rfl rfl (by decide)) rfl rfl (.yes rfl rfl rfl rfl) ?_
      refine Q_val (V_load rfl rfl (Cell.own (.head _) rfl)) rfl rfl (.yes rfl rfl rfl rfl) ?_
      refine Q_val (V_fieldAddr rfl rfl (by decide)) rfl rfl (.yes rfl rfl rfl rfl) ?_
      refine Q_val (V_load rfl rfl (Cell.own (.tail _ (.tail _ (.tail _ (.tail _ (.tail _ (.head _)))))) rfl)) rfl rfl (.yes rfl rfl rfl rfl) ?_
      refine Q_val (V_fieldAddr rfl rfl (by decide)) rfl rfl (.yes rfl rfl rfl rfl) ?_
      refine Q_val (V_load rfl rfl (Cell.own (.head _) rfl)) rfl rfl (.yes rfl rfl rfl rfl) ?_
      refine Q_val (V_idxAddr rfl rfl rfl (SlE.rd (by assumption)) (by omega) (by omega)) rfl rfl (.yes rfl rfl rfl rfl) ?_
      refine Q_val (V_fieldAddrE rfl rfl (by assumption) (by omega) (by decide)) rfl rfl (.yes rfl rfl rfl rfl) ?_
      refine Q_val (V_loadS rfl rfl (SlE.rd (by assumption)) (by assumption) (by simp)) rfl rfl (.yes rfl rfl rfl rfl) ?_
      refine Q_val (V_lenS rfl rfl) rfl rfl (.yes rfl rfl rfl rfl) ?_
      refine Q_val (V_gtr rfl rfl rfl) rfl rfl (.yes rfl rfl rfl rfl) ?_
      refine Q_val (V_pick_f rfl rfl rfl) rfl rfl (.none rfl) ?_
      refine Q_end ?_
      refine X_then ?_
      refine G_cond_f rfl (decide_eq_false (by omega)) ?_
      refine G_skip (X_then (G_seq (G_region ?_)))
      refine Gv (V_fieldAddr rfl rfl (by decide)) ?_
      refine Gv (V_load rfl rfl (Cell.own (.tail _ (.tail _ (.tail _ (.tail _ (.tail _ (.head _)))))) rfl)) ?_
      refine Gv (V_fieldAddr rfl rfl (by decide)) ?_
      refine Gv (V_load rfl rfl (Cell.own (.head _) rfl)) ?_
      refine Gv (V_idxAddr rfl rfl rfl (SlE.rd (by assumption)) (by omega) (by omega)) ?_
      refine Gv (V_loadAS rfl rfl (SlE.rd (by assumption)) (by assumption) (by simp) (by rfl)) ?_
      (refine G_alloc rfl rfl rfl (.none rfl) ?_; intro b9)
      refine G_storeA rfl rfl rfl rfl (by simp [Value.oneCell']) rfl (.none rfl) (.head _ _ _) rfl ?_
      refine G_end (X_then (G_seq (G_seq (G_region ?_))))
      refine Gv (V_fieldAddr rfl rfl (by decide)) ?_
      refine Gv (V_load rfl rfl (Cell.own (.head _) rfl)) ?_
      refine Gv (V_load rfl rfl (Cell.own1 (.tail _ (.tail _ (.tail _ (.tail _ (.head _))))))) ?_
      refine Gv (V_neq rfl rfl rfl) ?_
      refine G_end (X_then ?_)
      refine G_cond_f rfl (decide_eq_false (by omega)) ?_
      refine G_skip (X_then (G_seq (G_region ?_)))
      refine G_store1 rfl rfl rfl rfl rfl rfl (.none rfl) (.tail _ (.tail _ (.tail _ (.tail _ (.head _ _ _))))) ?_
      refine G_end (X_then (G_seq (G_region ?_)))
      refine Gv (V_fieldAddr rfl rfl (by decide)) ?_
      refine Gv (V_load rfl rfl (Cell.own (.tail _ (.head _)) rfl)) ?_
      refine Gv (V_gtr rfl rfl rfl) ?_
      refine G_end (X_then ?_)
      refine G_cond_t rfl (decide_eq_true (by omega)) ?_
      refine G_region ?_
      refine Gv (V_fieldAddr rfl rfl (by decide)) ?_
      refine Gv (V_load rfl rfl (Cell.own (.head _) rfl)) ?_
      refine Gv (V_fieldAddr rfl rfl (by decide)) ?_
      refine Gv (V_load rfl rfl (Cell.own (.tail _ (.head _)) rfl)) ?_
      refine Gv (V_sub_i64 rfl rfl rfl (by omega) (by omega)) ?_
      refine Gv (V_idxAddr rfl rfl rfl (SlE.rd (by assumption)) (by omega) (by omega)) ?_
      refine Gv (V_loadS rfl rfl (SlE.rd (by assumption)) (by assumption) (by simp)) ?_
      refine G_store1 rfl rfl rfl rfl rfl rfl (.none rfl) (.tail _ (.tail _ (.tail _ (.tail _ (.head _ _ _))))) ?_
      refine G_end (X_block ?_)
      refine G.drop (G.drop ?_)
      exact G_rEnd (v, 0) ⟨rfl, by simp only [List.length_append, List.length_singleton]; exact hst⟩ rfl (.refl _) rfl
    · rw [if_neg (by simp only; omega)] at hst
      refine G_region ?_
      (refine G_alloc rfl rfl rfl (.none rfl) ?_; intro b8)
      refine G_storeA rfl rfl rfl rfl (by simp [Value.oneCell']) rfl (.none rfl) (.head _ _ _) rfl ?_
      refine G_end (X_then ?_)
      refine G_begin (.tail _ (.head _ _ _)) ?_
      refine G_block (G_seq (G_seq ?_))
      refine G_draw mixed (by kernel_rfl) ?_
      refine Q_val (V_fieldAddr rfl rfl (by decide)) rfl rfl (.none rfl) ?_
      refine Q_val (V_load rfl rfl (Cell.own (.head _) rfl)) rfl rfl (.none rfl) ?_
      refine Q_val (V_lss rfl rfl rfl) rfl rfl (.none rfl) ?_
      refine Q_val (V_move rfl rfl) rfl rfl (.none rfl) ?_
      refine Q_bool_f 27 rfl (decide_eq_false (by omega)) ?_
      refine Q_val (V_fieldAddr rfl rfl (by decide)) rfl rfl (.yes rfl rfl rfl rfl) ?_
      refine Q_val (V_load rfl rfl (Cell.own (.head _) rfl)) rfl rfl (.yes rfl rfl rfl rfl) ?_
      refine Q_val (V_fieldAddr rfl rfl (by decide)) rfl rfl (.yes rfl rfl rfl rfl) ?_
      refine Q_val (V_load rfl rfl (Cell.own (.tail _ (.tail _ (.tail _ (.tail _ (.tail _ (.head _)))))) rfl)) rfl rfl (.yes rfl rfl rfl rfl) ?_
      refine Q_val (V_lenS rfl rfl) rfl rfl (.yes rfl rfl rfl rfl) ?_
      refine Q_val (V_geq rfl rfl rfl) rfl rfl (.yes rfl rfl rfl rfl) ?_
      refine Q_val (V_pick_f rfl rfl rfl) rfl rfl (.none rfl) ?_
      refine Q_val (V_move rfl rfl) rfl rfl (.none rfl) ?_
      refine Q_bool_f 35 rfl (decide_eq_false (by omega)) ?_
      refine Q_val (V_fieldAddr rfl rfl (by decide)) rfl rfl (.yes rfl rfl rfl rfl) ?_
      refine Q_val (V_load rfl rfl (Cell.own (.head _) rfl)) rfl rfl (.yes rfl rfl rfl rfl) ?_
      refine Q_val (V_lss rfl rfl rfl) rfl rfl (.yes rfl rfl rfl rfl) ?_
      refine Q_val (V_pick_f rfl rfl rfl) rfl rfl (.none rfl) ?_
      refine Q_val (V_move rfl rfl) rfl rfl (.none rfl) ?_
      refine Q_bool_f 40 rfl (decide_eq_false (by omega)) ?_
      refine Q_val (V_fieldAddr rfl rfl (by decide)) rfl rfl (.yes rfl rfl rfl rfl) ?_
      refine Q_val (V_load rfl rfl (Cell.own (.head _) rfl)) rfl rfl (.yes rfl rfl rfl rfl) ?_
      refine Q_val (V_fieldAddr rfl rfl (by decide)) rfl rfl (.yes rfl rfl rfl rfl) ?_
      refine Q_val (V_load rfl rfl (Cell.own (.tail _ (.tail _ (.tail _ (.tail _ (.tail _ (.head _)))))) rfl)) rfl rfl (.yes rfl rfl rfl rfl) ?_
      refine Q_val (V_fieldAddr rfl rfl (by decide)) rfl rfl (.yes rfl rfl rfl rfl) ?_
      refine Q_val (V_load rfl rfl (Cell.own (.head _) rfl)) rfl rfl (.yes rfl rfl rfl rfl) ?_
      refine Q_val (V_idxAddr rfl rfl rfl (SlE.rd (by assumption)) (by omega) (by omega)) rfl rfl (.yes rfl rfl rfl rfl) ?_
      refine Q_val (V_fieldAddrE rfl rfl (by assumption) (by omega) (by decide)) rfl rfl (.yes rfl rfl rfl rfl) ?_
      refine Q_val (V_loadS rfl rfl (SlE.rd (by assumption)) (by assumption) (by simp)) rfl rfl (.yes rfl rfl rfl rfl) ?_
      refine Q_val (V_lenS rfl rfl) rfl rfl (.yes rfl rfl rfl rfl) ?_
      refine Q_val (V_gtr rfl rfl rfl) rfl rfl (.yes rfl rfl rfl rfl) ?_
      refine Q_val (V_pick_f rfl rfl rfl) rfl rfl (.none rfl) ?_
      refine Q_end ?_
      refine X_then ?_
      refine G_cond_f rfl (decide_eq_false (by omega)) ?_
      refine G_skip (X_then (G_seq (G_region ?_)))
      refine Gv (V_fieldAddr rfl rfl (by decide)) ?_
      refine Gv (V_load rfl rfl (Cell.own (.tail _ (.tail _ (.tail _ (.tail _ (.tail _ (.head _)))))) rfl)) ?_
      refine Gv (V_fieldAddr rfl rfl (by decide)) ?_
      refine Gv (V_load rfl rfl (Cell.own (.head _) rfl)) ?_
      refine Gv (V_idxAddr rfl rfl rfl (SlE.rd (by assumption)) (by omega) (by omega)) ?_
      refine Gv (V_loadAS rfl rfl (SlE.rd (by assumption)) (by assumption) (by simp) (by rfl)) ?_
      (refine G_alloc rfl rfl rfl (.none rfl) ?_; intro b9)
      refine G_storeA rfl rfl rfl rfl (by simp [Value.oneCell']) rfl (.none rfl) (.head _ _ _) rfl ?_
      refine G_end (X_then (G_seq (G_seq (G_region ?_))))
      refine Gv (V_fieldAddr rfl rfl (by decide)) ?_
      refine Gv (V_load rfl rfl (Cell.own (.head _) rfl)) ?_
      refine Gv (V_load rfl rfl (Cell.own1 (.tail _ (.tail _ (.tail _ (.tail _ (.head _))))))) ?_
      refine Gv (V_neq rfl rfl rfl) ?_
      refine G_end (X_then ?_)
      refine G_cond_f rfl (decide_eq_false (by omega)) ?_
      refine G_skip (X_then (G_seq (G_region ?_)))
      refine G_store1 rfl rfl rfl rfl rfl rfl (.none rfl) (.tail _ (.tail _ (.tail _ (.tail _ (.head _ _ _))))) ?_
      refine G_end (X_then (G_seq (G_region ?_)))
      refine Gv (V_fieldAddr rfl rfl (by decide)) ?_
      refine Gv (V_load rfl rfl (Cell.own (.tail _ (.head _)) rfl)) ?_
      refine Gv (V_gtr rfl rfl rfl) ?_
      refine G_end (X_then ?_)
      refine G_cond_f rfl (decide_eq_false (by omega)) ?_
      refine G_skip (X_block ?_)
      refine G.drop (G.drop ?_)
      exact G_rEnd (-1, 0) ⟨rfl, by simp only [List.length_append, List.length_singleton]; exact hst⟩ rfl (.refl _) rfl
  · rintro D ⟨w, e⟩ ⟨rfl, hst⟩ hE
    rw [hst, List.length_zipIdx, List.drop_length]
    refine X_block (X_then (G_seq (G_region ?_)))
    refine G_store1 rfl rfl rfl rfl rfl rfl (.none rfl) (.tail _ (.tail _ (.head _ _ _))) ?_
    refine G_end (X_then (G_ret ?_))
    refine G_leave_ms [D] ?_
    refine G_leaveS (.drop _ (.drop _ (.drop _ (.nil _)))) (by exact (.cons (.cell1 rfl (Cell.own1 (.tail _ (.head _)))) (.nil))) rfl ?_ ?_
    · exact (.refl _)
    exact ⟨rfl, rfl⟩
  · rintro D q pre ⟨w, e⟩ hpre ⟨rfl, rfl⟩ hE
    refine G_ret (X_block_ret (X_then_ret ?_))
    refine G_leave_ms [D] ?_
    refine G_leaveS (.drop _ (.drop _ (.drop _ (.nil _)))) (by exact (.cons (.cell1 rfl (Cell.own1 (.tail _ (.head _)))) (.nil))) rfl ?_ ?_
    · exact (.refl _)
    exact ⟨rfl, rfl⟩
end
end Go.Proofs.YtaibabmladgldaaDoor
set_option linter.unusedSimpArgs false
set_option linter.unusedVariables false
set_option maxHeartbeats 2000000
set_option maxRecDepth 20000
namespace Go.Proofs.YtaibabmladgldaaDoor
open Go.RowKit
/-! What a stack awaits. -/
theorem awS_top {ps : List Pr} {l : List Spt} {k d : Nat} {q : Pr} (hq : ps[k]? = some q) : awS ps (l ++ [((k : Int), (d : Int))]) = match q.2[d]? with
    | none => (3, q.1)
    | some x => if 16 ≤ x then (2, x) else (1, x) := by
  unfold awS
  rw [List.getLast?_concat]
  simp only [rightP_eq hq, leftP_eq hq, Int.toNat_natCast]
  all_goals (cases q.2[d]? <;> rfl)
section
variable (E : Env) (L : List Res)
theorem kind_call (a : Int) (h : 0 ≤ a ∧ a ≤ 3) : CallV Tryd.prog 43 #[.int .i64 a] E L (.int .i64 a) := by
  have : a = 0 ∨ a = 1 ∨ a = 2 ∨ a = 3 := by omega
  rcases this with rfl | rfl | rfl | rfl
  · refine CallS.toV (CallS.intro (l := [_]) _ Tryd.func43 rfl Tryd.ntmps43 rfl ?_)
    refine G_seq (G_region ?_)
    refine Ga ?_
    refine G_end (X_then (G_seq (G_region ?_)))
    refine Gv (V_buildArr rfl rfl (by simp [fillS, setLs, setL, Value.cells]; rfl)) ?_
    refine Gm ?_
    refine Gv (V_idxArr rfl rfl rfl (by omega) (by omega) rfl) ?_
    refine Ga ?_
    refine G_end (X_then (G_ret ?_))
    refine G_leaveS (.nil _) (by exact (.cons (.tmp rfl) (.nil))) rfl ?_ ?_
    · exact (.refl _)
    exact ⟨(by kernel_rfl), rfl⟩
  · refine CallS.toV (CallS.intro (l := [_]) _ Tryd.func43 rfl Tryd.ntmps43 rfl ?_)
    refine G_seq (G_region ?_)
    refine Ga ?_
    refine G_end (X_then (G_seq (G_region ?_)))
    refine Gv (V_buildArr rfl rfl (by simp [fillS, setLs, setL, Value.cells]; rfl)) ?_
    refine Gm ?_
    refine Gv (V_idxArr rfl rfl rfl (by omega) (by omega) rfl) ?_
    refine Ga ?_
    refine G_end (X_then (G_ret ?_))
    refine G_leaveS (.nil _) (by exact (.cons (.tmp rfl) (.nil))) rfl ?_ ?_
    · exact (.refl _)
    exact ⟨(by kernel_rfl), rfl⟩
  · refine CallS.toV (CallS.intro (l := [_]) _ Tryd.func43 rfl Tryd.ntmps43 rfl ?_)
    refine G_seq (G_region ?_)
    refine Ga ?_
    refine G_end (X_then (G_seq (G_region ?_)))
    refine Gv (V_buildArr rfl rfl (by simp [fillS, setLs, setL, Value.cells]; rfl)) ?_
    refine Gm ?_
    refine Gv (V_idxArr rfl rfl rfl (by omega) (by omega) rfl) ?_
    refine Ga ?_
    refine G_end (X_then (G_ret ?_))
    refine G_leaveS (.nil _) (by exact (.cons (.tmp rfl) (.nil))) rfl ?_ ?_
    · exact (.refl _)
    exact ⟨(by kernel_rfl), rfl⟩
  · refine CallS.toV (CallS.intro (l := [_]) _ Tryd.func43 rfl Tryd.ntmps43 rfl ?_)
    refine G_seq (G_region ?_)
    refine Ga ?_
    refine G_end (X_then (G_seq (G_region ?_)))
    refine Gv (V_buildArr rfl rfl (by simp [fillS, setLs, setL, Value.cells]; rfl)) ?_
    refine Gm ?_
    refine Gv (V_idxArr rfl rfl rfl (by omega) (by omega) rfl) ?_
    refine Ga ?_
    refine G_end (X_then (G_ret ?_))
    refine G_leaveS (.nil _) (by exact (.cons (.tmp rfl) (.nil))) rfl ?_ ?_
    · exact (.refl _)
    exact ⟨(by kernel_rfl), rfl⟩
theorem awaits_call (gv : Value) (g : Gr) (hg : GrE E gv g) (hl : Light g) (p : Option Addr) (n c : Nat) (l : List Spt) (hs : SlE E 2 p n (spC l)) (hn : n ≤ 64) (hin : ∀ s, s ∈ l → ¬ outS g.prods s) :
    CallV Tryd.prog 33 #[gv, .slice p n c] E L (.tuple #[.int .i64 (awS g.prods l).1, .int .i64 (awS g.prods l).2]) := by
  have en := hs.nSp
  obtain ⟨tp, tc, np, nc, pp, pc, rfl, ht, hn', ⟨rows, hrows, hps, hre⟩, k1, k2, k3⟩ := hg
  have hlen : g.prods.length = rows.length := by rw [← hrows]; simp
  have q3 := hl.p
  rcases List.eq_nil_or_concat l with rfl | ⟨l', s, rfl⟩
  · obtain rfl : n = 0 := en
    refine CallS.toV (CallS.intro (l := [_, _]) _ Tryd.func33 rfl Tryd.ntmps33 rfl ?_)
    refine G_seq (G_region ?_)
    (refine G_boxA rfl rfl rfl rfl (.none rfl) ?_; intro b2)
    refine Ga ?_
    refine Ga ?_
    refine G_end (X_then (G_seq (G_seq (G_region ?_))))
    refine Gm ?_
    refine Gv (V_lenS rfl rfl) ?_
    refine Gv (V_eql rfl rfl rfl) ?_
    refine G_end (X_then ?_)
    refine G_cond_t rfl (by kernel_rfl) ?_
    refine G_seq (G_region ?_)
    refine Ga ?_
    refine Ga ?_
    refine G_end (X_then (G_ret (X_then_ret ?_)))
    refine G_leaveS (.drop _ (.nil _)) (by exact (.cons (.tmp rfl) (.cons (.tmp rfl) (.nil)))) rfl ?_ ?_
    · exact (.refl _)
    exact ⟨rfl, rfl⟩
  rw [List.concat_eq_append] at *
  obtain ⟨sp, sd⟩ := s
  have ho := hin (sp, sd) (by simp)
  simp only [outS, not_or, Int.not_lt, Int.not_le] at ho
  obtain ⟨ho1, ho2, ho3, ho4⟩ := ho
  obtain ⟨k, rfl⟩ : ∃ k : Nat, sp = k := ⟨sp.toNat, by omega⟩
  obtain ⟨d, rfl⟩ : ∃ d : Nat, sd = d := ⟨sd.toNat, by omega⟩
  have hk : k < rows.length := by omega
  have hrow := List.getElem?_eq_getElem hk
  have hpk : g.prods[k]? = some rows[k].2.2 := by rw [← hrows, List.getElem?_map, hrow]; rfl
  have hrt := rightP_eq hpk
  rw [hrt] at ho4
  have x1 := prows_left hrow
  have x2 := prows_right hrow
  have x3 := prows_get hrow
  have x4 := hre.get hrow
  have hr8 : rows[k].2.2.2.length ≤ 8 := hl.ps rows[k].2.2 (List.mem_of_getElem? hpk)
  rw [awS_top hpk]
  obtain rfl : n = l'.length + 1 := by rw [en, List.length_append]; rfl
  have htop : (l' ++ [((k : Int), (d : Int))])[l'.length]? = some ((k : Int), (d : Int)) := by simp
  have x6 : ((spC (l' ++ [((k : Int), (d : Int))])).drop ((((l'.length + 1 : Nat) : Int) - 1).toNat * 2)).take 2 = [.int .i64 (k : Int), .int .i64 (d : Int)] := by
    rw [show (((l'.length + 1 : Nat) : Int) - 1).toNat = l'.length by omega]
    exact spC_get htop
  by_cases hd : d = rows[k].2.2.2.length
  · rw [List.getElem?_eq_none (by omega)]
    refine CallS.toV (CallS.intro (l := [_, _]) _ Tryd.func33 rfl Tryd.ntmps33 rfl ?_)
    refine G_seq (G_region ?_)
    (refine G_boxA rfl rfl rfl rfl (.none rfl) ?_; intro b2)
    refine Ga ?_
    refine Ga ?_
    refine G_end (X_then (G_seq (G_seq (G_region ?_))))
    refine Gm ?_
    refine Gv (V_lenS rfl rfl) ?_
    refine Gv (V_eql rfl rfl rfl) ?_
    refine G_end (X_then ?_)
    refine G_cond_f rfl (decide_eq_false (by omega)) ?_
    refine G_skip (X_then (G_seq (G_region ?_)))
    refine Gm ?_
    refine Gm ?_
    refine Gv (V_lenS rfl rfl) ?_
    refine Gv (V_sub_i64 rfl rfl rfl (by omega) (by omega)) ?_
    refine Gv (V_idxAddr rfl rfl rfl (SlE.rd (by assumption)) (by omega) (by omega)) ?_
    refine Gv (V_loadAS rfl rfl (SlE.rd (by assumption)) (by assumption) (by simp) (by rfl)) ?_
    (refine G_alloc rfl rfl rfl (.none rfl) ?_; intro b6)
    refine G_storeA rfl rfl rfl rfl (by simp [Value.oneCell']) rfl (.none rfl) (.head _ _ _) rfl ?_
    refine G_end (X_then (G_seq (G_region ?_)))
    refine Gv (V_fieldAddr rfl rfl (by decide)) ?_
    refine Gv (V_load rfl rfl (Cell.own (.tail _ (.head _)) rfl)) ?_
    refine Gv (V_fieldAddr rfl rfl (by decide)) ?_
    refine Gv (V_load rfl rfl (Cell.own (.head _) rfl)) ?_
    refine Gv (V_idxAddr rfl rfl rfl (SlE.rd (by assumption)) (by omega) (by omega)) ?_
    refine Gv (V_loadAS rfl rfl (SlE.rd (by assumption)) (by assumption) (by simp) (by rfl)) ?_
    (refine G_alloc rfl rfl rfl (.none rfl) ?_; intro b7)
    refine G_storeA rfl rfl rfl rfl (by simp [Value.oneCell']) rfl (.none rfl) (.head _ _ _) rfl ?_
    refine G_end (X_then (G_seq (G_seq (G_region ?_))))
    refine Gv (V_fieldAddr rfl rfl (by decide)) ?_
    refine Gv (V_load rfl rfl (Cell.own (.tail _ (.head _)) rfl)) ?_
    refine Gv (V_fieldAddr rfl rfl (by decide)) ?_
    refine Gv (V_load rfl rfl (Cell.own (.head _) rfl)) ?_
    refine Gv (V_lenS rfl rfl) ?_
    refine Gv (V_eql rfl rfl rfl) ?_
    refine G_end (X_then ?_)
    refine G_cond_t rfl (decide_eq_true (by omega)) ?_
    refine G_seq ?_
    refine G_draw mixed (by kernel_rfl) ?_
    refine Q_val (V_fieldAddr rfl rfl (by decide)) rfl rfl (.none rfl) ?_
    refine Q_val (V_load rfl rfl (Cell.own (.head _) rfl)) rfl rfl (.none rfl) ?_
    refine Q_val (V_assign rfl rfl) rfl rfl (.none rfl) ?_
    refine Q_val (V_assign rfl rfl) rfl rfl (.none rfl) ?_
    refine Q_end ?_
    refine X_then (G_ret (X_then_ret ?_))
    refine G_leaveS (.drop _ (.drop _ (.drop _ (.nil _)))) (by exact (.cons (.tmp rfl) (.cons (.tmp rfl) (.nil)))) rfl ?_ ?_
    · exact (.refl _)
    exact ⟨rfl, rfl⟩
  · obtain ⟨v, hv⟩ : ∃ v, rows[k].2.2.2[d]? = some v := ⟨_, List.getElem?_eq_getElem (l := rows[k].2.2.2) (i := d) (by omega)⟩
    have x5 := i64s_get hv
    rw [hv]
    simp only
    by_cases h16 : 16 ≤ v
    · rw [if_pos h16]
      refine CallS.toV (CallS.intro (l := [_, _]) _ Tryd.func33 rfl Tryd.ntmps33 rfl ?_)
      refine G_seq (G_region ?_)
      (refine G_boxA rfl rfl rfl rfl (.none rfl) ?_; intro b2)
      refine Ga ?_
      refine Ga ?_
      refine G_end (X_then (G_seq (G_seq (G_region ?_))))
      refine Gm ?_
      refine Gv (V_lenS rfl rfl) ?_
      refine Gv (V_eql rfl rfl rfl) ?_
      refine G_end (X_then ?_)
      refine G_cond_f rfl (decide_eq_false (by omega)) ?_
      refine G_skip (X_then (G_seq (G_region ?_)))
      refine Gm ?_
      refine Gm ?_
      refine Gv (V_lenS rfl rfl) ?_
      refine Gv (V_sub_i64 rfl rfl rfl (by omega) (by omega)) ?_
      refine Gv (V_idxAddr rfl rfl rfl (SlE.rd (by assumption)) (by omega) (by omega)) ?_
      refine Gv (V_loadAS rfl rfl (SlE.rd (by assumption)) (by assumption) (by simp) (by rfl)) ?_
      (refine G_alloc rfl rfl rfl (.none rfl) ?_; intro b6)
      refine G_storeA rfl rfl rfl rfl (by simp [Value.oneCell']) rfl (.none rfl) (.head _ _ _) rfl ?_
      refine G_end (X_then (G_seq (G_region ?_)))
      refine Gv (V_fieldAddr rfl rfl (by decide)) ?_
      refine Gv (V_load rfl rfl (Cell.own (.tail _ (.head _)) rfl)) ?_
      refine Gv (V_fieldAddr rfl rfl (by decide)) ?_
      refine Gv (V_load rfl rfl (Cell.own (.head _) rfl)) ?_
      refine Gv (V_idxAddr rfl rfl rfl (SlE.rd (by assumption)) (by omega) (by omega)) ?_
      refine Gv (V_loadAS rfl rfl (SlE.rd (by assumption)) (by assumption) (by simp) (by rfl)) ?_
      (refine G_alloc rfl rfl rfl (.none rfl) ?_; intro b7)
      refine G_storeA rfl rfl rfl rfl (by simp [Value.oneCell']) rfl (.none rfl) (.head _ _ _) rfl ?_
      refine G_end (X_then (G_seq (G_seq (G_region ?_))))
      refine Gv (V_fieldAddr rfl rfl (by decide)) ?_
      refine Gv (V_load rfl rfl (Cell.own (.tail _ (.head _)) rfl)) ?_
      refine Gv (V_fieldAddr rfl rfl (by decide)) ?_
      refine Gv (V_load rfl rfl (Cell.own (.head _) rfl)) ?_
      refine Gv (V_lenS rfl rfl) ?_
      refine Gv (V_eql rfl rfl rfl) ?_
      refine G_end (X_then ?_)
      refine G_cond_f rfl (decide_eq_false (by omega)) ?_
      refine G_skip (X_then (G_seq (G_region ?_)))
      refine Gv (V_fieldAddr rfl rfl (by decide)) ?_
      refine Gv (V_load rfl rfl (Cell.own (.head _) rfl)) ?_
      refine Gv (V_fieldAddr rfl rfl (by decide)) ?_
      refine Gv (V_load rfl rfl (Cell.own (.tail _ (.head _)) rfl)) ?_
      refine Gv (V_idxAddr rfl rfl rfl (SlE.rd (by assumption)) (by omega) (by omega)) ?_
      refine Gv (V_loadS rfl rfl (SlE.rd (by assumption)) (by assumption) (by simp)) ?_
      refine Ga ?_
      refine G_end (X_then (G_seq (G_seq (G_region ?_))))
      refine Gm ?_
      refine Gv (V_geq rfl rfl rfl) ?_
      refine G_end (X_then ?_)
      refine G_cond_t rfl (decide_eq_true (by omega)) ?_
      refine G_seq (G_region ?_)
      refine Gm ?_
      refine Ga ?_
      refine Ga ?_
      refine G_end (X_then (G_ret (X_then_ret ?_)))
      refine G_leaveS (.drop _ (.drop _ (.drop _ (.nil _)))) (by exact (.cons (.tmp rfl) (.cons (.tmp rfl) (.nil)))) rfl ?_ ?_
      · exact (.refl _)
      exact ⟨rfl, rfl⟩
    · rw [if_neg h16]
      refine CallS.toV (CallS.intro (l := [_, _]) _ Tryd.func33 rfl Tryd.ntmps33 rfl ?_)
      refine G_seq (G_region ?_)
      (refine G_boxA rfl rfl rfl rfl (.none rfl) ?_; intro b2)
      refine Ga ?_
      refine Ga ?_
      refine G_end (X_then (G_seq (G_seq (G_region ?_))))
      refine Gm ?_
      refine Gv (V_lenS rfl rfl) ?_
      refine Gv (V_eql rfl rfl rfl) ?_
      refine G_end (X_then ?_)
      refine G_cond_f rfl (decide_eq_false (by omega)) ?_
      refine G_skip (X_then (G_seq (G_region ?_)))
      refine Gm ?_
      refine Gm ?_
      refine Gv (V_lenS rfl rfl) ?_
      refine Gv (V_sub_i64 rfl rfl rfl (by omega) (by omega)) ?_
      refine Gv (V_idxAddr rfl rfl rfl (SlE.rd (by assumption)) (by omega) (by omega)) ?_
      refine Gv (V_loadAS rfl rfl (SlE.rd (by assumption)) (by assumption) (by simp) (by rfl)) ?_
      (refine G_alloc rfl rfl rfl (.none rfl) ?_; intro b6)
      refine G_storeA rfl rfl rfl rfl (by simp [Value.oneCell']) rfl (.none rfl) (.head _ _ _) rfl ?_
      refine G_end (X_then (G_seq (G_region ?_)))
      refine Gv (V_fieldAddr rfl rfl (by decide)) ?_
      refine Gv (V_load rfl rfl (Cell.own (.tail _ (.head _)) rfl)) ?_
      refine Gv (V_fieldAddr rfl rfl (by decide)) ?_
      refine Gv (V_load rfl rfl (Cell.own (.head _) rfl)) ?_
      refine Gv (V_idxAddr rfl rfl rfl (SlE.rd (by assumption)) (by omega) (by omega)) ?_
      refine Gv (V_loadAS rfl rfl (SlE.rd (by assumption)) (by assumption) (by simp) (by rfl)) ?_
      (refine G_alloc rfl rfl rfl (.none rfl) ?_; intro b7)
      refine G_storeA rfl rfl rfl rfl (by simp [Value.oneCell']) rfl (.none rfl) (.head _ _ _) rfl ?_
      refine G_end (X_then (G_seq (G_seq (G_region ?_))))
      refine Gv (V_fieldAddr rfl rfl (by decide)) ?_
      refine Gv (V_load rfl rfl (Cell.own (.tail _ (.head _)) rfl)) ?_
      refine Gv (V_fieldAddr rfl rfl (by decide)) ?_
      refine Gv (V_load rfl rfl (Cell.own (.head _) rfl)) ?_
      refine Gv (V_lenS rfl rfl) ?_
      refine Gv (V_eql rfl rfl rfl) ?_
      refine G_end (X_then ?_)
      refine G_cond_f rfl (decide_eq_false (by omega)) ?_
      refine G_skip (X_then (G_seq (G_region ?_)))
      refine Gv (V_fieldAddr rfl rfl (by decide)) ?_
      refine Gv (V_load rfl rfl (Cell.own (.head _) rfl)) ?_
      refine Gv (V_fieldAddr rfl rfl (by decide)) ?_
      refine Gv (V_load rfl rfl (Cell.own (.tail _ (.head _)) rfl)) ?_
      refine Gv (V_idxAddr rfl rfl rfl (SlE.rd (by assumption)) (by omega) (by omega)) ?_
      refine Gv (V_loadS rfl rfl (SlE.rd (by assumption)) (by assumption) (by simp)) ?_
      refine Ga ?_
      refine G_end (X_then (G_seq (G_seq (G_region ?_))))
      refine Gm ?_
      refine Gv (V_geq rfl rfl rfl) ?_
      refine G_end (X_then ?_)
      refine G_cond_f rfl (decide_eq_false (by omega)) ?_
      refine G_skip (X_then (G_seq (G_region ?_)))
      refine Gm ?_
      refine Ga ?_
      refine Ga ?_
      refine G_end (X_then (G_ret ?_))
      refine G_leaveS (.drop _ (.drop _ (.drop _ (.nil _)))) (by exact (.cons (.tmp rfl) (.cons (.tmp rfl) (.nil)))) rfl ?_ ?_
      · exact (.refl _)
      exact ⟨rfl, rfl⟩
end
end Go.Proofs.YtaibabmladgldaaDoor
set_option linter.unusedSimpArgs false
set_option linter.unusedVariables false
set_option maxHeartbeats 2000000
set_option maxRecDepth 20000
namespace Go.Proofs.YtaibabmladgldaaDoor
open Go.RowKit
/-! stack.Awaits. -/
theorem awS_kind (ps : List Pr) (l : List Spt) : 0 ≤ (awS ps l).1 ∧ (awS ps l).1 ≤ 3 := by
  unfold awS
  split
  · simp
  · split
    · simp
    · split <;> simp
section
variable (E : Env) (L : List Res)
theorem Awaits_call (gv : Value) (g : Gr) (hg : GrE E gv g) (hl : Light g) (p : Option Addr) (n c : Nat) (l : List Spt) (hs : SlE E 2 p n (spC l)) (hn : n ≤ 9223372036854775807) :
    CallV Tryd.prog 35 #[gv, .slice p n c] E L (.tuple #[.int .i64 (awaitM g l).1, .int .i64 (awaitM g l).2.1, .int .i64 (awaitM g l).2.2]) := by
  have hc := fun L0 => SCheck_call E L0 gv g hg hl p n c l hs hn
  have en := hs.nSp
  unfold awaitM
  by_cases h : chkS g l ≠ 0
  · rw [if_pos h]
    generalize chkS g l = r at *
    obtain ⟨tp, tc, np, nc, pp, pc, rfl, ht, hn', _, k1, k2, k3⟩ := hg
    refine CallS.toV (CallS.intro (l := [_, _]) _ Tryd.func35 rfl Tryd.ntmps35 rfl ?_)
    refine G_seq (G_region ?_)
    (refine G_boxA rfl rfl rfl rfl (.none rfl) ?_; intro b2)
    refine Ga ?_
    refine Ga ?_
    refine Ga ?_
    refine G_end (X_then (G_seq (G_seq (G_region ?_))))
    refine Gv (V_loadA rfl rfl (Cells.own (.head _)) rfl) ?_
    refine Gm ?_
    refine G_callv (k := 26) (.mk rfl rfl rfl rfl) rfl rfl (.none rfl) (hc _) ?_
    refine Ga ?_
    refine G_end (X_then (G_seq (G_region ?_)))
    refine Gm ?_
    refine Gv (V_neq rfl rfl rfl) ?_
    refine G_end (X_then ?_)
    refine G_cond_t rfl (decide_eq_true (by omega)) ?_
    refine G_seq (G_region ?_)
    refine Gm ?_
    refine Ga ?_
    refine Ga ?_
    refine Ga ?_
    refine G_end (X_then (G_ret (X_then_ret ?_)))
    refine G_leaveS (.drop _ (.nil _)) (by exact (.cons (.tmp rfl) (.cons (.tmp rfl) (.cons (.tmp rfl) (.nil))))) rfl ?_ ?_
    · exact (.refl _)
    exact ⟨rfl, rfl⟩
  · have h0 : chkS g l = 0 := by omega
    rw [if_neg h]
    have hok := chkS_ok h0
    have ha := fun L0 => awaits_call E L0 gv g hg hl p n c l hs (by omega) (chkS_in h0)
    have hk := awS_kind g.prods l
    rw [h0] at hc
    generalize awS g.prods l = r at *
    obtain ⟨tp, tc, np, nc, pp, pc, rfl, ht, hn', _, k1, k2, k3⟩ := hg
    refine CallS.toV (CallS.intro (l := [_, _]) _ Tryd.func35 rfl Tryd.ntmps35 rfl ?_)
    refine G_seq (G_region ?_)
    (refine G_boxA rfl rfl rfl rfl (.none rfl) ?_; intro b2)
    refine Ga ?_
    refine Ga ?_
    refine Ga ?_
    refine G_end (X_then (G_seq (G_seq (G_region ?_))))
    refine Gv (V_loadA rfl rfl (Cells.own (.head _)) rfl) ?_
    refine Gm ?_
    refine G_callv (k := 26) (.mk rfl rfl rfl rfl) rfl rfl (.none rfl) (hc _) ?_
    refine Ga ?_
    refine G_end (X_then (G_seq (G_region ?_)))
    refine Gm ?_
    refine Gv (V_neq rfl rfl rfl) ?_
    refine G_end (X_then ?_)
    refine G_cond_f rfl (by kernel_rfl) ?_
    refine G_skip (X_then (G_seq (G_region ?_)))
    refine Gv (V_loadA rfl rfl (Cells.own (.head _)) rfl) ?_
    refine Gm ?_
    refine G_callv (k := 33) (.mk rfl rfl rfl rfl) rfl rfl (.none rfl) (ha _) ?_
    refine Gm ?_
    refine Gv (V_extract rfl rfl rfl) ?_
    refine Gv (V_extract rfl rfl rfl) ?_
    refine Ga ?_
    refine Ga ?_
    refine G_end (X_then (G_seq (G_region ?_)))
    refine Gm ?_
    refine G_callv (k := 43) (.mk rfl rfl rfl rfl) rfl rfl (.none rfl) (kind_call _ _ _ (by assumption)) ?_
    refine Gm ?_
    refine Ga ?_
    refine Ga ?_
    refine Ga ?_
    refine G_end (X_then (G_ret ?_))
    refine G_leaveS (.drop _ (.nil _)) (by exact (.cons (.tmp rfl) (.cons (.tmp rfl) (.cons (.tmp rfl) (.nil))))) rfl ?_ ?_
    · exact (.refl _)
    exact ⟨rfl, rfl⟩
end
end Go.Proofs.YtaibabmladgldaaDoor
set_option linter.unusedSimpArgs false
set_option linter.unusedVariables false
set_option maxHeartbeats 2000000
set_option maxRecDepth 20000
namespace Go.Proofs.YtaibabmladgldaaDoor
open Go.RowKit
/-! The top dot one further; a clone. -/
theorem bump_snoc (l : List Spt) (q d : Int) : bump (l ++ [(q, d)]) = l ++ [(q, d + 1)] := by
  simp [bump]
section
variable (E : Env) (L : List Res)
theorem moved_call (p : Option Addr) (n c : Nat) (l : List Spt) (q d : Int) (hs : SlE E 2 p n (spC (l ++ [(q, d)]))) (hn : n ≤ 64) (hc : n ≤ c) (hd : 0 ≤ d ∧ d ≤ 1000) :
    CallS Tryd.prog 34 #[.slice p n c] E L (fun r E' L' => ∃ a c', r = .slice a n c' ∧ SlE E' 2 a n (spC (l ++ [(q, d + 1)])) ∧ n ≤ c' ∧ L' = L) := by
  have en := hs.nSp
  rw [List.length_append, List.length_singleton] at en
  subst en
  have x6 : ((spC (l ++ [(q, d)])).drop ((((l.length + 1 : Nat) : Int) - 1).toNat * 2)).take 2 = [.int .i64 q, .int .i64 d] := by
    rw [show (((l.length + 1 : Nat) : Int) - 1).toNat = l.length by omega]
    exact spC_get (show (l ++ [(q, d)])[l.length]? = some (q, d) by simp)
  have hap := spC_append l [(q, d + 1)]
  have hs0 : SlE E 2 p l.length (spC l) := by
    have := hs.head (i := l.length) (by omega)
    rw [spC_append, show l.length * 2 = (spC l).length by rw [spC_len], List.take_left] at this
    exact this
  -- the loads take the first fact that fits
  replace hs := hs
  refine CallS.intro (l := [_]) _ Tryd.func34 rfl Tryd.ntmps34 rfl ?_
  refine G_seq (G_region ?_)
  refine Ga ?_
  refine G_end (X_then (G_seq (G_region ?_)))
  refine Gm ?_
  refine Gv (V_lenS rfl rfl) ?_
  refine Gv (V_sub_i64 rfl rfl rfl (by omega) (by omega)) ?_
  refine Ga ?_
  refine G_end (X_then (G_seq (G_region ?_)))
  refine Gm ?_
  refine Gm ?_
  refine Gv (V_idxAddr rfl rfl rfl (SlE.rd (by assumption)) (by omega) (by omega)) ?_
  refine Gv (V_loadAS rfl rfl (SlE.rd (by assumption)) (by assumption) (by simp) (by rfl)) ?_
  (refine G_alloc rfl rfl rfl (.none rfl) ?_; intro b4)
  refine G_storeA rfl rfl rfl rfl (by simp [Value.oneCell']) rfl (.none rfl) (.head _ _ _) rfl ?_
  refine G_end (X_then (G_seq (G_region ?_)))
  refine Gv (V_fieldAddr rfl rfl (by decide)) ?_
  refine Gv (V_load rfl rfl (Cell.own (.head _) rfl)) ?_
  refine Gv (V_add_i64 rfl rfl rfl (by omega) (by omega)) ?_
  refine Gv (V_fieldAddr rfl rfl (by decide)) ?_
  refine G_storeAt rfl rfl rfl rfl rfl rfl (.none rfl) (.head _ _ _) (Nat.le_of_ble_eq_true rfl) (by simp only [putAll, Nat.zero_add, Nat.reduceAdd, List.setIfInBounds_toArray, List.set_cons_succ, List.set_cons_zero]; rfl) ?_
  refine G_end (X_then (G_seq ?_))
  refine G_drawX 6 [(0, 0), (1, 0), (2, 0), (3, 0), (4, 1), (5, 2)] mixed (by kernel_rfl) ?_
  refine F_pure rfl (fun _ _ => V_move rfl rfl) rfl rfl (.none rfl) ?_
  refine F_pure rfl (fun _ _ => V_move rfl rfl) rfl rfl (.none rfl) ?_
  refine F_pure rfl (fun _ _ => V_move rfl rfl) rfl rfl (.none rfl) ?_
  refine F_pure rfl (fun _ _ => V_sl3 rfl rfl rfl rfl (by omega) (by omega) (by omega)) rfl rfl (.none rfl) ?_
  refine F_load rfl (.head _) (V_loadA rfl rfl (Cells.own (.head _)) rfl) rfl rfl (.none rfl) ?_
  (refine F_litZ rfl rfl rfl (by decide) (by simp [fillS, zeros, setLs, setL, Value.cells, List.range, List.range.loop]; rfl) (by rfl) rfl rfl (.none rfl) ?_; intro b21 E21 hE21 hs21)
  replace hs0 := hs0.mono hE21
  replace hs := hs.mono hE21
  (refine F_end (.nil _) ?_; dsimp only [List.drop])
  rw [show (((l.length + 1 : Nat) : Int) - 1).toNat = l.length by omega]
  refine G_appendZ rfl rfl rfl hs0 hs21 (by omega) (by omega) rfl rfl (.none rfl) ?_
  intro a' c' E9 hE9 hap' hc'
  rw [hap]
  refine Ga ?_
  refine G_end (X_then (G_ret ?_))
  refine G_leaveS (.drop _ (.nil _)) (by exact (.cons (.tmp rfl) (.nil))) rfl ?_ ?_
  · exact (hE21.trans hE9)
  exact ⟨_, ⟨_, ⟨rfl, ⟨(by assumption), ⟨(by assumption), rfl⟩⟩⟩⟩⟩
end
theorem chkS_64 {g : Gr} {l : List Spt} (h : chkS g l = 0) : l.length ≤ 64 := by
  unfold chkS at h
  split at h
  · omega
  · split at h
    · omega
    · omega
theorem awS_nil (ps : List Pr) : awS ps [] = (0, 0) := rfl
theorem awS_some (ps : List Pr) (l : List Spt) (s : Spt) : (awS ps (l ++ [s])).1 ≠ 0 := by
  unfold awS
  rw [List.getLast?_concat]
  simp only
  split
  · simp
  · split <;> simp
end Go.Proofs.YtaibabmladgldaaDoor
