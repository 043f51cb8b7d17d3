/-
  Rules and contracts, packed: E18, E19, E20, E21, D19.
-/
import Derived.Test.YtaoinojdijbhaaaQ10
set_option maxHeartbeats 1000000
set_option linter.unusedSimpArgs false
set_option linter.unusedVariables false
set_option maxHeartbeats 2000000
set_option maxRecDepth 20000
namespace Go.Proofs.Ytaoinojdijbhaaa
open Go.RowKit
theorem ptrs_set {n : Nat} {bs : List Nat} {b i m : Nat} (hi : bs.length = i) (hm : i < m) : (ptrs n bs ++ List.replicate (m - i) (Value.slice none 0 0)).set i (.slice (some ⟨b, 0, none⟩) n n) = ptrs n (bs ++ [b]) ++ List.replicate (m - (i + 1)) (.slice none 0 0) := by
  obtain ⟨k, rfl⟩ : ∃ k, m = i + (k + 1) := ⟨m - i - 1, by omega⟩
  rw [show i + (k + 1) - i = k + 1 by omega, show i + (k + 1) - (i + 1) = k by omega, List.replicate_succ, List.set_append_right _ _ (by simp [ptrs]; omega)]
  simp [ptrs, hi]
theorem ptrs_len (n : Nat) (bs : List Nat) : (ptrs n bs).length = bs.length := by simp [ptrs]
/-- The row that is being turned: la with s's bits below i. -/
def part (la s i : Nat) (j : Nat) : Bool := la.testBit j || (decide (j < i) && s.testBit j)
theorem part_zero (la s : Nat) : part la s 0 = fun j => la.testBit j := by funext j; simp [part]
theorem part_step {la s i : Nat} : (fun j => if j = i then (la.testBit i || s.testBit i) else part la s i j) = part la s (i + 1) := by
  funext j
  simp only [part]
  by_cases h : j = i
  · subst h; rw [if_pos rfl, decide_eq_true (Nat.lt_succ_self j), Bool.true_and]
  · rw [if_neg h]
    by_cases h2 : j < i
    · rw [decide_eq_true h2, decide_eq_true (by omega)]
    · rw [decide_eq_false h2, decide_eq_false (by omega)]
theorem part_at (la s i : Nat) : part la s i i = la.testBit i := by rw [part, decide_eq_false (Nat.lt_irrefl i)]; simp
def tabS (l : List Nat) : Nat → Nat → Bool := fun i j => (l.getD i 0).testBit j
def tabP (l : List Nat) (a s i : Nat) : Nat → Nat → Bool := fun x => if x = a then part (l.getD a 0) s i else fun j => (l.getD x 0).testBit j
theorem tabP_zero (l : List Nat) (a s : Nat) : tabP l a s 0 = tabS l := by
  funext x
  rw [tabP]
  by_cases h : x = a
  · rw [if_pos h, part_zero, h]; rfl
  · rw [if_neg h]; rfl
theorem tabP_set {n : Nat} {l : List Nat} {a s i : Nat} : (tabF n (tabP l a s i)).set a (rowF n (part (l.getD a 0) s (i + 1))) = tabF n (tabP l a s (i + 1)) := by
  rw [tabF_set]
  refine congrArg (tabF n) (funext fun x => ?_)
  rw [tabP, tabP]
  by_cases h : x = a
  · rw [if_pos h, if_pos h]
  · rw [if_neg h, if_neg h, if_neg h]
theorem tabP_done {n : Nat} {l : List Nat} {a s : Nat} (ha : a < l.length) : tabF n (tabP l a s n) = tabF n (tabS (l.set a (l.getD a 0 ||| s))) := by
  refine tabF_ext fun x j hx hj => ?_
  rw [tabP, tabS, getD_set]
  by_cases h : x = a
  · rw [if_pos h, if_pos ⟨h.symm, ha⟩, part, decide_eq_true hj, Bool.true_and, Nat.testBit_or]
  · rw [if_neg h, if_neg (fun hc => h hc.1.symm)]
section
variable (E : Env) (L : List Res)
theorem table_call (gv : Value) (g : Gr) (hg : GrE E gv g) (hl : Light g) (hc : gcheck g = 0) :
    CallS Try.prog 74 #[gv] E L (fun r E' L' => ∃ b bs, r = .slice (some ⟨b, 0, none⟩) g.names.length g.names.length ∧ bs.length = g.names.length ∧ SlE E' 1 (some ⟨b, 0, none⟩) g.names.length (ptrs g.names.length bs) ∧ L' = rowsL bs (tabF g.names.length (tabS (begM g))) ++ L) := by
  have hg0 := hg
  obtain ⟨tp, tc, np', nc', pp, pc, rfl, ht, hnm, ⟨rows, hrows, hps, hre⟩, k1, k2, k3⟩ := hg
  have hlen : g.prods.length = rows.length := by rw [← hrows]; simp
  have q1 := hl.t; have q2 := hl.n; have q3 := hl.p
  have hv := valid_of hc
  have hnn := hv.names
  have hnl : (nullM g).length = g.names.length := nullM_len hv
  have hok : okL g (nullM g) = nullM g := okL_pos hc _
  refine CallS.intro (l := [_]) _ Try.func74 rfl Try.ntmps74 rfl ?_
  refine G_seq (G_region ?_)
  (refine G_boxA rfl rfl rfl rfl (.none rfl) ?_; intro b1)
  refine G_val (V_assign rfl rfl) rfl rfl (.none rfl) ?_
  refine G_end (X_then (G_seq (G_region ?_)))
  refine G_val (V_loadA rfl rfl (Cells.own (.head _)) rfl) rfl rfl (.none rfl) ?_
  refine G_call (k := 39) (.mk rfl rfl rfl rfl) rfl rfl (.none rfl) (NullableR_call _ _ _ _ (by assumption) (by assumption)) ?_
  rintro r1 E2 L3 hE4 ⟨z5, ⟨z6, ⟨rfl, ⟨Z7, rfl⟩⟩⟩⟩
  replace hg0 := hg0.mono hE4
  replace ht := ht.mono hE4
  replace hnm := hnm.mono hE4
  replace hps := hps.mono hE4
  refine G_val (V_move rfl rfl) rfl rfl (.none rfl) ?_
  refine G_val (V_extract rfl rfl rfl) rfl rfl (.none rfl) ?_
  refine G_val (V_extract rfl rfl rfl) rfl rfl (.none rfl) ?_
  refine G_val (V_assign rfl rfl) rfl rfl (.none rfl) ?_
  refine G_val (V_assign rfl rfl) rfl rfl (.none rfl) ?_
  refine G_end (X_then (G_seq (G_region ?_)))
  refine G_val (V_fieldAddr rfl rfl (by decide)) rfl rfl (.none rfl) ?_
  refine G_val (V_load rfl rfl (Cell.own (.head _) rfl)) rfl rfl (.none rfl) ?_
  refine G_val (V_lenS rfl rfl) rfl rfl (.none rfl) ?_
  (refine G_makeSlice rfl rfl rfl (by omega) (by omega) (by omega) rfl rfl (.none rfl) ?_; intro b19)
  refine G_val (V_assign rfl rfl) rfl rfl (.none rfl) ?_
  refine G_end (X_then (G_seq (G_seq (G_region ?_))))
  refine G_val (V_assign rfl rfl) rfl rfl (.none rfl) ?_
  refine G_end (X_then (G_block ?_))
  simp only [Int.toNat_natCast]
  have hsn : SlE E2 1 z5 g.names.length (bools (nullM g)) := by
    have h : SlE E2 1 z5 (okL g (nullM g)).length (bools (okL g (nullM g))) := by assumption
    rwa [hok, hnl] at h
  rw [hok, hnl]
  replace hre := hre.mono (show E.Le E2 by assumption)
  refine G_loop (α := Nat × List Nat) (fun x => [(1, .pointer (some ⟨b1, 0, none⟩)), (3, .slice z5 g.names.length z6), (5, .slice (some ⟨b19, 0, none⟩) g.names.length g.names.length), (6, .int .i64 x.1)]) (fun _ => E2)
    (fun x => .blk b19 (.cells (ptrs g.names.length x.2 ++ List.replicate (g.names.length - x.1) (Value.slice none 0 0)).toArray 47 (0, 0)) :: GB b1 g tp tc np' nc' pp pc :: (rowsL x.2 (List.replicate x.1 (rowF g.names.length fun _ => false)) ++ L))
    (fun x => x.1 ≤ g.names.length ∧ x.2.length = x.1) (fun x => g.names.length - x.1) (0, []) ⟨Nat.zero_le _, rfl⟩ ⟨rfl, rfl, rfl, rfl, trivial⟩ rfl rfl ?_
  rintro ⟨i, bs⟩ ⟨hi, hbs⟩
  simp only at hi hbs ⊢
  have hpl : (ptrs g.names.length bs ++ List.replicate (g.names.length - i) (Value.slice none 0 0)).length = g.names.length := by rw [List.length_append, ptrs_len, List.length_replicate]; omega
  by_cases hlt : i < g.names.length
  · refine G_seq ?_
    refine G_seq (G_region ?_)
    refine G_val (V_move rfl rfl) rfl rfl (.none rfl) ?_
    refine G_val (V_move rfl rfl) rfl rfl (.none rfl) ?_
    refine G_val (V_lenS rfl rfl) rfl rfl (.none rfl) ?_
    refine G_val (V_lss rfl rfl rfl) rfl rfl (.none rfl) ?_
    refine G_end (X_then ?_)
    refine G_cond_t rfl (decide_eq_true (by omega)) ?_
    refine G_skip (X_then (G_seq (G_block (G_region ?_))))
    refine G_val (V_move rfl rfl) rfl rfl (.none rfl) ?_
    refine G_val (V_move rfl rfl) rfl rfl (.none rfl) ?_
    refine G_val (V_fieldAddr rfl rfl (by decide)) rfl rfl (.none rfl) ?_
    refine G_val (V_load rfl rfl (Cell.own (.tail _ (.head _)) rfl)) rfl rfl (.none rfl) ?_
    refine G_val (V_lenS rfl rfl) rfl rfl (.none rfl) ?_
    (refine G_makeSlice rfl rfl rfl (by omega) (by omega) (by omega) rfl rfl (.none rfl) ?_; intro b31)
    refine G_val (V_idxB1n rfl rfl rfl (by omega)) rfl rfl (.none rfl) ?_
    refine G_storeB rfl rfl rfl rfl rfl rfl (.none rfl) (.tail _ (.head _ _ _)) (by omega) ?_
    refine G_end (X_block (X_then (G_region ?_)))
    refine G_val (V_move rfl rfl) rfl rfl (.none rfl) ?_
    refine G_val (V_add_i64 rfl rfl rfl (by omega) (by omega)) rfl rfl (.none rfl) ?_
    refine G_val (V_assign rfl rfl) rfl rfl (.none rfl) ?_
    refine G_end (X_then ?_)
    simp only [Int.toNat_natCast]
    rw [rowF_false, ptrs_set hbs hlt]
    refine G.perm _ ((List.Perm.swap ..).trans (.cons _ ((List.Perm.swap ..).trans (.cons _ List.perm_middle.symm)))) ?_
    refine G_again (i + 1, bs ++ [b31]) ⟨hlt, by rw [List.length_append, hbs]; rfl⟩ (by simp only; omega) ⟨rfl, rfl, rfl, rfl, trivial⟩ rfl ?_
    simp only
    rw [List.replicate_succ', rowsL_snoc _ _ _ _ (by rw [hbs, List.length_replicate]), List.append_assoc]
    rfl
  · have hin : i = g.names.length := by omega
    subst hin
    rw [Nat.sub_self, List.replicate_zero, List.append_nil] at hpl ⊢
    refine G.freezeB (.head _ _) (k := g.names.length) (sz := 1) (by rw [hpl, Nat.mul_one]) ?_
    intro E3 hE3 hsp
    replace hsn := hsn.mono hE3
    replace hre := hre.mono hE3
    have hg1 : GrE E3 (.agg #[.int .i64 g.k, .slice tp g.toks.length tc, .string (S g.sep), .slice np' g.names.length nc', .int .i64 g.start, .slice pp g.prods.length pc]) g := ((by assumption : GrE E2 _ g)).mono hE3
    replace hps := hps.mono hE3
    have hr0 : List.replicate g.names.length (rowF g.names.length fun _ => false) = tabF g.names.length (tabS (begF (nullM g) g.names.length (g.prods.take 0))) := by
      rw [show (List.replicate g.names.length (rowF g.names.length fun _ => false)) = tabF g.names.length fun _ _ => false from (List.ext_getElem (by simp [tabF]) fun j h1 h2 => by simp [tabF])]
      refine tabF_ext fun i j hi hj => ?_
      simp [tabS, begF, List.getD, hi]
    rw [hr0]
    refine G_seq (G_seq (G_region ?_))
    refine G_val (V_move rfl rfl) rfl rfl (.none rfl) ?_
    refine G_val (V_move rfl rfl) rfl rfl (.none rfl) ?_
    refine G_val (V_lenS rfl rfl) rfl rfl (.none rfl) ?_
    refine G_val (V_lss rfl rfl rfl) rfl rfl (.none rfl) ?_
    refine G_end (X_then ?_)
    refine G_cond_f rfl (decide_eq_false (by omega)) ?_
    refine G_exit (X_then_exit (X_then_exit (X_block_hit (X_then (G_seq (G_seq (G_region ?_)))))))
    refine G_val (V_assign rfl rfl) rfl rfl (.none rfl) ?_
    refine G_end (X_then (G_block ?_))
    refine G_loop (α := Nat × Env) (fun x => [(1, .pointer (some ⟨b1, 0, none⟩)), (3, .slice z5 g.names.length z6), (5, .slice (some ⟨b19, 0, none⟩) g.names.length g.names.length), (7, .int .i64 x.1)]) (fun x => x.2)
      (fun x => GB b1 g tp tc np' nc' pp pc :: (rowsL bs (tabF g.names.length (tabS (begF (nullM g) g.names.length (g.prods.take x.1)))) ++ L))
      (fun x => E3.Le x.2 ∧ x.1 ≤ rows.length) (fun x => rows.length - x.1) (0, E3) ⟨.refl _, Nat.zero_le _⟩ ⟨rfl, rfl, rfl, rfl, trivial⟩ rfl rfl ?_
    rintro ⟨p, E4⟩ ⟨hE4, hp⟩
    simp only at hE4 hp ⊢
    replace hsn := hsn.mono hE4
    replace hre := hre.mono hE4
    replace hg1 := hg1.mono hE4
    replace hps := hps.mono hE4
    replace hsp := hsp.mono hE4
    by_cases hltp : p < rows.length
    · have hpd : g.prods.getD p (0, []) = rows[p].2.2 := by rw [← hrows]; simp [List.getD, hltp]
      have hpi : g.prods[p]'(by omega) = rows[p].2.2 := by simp [← hrows]
      have hpm : rows[p].2.2 ∈ g.prods := by rw [← hrows]; exact List.mem_map.2 ⟨rows[p], List.getElem_mem hltp, rfl⟩
      have hlf := hv.wf.left _ hpm
      have hy := prows_left (List.getElem?_eq_getElem hltp)
      have hst := begF_snoc (nul := nullM g) (n := g.names.length) (ps := g.prods) (i := p) (by omega)
      rw [hpi, stepB] at hst
      have hbl := begF_len (nullM g) g.names.length (g.prods.take p)
      refine G_seq (G_seq (G_region ?_))
      refine G_val (V_move rfl rfl) rfl rfl (.none rfl) ?_
      refine G_val (V_fieldAddr rfl rfl (by decide)) rfl rfl (.none rfl) ?_
      refine G_val (V_load rfl rfl (Cell.own (.head _) rfl)) rfl rfl (.none rfl) ?_
      refine G_val (V_lenS rfl rfl) rfl rfl (.none rfl) ?_
      refine G_val (V_lss rfl rfl rfl) rfl rfl (.none rfl) ?_
      refine G_end (X_then ?_)
      refine G_cond_t rfl (decide_eq_true (by omega)) ?_
      refine G_skip (X_then (G_seq (G_block (G_seq (G_region ?_)))))
      refine G_val (V_loadA rfl rfl (Cells.own (.head _)) rfl) rfl rfl (.none rfl) ?_
      refine G_val (V_move rfl rfl) rfl rfl (.none rfl) ?_
      refine G_val (V_move rfl rfl) rfl rfl (.none rfl) ?_
      refine G_call (k := 77) (.mk rfl rfl rfl rfl) rfl rfl (.none rfl) (rby_call _ _ _ _ (by assumption) (by assumption) (by assumption) _ _ (by assumption) _ (by omega)) ?_
      rintro r1 E5 L6 hE7 ⟨z8, ⟨z9, ⟨rfl, ⟨Z10, rfl⟩⟩⟩⟩
      replace hsn := hsn.mono hE7
      replace hg1 := hg1.mono hE7
      replace hps := hps.mono hE7
      replace hsp := hsp.mono hE7
      refine G_val (V_assign rfl rfl) rfl rfl (.none rfl) ?_
      refine G_end (X_then (G_seq (G_region ?_)))
      refine G_val (V_assign rfl rfl) rfl rfl (.none rfl) ?_
      refine G_end (X_then (G_block ?_))
      have hE5 : E4.Le E5 := by assumption
      have hls : SlE E5 1 z8 g.names.length (bools (rowF g.names.length fun j => (byS (nullM g) (g.prods.getD p (0, [])).2).testBit j)) := by assumption
      rw [hpd] at hls
      generalize byS (nullM g) rows[p].2.2.2 = s at hls hst
      generalize hll : begF (nullM g) g.names.length (g.prods.take p) = l at hst hbl ⊢
      have ha : (rows[p].2.2.1 - 16).toNat < g.names.length := by omega
      rw [← tabP_zero l (rows[p].2.2.1 - 16).toNat s]
      refine G_loop (α := Nat) (fun i => [(1, .pointer (some ⟨b1, 0, none⟩)), (3, .slice z5 g.names.length z6), (5, .slice (some ⟨b19, 0, none⟩) g.names.length g.names.length), (7, .int .i64 p), (8, .slice z8 g.names.length z9), (9, .int .i64 i)]) (fun _ => E5)
        (fun i => GB b1 g tp tc np' nc' pp pc :: (rowsL bs (tabF g.names.length (tabP l (rows[p].2.2.1 - 16).toNat s i)) ++ L)) (fun i => i ≤ g.names.length) (fun i => g.names.length - i) 0 (Nat.zero_le _) ⟨rfl, rfl, rfl, rfl, rfl, rfl, trivial⟩ rfl rfl ?_
      intro i hi
      by_cases hlti : i < g.names.length
      · obtain ⟨M, p1, p2⟩ := rows_one bs (tabF g.names.length (tabP l (rows[p].2.2.1 - 16).toNat s i)) (rows[p].2.2.1 - 16).toNat (by omega) (by rw [tabF_len]; exact ha)
        rw [tabF_at ha] at p1
        have hrow : tabP l (rows[p].2.2.1 - 16).toNat s i (rows[p].2.2.1 - 16).toNat = part (l.getD (rows[p].2.2.1 - 16).toNat 0) s i := by rw [tabP, if_pos rfl]
        rw [hrow] at p1
        have hpa := ptrs_at (n := g.names.length) (bs := bs) (i := (rows[p].2.2.1 - 16).toNat) (by omega)
        have hri := rowF_at (n := g.names.length) (f := part (l.getD (rows[p].2.2.1 - 16).toNat 0) s i) hlti
        rw [part_at] at hri
        have hsi := rowF_at (n := g.names.length) (f := fun j => s.testBit j) hlti
        have hrl := brow_len g.names.length (part (l.getD (rows[p].2.2.1 - 16).toNat 0) s i)
        generalize hbb : bs[(rows[p].2.2.1 - 16).toNat]'(by omega) = ba at p1 p2 hpa
        refine G.perm _ (List.Perm.cons _ (p1.append_right L)) ?_
        refine G.perm _ (List.Perm.swap ..) ?_
        have hstep := part_step (la := l.getD (rows[p].2.2.1 - 16).toNat 0) (s := s) (i := i)
        have hnext := fun b => rowF_set (n := g.names.length) (f := part (l.getD (rows[p].2.2.1 - 16).toNat 0) s i) (i := i) (b := b)
        cases hx : (l.getD (rows[p].2.2.1 - 16).toNat 0).testBit i with
        | true =>
          rw [hx] at hri hstep
          rw [Bool.true_or] at hstep
          refine G_seq (G_seq (G_region ?_))
          refine G_val (V_move rfl rfl) rfl rfl (.none rfl) ?_
          refine G_val (V_move rfl rfl) rfl rfl (.none rfl) ?_
          refine G_val (V_lenS rfl rfl) rfl rfl (.none rfl) ?_
          refine G_val (V_lss rfl rfl rfl) rfl rfl (.none rfl) ?_
          refine G_end (X_then ?_)
          refine G_cond_t rfl (decide_eq_true (by omega)) ?_
          refine G_skip (X_then (G_seq (G_block (G_seq (G_region ?_)))))
          refine G_val (V_fieldAddr rfl rfl (by decide)) rfl rfl (.none rfl) ?_
          refine G_val (V_load rfl rfl (Cell.own (.tail _ (.head _)) rfl)) rfl rfl (.none rfl) ?_
          refine G_val (V_move rfl rfl) rfl rfl (.none rfl) ?_
          refine G_val (V_idxAddr rfl rfl rfl (SlE.rd (by assumption)) (by omega) (by omega)) rfl rfl (.none rfl) ?_
          refine G_val (V_fieldAddrE rfl rfl (by assumption) (by omega) (by decide)) rfl rfl (.none rfl) ?_
          refine G_val (V_loadS rfl rfl (SlE.rd (by assumption)) (by assumption) (by simp)) rfl rfl (.none rfl) ?_
          refine G_val (V_sub_i64 rfl rfl rfl (by omega) (by omega)) rfl rfl (.none rfl) ?_
          refine G_val (V_assign rfl rfl) rfl rfl (.none rfl) ?_
          refine G_end (X_then ?_)
          (refine G_drawT 19 mixed (by kernel_rfl) ?_; dsimp only [List.take, List.drop])
          refine Q_val (V_move rfl rfl) rfl rfl (.none rfl) ?_
          refine Q_val (V_move rfl rfl) rfl rfl (.none rfl) ?_
          refine Q_val (V_idxAddr rfl rfl rfl (SlE.rd (by assumption)) (by omega) (by omega)) rfl rfl (.none rfl) ?_
          refine Q_val (V_loadS rfl rfl (SlE.rd (by assumption)) (by assumption) (by simp)) rfl rfl (.none rfl) ?_
          refine Q_val (V_move rfl rfl) rfl rfl (.none rfl) ?_
          refine Q_val (V_move rfl rfl) rfl rfl (.none rfl) ?_
          refine Q_val (V_move rfl rfl) rfl rfl (.none rfl) ?_
          refine Q_val (V_idxAddr rfl rfl rfl (SlE.rd (by assumption)) (by omega) (by omega)) rfl rfl (.none rfl) ?_
          refine Q_val (V_loadS rfl rfl (SlE.rd (by assumption)) (by assumption) (by simp)) rfl rfl (.none rfl) ?_
          refine Q_val (V_move rfl rfl) rfl rfl (.none rfl) ?_
          refine Q_val (V_idxB1n rfl rfl rfl (by omega)) rfl rfl (.none rfl) ?_
          refine Q_val (V_load rfl rfl (Cell.own (.head _) (by assumption))) rfl rfl (.none rfl) ?_
          refine Q_val (V_move rfl rfl) rfl rfl (.none rfl) ?_
          refine Q_stay (.no rfl rfl rfl rfl) rfl rfl ?_
          refine Q_stay (.no rfl rfl rfl rfl) rfl rfl ?_
          refine Q_stay (.no rfl rfl rfl rfl) rfl rfl ?_
          refine Q_stay (.no rfl rfl rfl rfl) rfl rfl ?_
          refine Q_val (V_pick_t rfl rfl rfl) rfl rfl (.none rfl) ?_
          refine Q_val (V_idxB1n rfl rfl rfl (by omega)) rfl rfl (.none rfl) ?_
          refine Q_endT ?_
          refine G_storeB rfl rfl rfl rfl rfl rfl (.none rfl) (.head _ _ _) (by omega) ?_
          refine G_end (X_block (X_then (G_region ?_)))
          refine G_val (V_move rfl rfl) rfl rfl (.none rfl) ?_
          refine G_val (V_add_i64 rfl rfl rfl (by omega) (by omega)) rfl rfl (.none rfl) ?_
          refine G_val (V_assign rfl rfl) rfl rfl (.none rfl) ?_
          refine G_end (X_then ?_)
          rw [hnext, hstep]
          refine G.perm _ (List.Perm.swap ..) ?_
          refine G.perm _ (List.Perm.cons _ ((p2 _).append_right L)) ?_
          rw [tabP_set]
          exact G_again (i + 1) hlti (by omega) ⟨rfl, rfl, rfl, rfl, rfl, rfl, trivial⟩ rfl rfl
        | false =>
          rw [hx] at hri hstep
          rw [Bool.false_or] at hstep
          refine G_seq (G_seq (G_region ?_))
          refine G_val (V_move rfl rfl) rfl rfl (.none rfl) ?_
          refine G_val (V_move rfl rfl) rfl rfl (.none rfl) ?_
          refine G_val (V_lenS rfl rfl) rfl rfl (.none rfl) ?_
          refine G_val (V_lss rfl rfl rfl) rfl rfl (.none rfl) ?_
          refine G_end (X_then ?_)
          refine G_cond_t rfl (decide_eq_true (by omega)) ?_
          refine G_skip (X_then (G_seq (G_block (G_seq (G_region ?_)))))
          refine G_val (V_fieldAddr rfl rfl (by decide)) rfl rfl (.none rfl) ?_
          refine G_val (V_load rfl rfl (Cell.own (.tail _ (.head _)) rfl)) rfl rfl (.none rfl) ?_
          refine G_val (V_move rfl rfl) rfl rfl (.none rfl) ?_
          refine G_val (V_idxAddr rfl rfl rfl (SlE.rd (by assumption)) (by omega) (by omega)) rfl rfl (.none rfl) ?_
          refine G_val (V_fieldAddrE rfl rfl (by assumption) (by omega) (by decide)) rfl rfl (.none rfl) ?_
          refine G_val (V_loadS rfl rfl (SlE.rd (by assumption)) (by assumption) (by simp)) rfl rfl (.none rfl) ?_
          refine G_val (V_sub_i64 rfl rfl rfl (by omega) (by omega)) rfl rfl (.none rfl) ?_
          refine G_val (V_assign rfl rfl) rfl rfl (.none rfl) ?_
          refine G_end (X_then ?_)
          (refine G_drawT 19 mixed (by kernel_rfl) ?_; dsimp only [List.take, List.drop])
          refine Q_val (V_move rfl rfl) rfl rfl (.none rfl) ?_
          refine Q_val (V_move rfl rfl) rfl rfl (.none rfl) ?_
          refine Q_val (V_idxAddr rfl rfl rfl (SlE.rd (by assumption)) (by omega) (by omega)) rfl rfl (.none rfl) ?_
          refine Q_val (V_loadS rfl rfl (SlE.rd (by assumption)) (by assumption) (by simp)) rfl rfl (.none rfl) ?_
          refine Q_val (V_move rfl rfl) rfl rfl (.none rfl) ?_
          refine Q_val (V_move rfl rfl) rfl rfl (.none rfl) ?_
          refine Q_val (V_move rfl rfl) rfl rfl (.none rfl) ?_
          refine Q_val (V_idxAddr rfl rfl rfl (SlE.rd (by assumption)) (by omega) (by omega)) rfl rfl (.none rfl) ?_
          refine Q_val (V_loadS rfl rfl (SlE.rd (by assumption)) (by assumption) (by simp)) rfl rfl (.none rfl) ?_
          refine Q_val (V_move rfl rfl) rfl rfl (.none rfl) ?_
          refine Q_val (V_idxB1n rfl rfl rfl (by omega)) rfl rfl (.none rfl) ?_
          refine Q_val (V_load rfl rfl (Cell.own (.head _) (by assumption))) rfl rfl (.none rfl) ?_
          refine Q_val (V_move rfl rfl) rfl rfl (.none rfl) ?_
          refine Q_val (V_move rfl rfl) rfl rfl (.yes rfl rfl rfl rfl) ?_
          refine Q_val (V_move rfl rfl) rfl rfl (.yes rfl rfl rfl rfl) ?_
          refine Q_val (V_idxAddr rfl rfl rfl (SlE.rd (by assumption)) (by omega) (by omega)) rfl rfl (.yes rfl rfl rfl rfl) ?_
          refine Q_val (V_loadS rfl rfl (SlE.rd (by assumption)) (by assumption) (by simp)) rfl rfl (.yes rfl rfl rfl rfl) ?_
          refine Q_val (V_pick_f rfl rfl rfl) rfl rfl (.none rfl) ?_
          refine Q_val (V_idxB1n rfl rfl rfl (by omega)) rfl rfl (.none rfl) ?_
          refine Q_endT ?_
          refine G_storeB rfl rfl rfl rfl rfl rfl (.none rfl) (.head _ _ _) (by omega) ?_
          refine G_end (X_block (X_then (G_region ?_)))
          refine G_val (V_move rfl rfl) rfl rfl (.none rfl) ?_
          refine G_val (V_add_i64 rfl rfl rfl (by omega) (by omega)) rfl rfl (.none rfl) ?_
          refine G_val (V_assign rfl rfl) rfl rfl (.none rfl) ?_
          refine G_end (X_then ?_)
          rw [hnext, hstep]
          refine G.perm _ (List.Perm.swap ..) ?_
          refine G.perm _ (List.Perm.cons _ ((p2 _).append_right L)) ?_
          rw [tabP_set]
          exact G_again (i + 1) hlti (by omega) ⟨rfl, rfl, rfl, rfl, rfl, rfl, trivial⟩ rfl rfl
      · have hin : i = g.names.length := by omega
        subst hin
        rw [tabP_done (by omega), ← hst]
        refine G_seq (G_seq (G_region ?_))
        refine G_val (V_move rfl rfl) rfl rfl (.none rfl) ?_
        refine G_val (V_move rfl rfl) rfl rfl (.none rfl) ?_
        refine G_val (V_lenS rfl rfl) rfl rfl (.none rfl) ?_
        refine G_val (V_lss rfl rfl rfl) rfl rfl (.none rfl) ?_
        refine G_end (X_then ?_)
        refine G_cond_f rfl (decide_eq_false (by omega)) ?_
        refine G_exit (X_then_exit (X_then_exit (X_block_hit (X_block (X_then (G_region ?_))))))
        refine G_val (V_move rfl rfl) rfl rfl (.none rfl) ?_
        refine G_val (V_add_i64 rfl rfl rfl (by omega) (by omega)) rfl rfl (.none rfl) ?_
        refine G_val (V_assign rfl rfl) rfl rfl (.none rfl) ?_
        refine G_end (X_then ?_)
        exact G_again (p + 1, E5) ⟨hE4.trans hE5, hltp⟩ (by simp only; omega) ⟨rfl, rfl, rfl, rfl, trivial⟩ rfl rfl
    · rw [List.take_of_length_le (by omega)]
      refine G_seq (G_seq (G_region ?_))
      refine G_val (V_move rfl rfl) rfl rfl (.none rfl) ?_
      refine G_val (V_fieldAddr rfl rfl (by decide)) rfl rfl (.none rfl) ?_
      refine G_val (V_load rfl rfl (Cell.own (.head _) rfl)) rfl rfl (.none rfl) ?_
      refine G_val (V_lenS rfl rfl) rfl rfl (.none rfl) ?_
      refine G_val (V_lss rfl rfl rfl) rfl rfl (.none rfl) ?_
      refine G_end (X_then ?_)
      refine G_cond_f rfl (decide_eq_false (by omega)) ?_
      refine G_exit (X_then_exit (X_then_exit (X_block_hit (X_then (G_seq (G_region ?_))))))
      refine G_val (V_move rfl rfl) rfl rfl (.none rfl) ?_
      refine G_val (V_assign rfl rfl) rfl rfl (.none rfl) ?_
      refine G_end (X_then (G_ret ?_))
      exact G_leave 1 (.cons (.tmp rfl) .nil) rfl (by repeat (first | assumption | refine Env.Le.trans (by assumption) ?_)) ⟨_, bs, rfl, hbs, hsp, rfl⟩
end
end Go.Proofs.Ytaoinojdijbhaaa
set_option linter.unusedSimpArgs false
set_option linter.unusedVariables false
set_option maxHeartbeats 2000000
set_option maxRecDepth 20000
namespace Go.Proofs.Ytaoinojdijbhaaa
open Go.RowKit
/-! Chains, reckoned in place. -/
theorem wars_ik (R : Nat → Nat → Bool) (k i : Nat) : wars R (k + 1) i k = wars R k i k := by
  rw [wars]; cases wars R k i k <;> simp
theorem wars_kj (R : Nat → Nat → Bool) (k j : Nat) : wars R (k + 1) k j = wars R k k j := by
  rw [wars]; cases wars R k k j <;> simp
def stT (R : Nat → Nat → Bool) (k i j : Nat) : Nat → Nat → Bool := fun x y => if x < i ∨ (x = i ∧ y < j) then wars R (k + 1) x y else wars R k x y
theorem stT_ij (R : Nat → Nat → Bool) (k i j : Nat) : stT R k i j i j = wars R k i j := by rw [stT, if_neg (by omega)]
theorem stT_ik (R : Nat → Nat → Bool) (k i j : Nat) : stT R k i j i k = wars R k i k := by
  rw [stT]
  by_cases h : i < i ∨ (i = i ∧ k < j)
  · rw [if_pos h, wars_ik]
  · rw [if_neg h]
theorem stT_kj (R : Nat → Nat → Bool) (k i j : Nat) : stT R k i j k j = wars R k k j := by
  rw [stT]
  by_cases h : k < i ∨ (k = i ∧ j < j)
  · rw [if_pos h, wars_kj]
  · rw [if_neg h]
theorem stT_step {R : Nat → Nat → Bool} {n k i j : Nat} {b : Bool} (hb : b = wars R (k + 1) i j) : (tabF n (stT R k i j)).set i (rowF n fun y => if y = j then b else stT R k i j i y) = tabF n (stT R k i (j + 1)) := by
  rw [tabF_set]
  refine congrArg (tabF n) (funext fun x => funext fun y => ?_)
  by_cases hx : x = i
  · subst hx
    rw [if_pos rfl]
    by_cases hy : y = j
    · subst hy; rw [if_pos rfl, stT, if_pos (by omega), hb]
    · rw [if_neg hy, stT, stT]
      by_cases h : y < j
      · rw [if_pos (by omega), if_pos (by omega)]
      · rw [if_neg (by omega), if_neg (by omega)]
  · rw [if_neg hx, stT, stT]
    by_cases h : x < i
    · rw [if_pos (by omega), if_pos (by omega)]
    · rw [if_neg (by omega), if_neg (by omega)]
theorem stT_row {R : Nat → Nat → Bool} {n k i : Nat} : tabF n (stT R k i n) = tabF n (stT R k (i + 1) 0) := tabF_ext fun x y _ hy => by
  rw [stT, stT]
  by_cases h : x < i + 1
  · rw [if_pos (by omega), if_pos (by omega)]
  · rw [if_neg (by omega), if_neg (by omega)]
theorem stT_stage {R : Nat → Nat → Bool} {n k : Nat} : tabF n (stT R k n 0) = tabF n (stT R (k + 1) 0 0) := tabF_ext fun x y hx _ => by
  rw [stT, stT, if_pos (by omega), if_neg (by omega)]
theorem stT_start {R : Nat → Nat → Bool} {n k : Nat} : tabF n (stT R k 0 0) = tabF n (wars R k) := tabF_ext fun x y hx _ => by
  rw [stT, if_neg (by omega)]
section
variable (E : Env) (L : List Res)
theorem chains_call (gv : Value) (g : Gr) (hg : GrE E gv g) (hl : Light g) (hc : gcheck g = 0) :
    CallS Try.prog 109 #[gv] E L (fun r E' L' => ∃ b bs, r = .slice (some ⟨b, 0, none⟩) g.names.length g.names.length ∧ bs.length = g.names.length ∧ SlE E' 1 (some ⟨b, 0, none⟩) g.names.length (ptrs g.names.length bs) ∧ L' = rowsL bs (tabF g.names.length (wars (suc (begM g)) g.names.length)) ++ L) := by
  have hg0 := hg
  obtain ⟨tp, tc, np', nc', pp, pc, rfl, ht, hnm, ⟨rows, hrows, hps, hre⟩, k1, k2, k3⟩ := hg
  have q1 := hl.t; have q2 := hl.n; have q3 := hl.p
  refine CallS.intro (l := [_]) _ Try.func109 rfl Try.ntmps109 rfl ?_
  refine G_seq (G_region ?_)
  (refine G_boxA rfl rfl rfl rfl (.none rfl) ?_; intro b1)
  refine G_val (V_assign rfl rfl) rfl rfl (.none rfl) ?_
  refine G_end (X_then (G_seq (G_region ?_)))
  refine G_val (V_loadA rfl rfl (Cells.own (.head _)) rfl) rfl rfl (.none rfl) ?_
  refine G_call (k := 74) (.mk rfl rfl rfl rfl) rfl rfl (.none rfl) (table_call _ _ _ _ (by assumption) (by assumption) (by assumption)) ?_
  rintro r1 E2 L3 hE4 ⟨z5, ⟨z6, ⟨rfl, ⟨Z7, ⟨Z8, rfl⟩⟩⟩⟩⟩
  replace hg0 := hg0.mono hE4
  replace ht := ht.mono hE4
  replace hnm := hnm.mono hE4
  replace hps := hps.mono hE4
  refine G_val (V_assign rfl rfl) rfl rfl (.none rfl) ?_
  refine G_end (X_then (G_seq (G_seq (G_region ?_))))
  refine G_val (V_assign rfl rfl) rfl rfl (.none rfl) ?_
  refine G_end (X_then (G_block ?_))
  have hbs : z6.length = g.names.length := by assumption
  have hsp : SlE E2 1 (some ⟨z5, 0, none⟩) g.names.length (ptrs g.names.length z6) := by assumption
  refine G.perm _ List.perm_middle ?_
  refine G.drop ?_
  have e0 : tabF g.names.length (tabS (begM g)) = tabF g.names.length (stT (suc (begM g)) 0 0 0) := by
    rw [stT_start]
    exact tabF_ext fun i j _ _ => rfl
  rw [e0]
  generalize suc (begM g) = R
  refine G_loop (α := Nat) (fun k => [(3, .slice (some ⟨z5, 0, none⟩) g.names.length g.names.length), (4, .int .i64 k)]) (fun _ => E2)
    (fun k => rowsL z6 (tabF g.names.length (stT R k 0 0)) ++ L) (fun k => k ≤ g.names.length) (fun k => g.names.length - k) 0 (Nat.zero_le _) ⟨rfl, rfl, trivial⟩ rfl rfl ?_
  intro k hk
  by_cases hltk : k < g.names.length
  · refine G_seq ?_
    refine G_seq (G_region ?_)
    refine G_val (V_move rfl rfl) rfl rfl (.none rfl) ?_
    refine G_val (V_move rfl rfl) rfl rfl (.none rfl) ?_
    refine G_val (V_lenS rfl rfl) rfl rfl (.none rfl) ?_
    refine G_val (V_lss rfl rfl rfl) rfl rfl (.none rfl) ?_
    refine G_end (X_then ?_)
    refine G_cond_t rfl (decide_eq_true (by omega)) ?_
    refine G_skip (X_then (G_seq (G_block (G_seq (G_region ?_)))))
    refine G_val (V_assign rfl rfl) rfl rfl (.none rfl) ?_
    refine G_end (X_then (G_block ?_))
    refine G_loop (α := Nat) (fun i => [(3, .slice (some ⟨z5, 0, none⟩) g.names.length g.names.length), (4, .int .i64 k), (5, .int .i64 i)]) (fun _ => E2)
      (fun i => rowsL z6 (tabF g.names.length (stT R k i 0)) ++ L) (fun i => i ≤ g.names.length) (fun i => g.names.length - i) 0 (Nat.zero_le _) ⟨rfl, rfl, rfl, trivial⟩ rfl rfl ?_
    intro i hi
    by_cases hlti : i < g.names.length
    · refine G_seq ?_
      refine G_seq (G_region ?_)
      refine G_val (V_move rfl rfl) rfl rfl (.none rfl) ?_
      refine G_val (V_move rfl rfl) rfl rfl (.none rfl) ?_
      refine G_val (V_lenS rfl rfl) rfl rfl (.none rfl) ?_
      refine G_val (V_lss rfl rfl rfl) rfl rfl (.none rfl) ?_
      refine G_end (X_then ?_)
      refine G_cond_t rfl (decide_eq_true (by omega)) ?_
      refine G_skip (X_then (G_seq (G_block (G_seq (G_region ?_)))))
      refine G_val (V_assign rfl rfl) rfl rfl (.none rfl) ?_
      refine G_end (X_then (G_block ?_))
      refine G_loop (α := Nat) (fun j => [(3, .slice (some ⟨z5, 0, none⟩) g.names.length g.names.length), (4, .int .i64 k), (5, .int .i64 i), (6, .int .i64 j)]) (fun _ => E2)
        (fun j => rowsL z6 (tabF g.names.length (stT R k i j)) ++ L) (fun j => j ≤ g.names.length) (fun j => g.names.length - j) 0 (Nat.zero_le _) ⟨rfl, rfl, rfl, rfl, trivial⟩ rfl rfl ?_
      intro j hj
      by_cases hltj : j < g.names.length
      · have hpi := ptrs_at (n := g.names.length) (bs := z6) (i := i) (by omega)
        have hpk := ptrs_at (n := g.names.length) (bs := z6) (i := k) (by omega)
        have r1 := rowF_at (n := g.names.length) (f := stT R k i j i) hltj
        have r2 := rowF_at (n := g.names.length) (f := stT R k i j i) hltk
        have r3 := rowF_at (n := g.names.length) (f := stT R k i j k) hltj
        have hl1 := brow_len g.names.length (stT R k i j i)
        have hl3 := brow_len g.names.length (stT R k i j k)
        rw [stT_ij] at r1
        rw [stT_ik] at r2
        rw [stT_kj] at r3
        have hw : wars R (k + 1) i j = (wars R k i j || (wars R k i k && wars R k k j)) := rfl
        have hset := fun b => rowF_set (n := g.names.length) (f := stT R k i j i) (i := j) (b := b)
        by_cases hik : i = k
        · subst hik
          obtain ⟨M, p1, p2⟩ := rows_one z6 (tabF g.names.length (stT R i i j)) i (by omega) (by rw [tabF_len]; exact hlti)
          rw [tabF_at hlti] at p1
          refine G.perm _ (p1.append_right L) ?_
          cases a1 : wars R i i j with
          | true =>
            rw [a1] at r1 r3 hw
            rw [Bool.true_or] at hw
            refine G_seq (G_seq (G_region ?_))
            refine G_val (V_move rfl rfl) rfl rfl (.none rfl) ?_
            refine G_val (V_move rfl rfl) rfl rfl (.none rfl) ?_
            refine G_val (V_lenS rfl rfl) rfl rfl (.none rfl) ?_
            refine G_val (V_lss rfl rfl rfl) rfl rfl (.none rfl) ?_
            refine G_end (X_then ?_)
            refine G_cond_t rfl (decide_eq_true (by omega)) ?_
            refine G_skip (X_then (G_seq (G_block ?_)))
            (refine G_drawT 31 mixed (by kernel_rfl) ?_; dsimp only [List.take, List.drop])
            refine Q_val (V_move rfl rfl) rfl rfl (.none rfl) ?_
            refine Q_val (V_move rfl rfl) rfl rfl (.none rfl) ?_
            refine Q_val (V_idxAddr rfl rfl rfl (SlE.rd (by assumption)) (by omega) (by omega)) rfl rfl (.none rfl) ?_
            refine Q_val (V_loadS rfl rfl (SlE.rd (by assumption)) (by assumption) (by simp)) rfl rfl (.none rfl) ?_
            refine Q_val (V_move rfl rfl) rfl rfl (.none rfl) ?_
            refine Q_val (V_move rfl rfl) rfl rfl (.none rfl) ?_
            refine Q_val (V_move rfl rfl) rfl rfl (.none rfl) ?_
            refine Q_val (V_idxAddr rfl rfl rfl (SlE.rd (by assumption)) (by omega) (by omega)) rfl rfl (.none rfl) ?_
            refine Q_val (V_loadS rfl rfl (SlE.rd (by assumption)) (by assumption) (by simp)) rfl rfl (.none rfl) ?_
            refine Q_val (V_move rfl rfl) rfl rfl (.none rfl) ?_
            refine Q_val (V_idxB1n rfl rfl rfl (by omega)) rfl rfl (.none rfl) ?_
            refine Q_val (V_load rfl rfl (Cell.own (.head _) (by assumption))) rfl rfl (.none rfl) ?_
            refine Q_val (V_move rfl rfl) rfl rfl (.none rfl) ?_
            refine Q_stay (.no rfl rfl rfl rfl) rfl rfl ?_
            refine Q_stay (.no rfl rfl rfl rfl) rfl rfl ?_
            refine Q_stay (.no rfl rfl rfl rfl) rfl rfl ?_
            refine Q_stay (.no rfl rfl rfl rfl) rfl rfl ?_
            refine Q_stay (.no rfl rfl rfl rfl) rfl rfl ?_
            refine Q_stay (.no rfl rfl rfl rfl) rfl rfl ?_
            refine Q_stay (.no rfl rfl rfl rfl) rfl rfl ?_
            refine Q_stay (.no rfl rfl rfl rfl) rfl rfl ?_
            refine Q_stay (.un rfl rfl rfl rfl) rfl rfl ?_
            refine Q_stay (.un rfl rfl rfl rfl) rfl rfl ?_
            refine Q_stay (.un rfl rfl rfl rfl) rfl rfl ?_
            refine Q_stay (.un rfl rfl rfl rfl) rfl rfl ?_
            refine Q_stay (.un rfl rfl rfl rfl) rfl rfl ?_
            refine Q_stay (.un rfl rfl rfl rfl) rfl rfl ?_
            refine Q_stay (.un rfl rfl rfl rfl) rfl rfl ?_
            refine Q_stay (.no rfl rfl rfl rfl) rfl rfl ?_
            refine Q_val (V_pick_t rfl rfl rfl) rfl rfl (.none rfl) ?_
            refine Q_val (V_idxB1n rfl rfl rfl (by omega)) rfl rfl (.none rfl) ?_
            refine Q_endT ?_
            refine G_storeB rfl rfl rfl rfl rfl rfl (.none rfl) (.head _ _ _) (by omega) ?_
            refine G_end (X_block (X_then (G_region ?_)))
            refine G_val (V_move rfl rfl) rfl rfl (.none rfl) ?_
            refine G_val (V_add_i64 rfl rfl rfl (by omega) (by omega)) rfl rfl (.none rfl) ?_
            refine G_val (V_assign rfl rfl) rfl rfl (.none rfl) ?_
            refine G_end (X_then ?_)
            rw [hset]
            refine G.perm _ ((p2 _).append_right L) ?_
            rw [stT_step hw.symm]
            exact G_again (j + 1) hltj (by omega) ⟨rfl, rfl, rfl, rfl, trivial⟩ rfl rfl
          | false =>
            rw [a1] at r1 r3 hw
            rw [Bool.and_false, Bool.or_false] at hw
            cases a2 : wars R i i i with
            | true =>
              rw [a2] at r2
              refine G_seq (G_seq (G_region ?_))
              refine G_val (V_move rfl rfl) rfl rfl (.none rfl) ?_
              refine G_val (V_move rfl rfl) rfl rfl (.none rfl) ?_
              refine G_val (V_lenS rfl rfl) rfl rfl (.none rfl) ?_
              refine G_val (V_lss rfl rfl rfl) rfl rfl (.none rfl) ?_
              refine G_end (X_then ?_)
              refine G_cond_t rfl (decide_eq_true (by omega)) ?_
              refine G_skip (X_then (G_seq (G_block ?_)))
              (refine G_drawT 31 mixed (by kernel_rfl) ?_; dsimp only [List.take, List.drop])
              refine Q_val (V_move rfl rfl) rfl rfl (.none rfl) ?_
              refine Q_val (V_move rfl rfl) rfl rfl (.none rfl) ?_
              refine Q_val (V_idxAddr rfl rfl rfl (SlE.rd (by assumption)) (by omega) (by omega)) rfl rfl (.none rfl) ?_
              refine Q_val (V_loadS rfl rfl (SlE.rd (by assumption)) (by assumption) (by simp)) rfl rfl (.none rfl) ?_
              refine Q_val (V_move rfl rfl) rfl rfl (.none rfl) ?_
              refine Q_val (V_move rfl rfl) rfl rfl (.none rfl) ?_
              refine Q_val (V_move rfl rfl) rfl rfl (.none rfl) ?_
              refine Q_val (V_idxAddr rfl rfl rfl (SlE.rd (by assumption)) (by omega) (by omega)) rfl rfl (.none rfl) ?_
              refine Q_val (V_loadS rfl rfl (SlE.rd (by assumption)) (by assumption) (by simp)) rfl rfl (.none rfl) ?_
              refine Q_val (V_move rfl rfl) rfl rfl (.none rfl) ?_
              refine Q_val (V_idxB1n rfl rfl rfl (by omega)) rfl rfl (.none rfl) ?_
              refine Q_val (V_load rfl rfl (Cell.own (.head _) (by assumption))) rfl rfl (.none rfl) ?_
              refine Q_val (V_move rfl rfl) rfl rfl (.none rfl) ?_
              refine Q_val (V_move rfl rfl) rfl rfl (.yes rfl rfl rfl rfl) ?_
              refine Q_val (V_move rfl rfl) rfl rfl (.yes rfl rfl rfl rfl) ?_
              refine Q_val (V_idxAddr rfl rfl rfl (SlE.rd (by assumption)) (by omega) (by omega)) rfl rfl (.yes rfl rfl rfl rfl) ?_
              refine Q_val (V_loadS rfl rfl (SlE.rd (by assumption)) (by assumption) (by simp)) rfl rfl (.yes rfl rfl rfl rfl) ?_
              refine Q_val (V_move rfl rfl) rfl rfl (.yes rfl rfl rfl rfl) ?_
              refine Q_val (V_idxB1n rfl rfl rfl (by omega)) rfl rfl (.yes rfl rfl rfl rfl) ?_
              refine Q_val (V_load rfl rfl (Cell.own (.head _) (by assumption))) rfl rfl (.yes rfl rfl rfl rfl) ?_
              refine Q_val (V_move rfl rfl) rfl rfl (.yes rfl rfl rfl rfl) ?_
              refine Q_val (V_move rfl rfl) rfl rfl (.yes rfl rfl rfl rfl) ?_
              refine Q_val (V_move rfl rfl) rfl rfl (.yes rfl rfl rfl rfl) ?_
              refine Q_val (V_idxAddr rfl rfl rfl (SlE.rd (by assumption)) (by omega) (by omega)) rfl rfl (.yes rfl rfl rfl rfl) ?_
              refine Q_val (V_loadS rfl rfl (SlE.rd (by assumption)) (by assumption) (by simp)) rfl rfl (.yes rfl rfl rfl rfl) ?_
              refine Q_val (V_move rfl rfl) rfl rfl (.yes rfl rfl rfl rfl) ?_
              refine Q_val (V_idxB1n rfl rfl rfl (by omega)) rfl rfl (.yes rfl rfl rfl rfl) ?_
              refine Q_val (V_load rfl rfl (Cell.own (.head _) (by assumption))) rfl rfl (.yes rfl rfl rfl rfl) ?_
              refine Q_val (V_pick_t rfl rfl rfl) rfl rfl (.yes rfl rfl rfl rfl) ?_
              refine Q_val (V_pick_f rfl rfl rfl) rfl rfl (.none rfl) ?_
              refine Q_val (V_idxB1n rfl rfl rfl (by omega)) rfl rfl (.none rfl) ?_
              refine Q_endT ?_
              refine G_storeB rfl rfl rfl rfl rfl rfl (.none rfl) (.head _ _ _) (by omega) ?_
              refine G_end (X_block (X_then (G_region ?_)))
              refine G_val (V_move rfl rfl) rfl rfl (.none rfl) ?_
              refine G_val (V_add_i64 rfl rfl rfl (by omega) (by omega)) rfl rfl (.none rfl) ?_
              refine G_val (V_assign rfl rfl) rfl rfl (.none rfl) ?_
              refine G_end (X_then ?_)
              rw [hset]
              refine G.perm _ ((p2 _).append_right L) ?_
              rw [stT_step hw.symm]
              exact G_again (j + 1) hltj (by omega) ⟨rfl, rfl, rfl, rfl, trivial⟩ rfl rfl
            | false =>
              rw [a2] at r2
              refine G_seq (G_seq (G_region ?_))
              refine G_val (V_move rfl rfl) rfl rfl (.none rfl) ?_
              refine G_val (V_move rfl rfl) rfl rfl (.none rfl) ?_
              refine G_val (V_lenS rfl rfl) rfl rfl (.none rfl) ?_
              refine G_val (V_lss rfl rfl rfl) rfl rfl (.none rfl) ?_
              refine G_end (X_then ?_)
              refine G_cond_t rfl (decide_eq_true (by omega)) ?_
              refine G_skip (X_then (G_seq (G_block ?_)))
              (refine G_drawT 31 mixed (by kernel_rfl) ?_; dsimp only [List.take, List.drop])
              refine Q_val (V_move rfl rfl) rfl rfl (.none rfl) ?_
              refine Q_val (V_move rfl rfl) rfl rfl (.none rfl) ?_
              refine Q_val (V_idxAddr rfl rfl rfl (SlE.rd (by assumption)) (by omega) (by omega)) rfl rfl (.none rfl) ?_
              refine Q_val (V_loadS rfl rfl (SlE.rd (by assumption)) (by assumption) (by simp)) rfl rfl (.none rfl) ?_
              refine Q_val (V_move rfl rfl) rfl rfl (.none rfl) ?_
              refine Q_val (V_move rfl rfl) rfl rfl (.none rfl) ?_
              refine Q_val (V_move rfl rfl) rfl rfl (.none rfl) ?_
              refine Q_val (V_idxAddr rfl rfl rfl (SlE.rd (by assumption)) (by omega) (by omega)) rfl rfl (.none rfl) ?_
              refine Q_val (V_loadS rfl rfl (SlE.rd (by assumption)) (by assumption) (by simp)) rfl rfl (.none rfl) ?_
              refine Q_val (V_move rfl rfl) rfl rfl (.none rfl) ?_
              refine Q_val (V_idxB1n rfl rfl rfl (by omega)) rfl rfl (.none rfl) ?_
              refine Q_val (V_load rfl rfl (Cell.own (.head _) (by assumption))) rfl rfl (.none rfl) ?_
              refine Q_val (V_move rfl rfl) rfl rfl (.none rfl) ?_
              refine Q_val (V_move rfl rfl) rfl rfl (.yes rfl rfl rfl rfl) ?_
              refine Q_val (V_move rfl rfl) rfl rfl (.yes rfl rfl rfl rfl) ?_
              refine Q_val (V_idxAddr rfl rfl rfl (SlE.rd (by assumption)) (by omega) (by omega)) rfl rfl (.yes rfl rfl rfl rfl) ?_
              refine Q_val (V_loadS rfl rfl (SlE.rd (by assumption)) (by assumption) (by simp)) rfl rfl (.yes rfl rfl rfl rfl) ?_
              refine Q_val (V_move rfl rfl) rfl rfl (.yes rfl rfl rfl rfl) ?_
              refine Q_val (V_idxB1n rfl rfl rfl (by omega)) rfl rfl (.yes rfl rfl rfl rfl) ?_
              refine Q_val (V_load rfl rfl (Cell.own (.head _) (by assumption))) rfl rfl (.yes rfl rfl rfl rfl) ?_
              refine Q_val (V_move rfl rfl) rfl rfl (.yes rfl rfl rfl rfl) ?_
              refine Q_stay (.no rfl rfl rfl rfl) rfl rfl ?_
              refine Q_stay (.no rfl rfl rfl rfl) rfl rfl ?_
              refine Q_stay (.no rfl rfl rfl rfl) rfl rfl ?_
              refine Q_stay (.no rfl rfl rfl rfl) rfl rfl ?_
              refine Q_stay (.no rfl rfl rfl rfl) rfl rfl ?_
              refine Q_stay (.no rfl rfl rfl rfl) rfl rfl ?_
              refine Q_stay (.no rfl rfl rfl rfl) rfl rfl ?_
              refine Q_val (V_pick_f rfl rfl rfl) rfl rfl (.yes rfl rfl rfl rfl) ?_
              refine Q_val (V_pick_f rfl rfl rfl) rfl rfl (.none rfl) ?_
              refine Q_val (V_idxB1n rfl rfl rfl (by omega)) rfl rfl (.none rfl) ?_
              refine Q_endT ?_
              refine G_storeB rfl rfl rfl rfl rfl rfl (.none rfl) (.head _ _ _) (by omega) ?_
              refine G_end (X_block (X_then (G_region ?_)))
              refine G_val (V_move rfl rfl) rfl rfl (.none rfl) ?_
              refine G_val (V_add_i64 rfl rfl rfl (by omega) (by omega)) rfl rfl (.none rfl) ?_
              refine G_val (V_assign rfl rfl) rfl rfl (.none rfl) ?_
              refine G_end (X_then ?_)
              rw [hset]
              refine G.perm _ ((p2 _).append_right L) ?_
              rw [stT_step hw.symm]
              exact G_again (j + 1) hltj (by omega) ⟨rfl, rfl, rfl, rfl, trivial⟩ rfl rfl
        · obtain ⟨M, p1, p2⟩ := rows_two z6 (tabF g.names.length (stT R k i j)) i k (by omega) (by rw [tabF_len]; exact hlti) (by omega) (by rw [tabF_len]; exact hltk) hik
          rw [tabF_at hlti, tabF_at hltk] at p1
          rw [tabF_at hltk] at p2
          refine G.perm _ (p1.append_right L) ?_
          cases a1 : wars R k i j with
          | true =>
            rw [a1] at r1 hw
            rw [Bool.true_or] at hw
            refine G_seq (G_seq (G_region ?_))
            refine G_val (V_move rfl rfl) rfl rfl (.none rfl) ?_
            refine G_val (V_move rfl rfl) rfl rfl (.none rfl) ?_
            refine G_val (V_lenS rfl rfl) rfl rfl (.none rfl) ?_
            refine G_val (V_lss rfl rfl rfl) rfl rfl (.none rfl) ?_
            refine G_end (X_then ?_)
            refine G_cond_t rfl (decide_eq_true (by omega)) ?_
            refine G_skip (X_then (G_seq (G_block ?_)))
            (refine G_drawT 31 mixed (by kernel_rfl) ?_; dsimp only [List.take, List.drop])
            refine Q_val (V_move rfl rfl) rfl rfl (.none rfl) ?_
            refine Q_val (V_move rfl rfl) rfl rfl (.none rfl) ?_
            refine Q_val (V_idxAddr rfl rfl rfl (SlE.rd (by assumption)) (by omega) (by omega)) rfl rfl (.none rfl) ?_
            refine Q_val (V_loadS rfl rfl (SlE.rd (by assumption)) hpi (by simp)) rfl rfl (.none rfl) ?_
            refine Q_val (V_move rfl rfl) rfl rfl (.none rfl) ?_
            refine Q_val (V_move rfl rfl) rfl rfl (.none rfl) ?_
            refine Q_val (V_move rfl rfl) rfl rfl (.none rfl) ?_
            refine Q_val (V_idxAddr rfl rfl rfl (SlE.rd (by assumption)) (by omega) (by omega)) rfl rfl (.none rfl) ?_
            refine Q_val (V_loadS rfl rfl (SlE.rd (by assumption)) hpi (by simp)) rfl rfl (.none rfl) ?_
            refine Q_val (V_move rfl rfl) rfl rfl (.none rfl) ?_
            refine Q_val (V_idxB1n rfl rfl rfl (by omega)) rfl rfl (.none rfl) ?_
            refine Q_val (V_load rfl rfl (Cell.own (.head _) (by assumption))) rfl rfl (.none rfl) ?_
            refine Q_val (V_move rfl rfl) rfl rfl (.none rfl) ?_
            refine Q_stay (.no rfl rfl rfl rfl) rfl rfl ?_
            refine Q_stay (.no rfl rfl rfl rfl) rfl rfl ?_
            refine Q_stay (.no rfl rfl rfl rfl) rfl rfl ?_
            refine Q_stay (.no rfl rfl rfl rfl) rfl rfl ?_
            refine Q_stay (.no rfl rfl rfl rfl) rfl rfl ?_
            refine Q_stay (.no rfl rfl rfl rfl) rfl rfl ?_
            refine Q_stay (.no rfl rfl rfl rfl) rfl rfl ?_
            refine Q_stay (.no rfl rfl rfl rfl) rfl rfl ?_
            refine Q_stay (.un rfl rfl rfl rfl) rfl rfl ?_
            refine Q_stay (.un rfl rfl rfl rfl) rfl rfl ?_
            refine Q_stay (.un rfl rfl rfl rfl) rfl rfl ?_
            refine Q_stay (.un rfl rfl rfl rfl) rfl rfl ?_
            refine Q_stay (.un rfl rfl rfl rfl) rfl rfl ?_
            refine Q_stay (.un rfl rfl rfl rfl) rfl rfl ?_
            refine Q_stay (.un rfl rfl rfl rfl) rfl rfl ?_
            refine Q_stay (.no rfl rfl rfl rfl) rfl rfl ?_
            refine Q_val (V_pick_t rfl rfl rfl) rfl rfl (.none rfl) ?_
            refine Q_val (V_idxB1n rfl rfl rfl (by omega)) rfl rfl (.none rfl) ?_
            refine Q_endT ?_
            refine G_storeB rfl rfl rfl rfl rfl rfl (.none rfl) (.head _ _ _) (by omega) ?_
            refine G_end (X_block (X_then (G_region ?_)))
            refine G_val (V_move rfl rfl) rfl rfl (.none rfl) ?_
            refine G_val (V_add_i64 rfl rfl rfl (by omega) (by omega)) rfl rfl (.none rfl) ?_
            refine G_val (V_assign rfl rfl) rfl rfl (.none rfl) ?_
            refine G_end (X_then ?_)
            rw [hset]
            refine G.perm _ ((p2 _).append_right L) ?_
            rw [stT_step hw.symm]
            exact G_again (j + 1) hltj (by omega) ⟨rfl, rfl, rfl, rfl, trivial⟩ rfl rfl
          | false =>
            rw [a1] at r1 hw
            rw [Bool.false_or] at hw
            cases a2 : wars R k i k with
            | true =>
              rw [a2] at r2 hw
              rw [Bool.true_and] at hw
              refine G_seq (G_seq (G_region ?_))
              refine G_val (V_move rfl rfl) rfl rfl (.none rfl) ?_
              refine G_val (V_move rfl rfl) rfl rfl (.none rfl) ?_
              refine G_val (V_lenS rfl rfl) rfl rfl (.none rfl) ?_
              refine G_val (V_lss rfl rfl rfl) rfl rfl (.none rfl) ?_
              refine G_end (X_then ?_)
              refine G_cond_t rfl (decide_eq_true (by omega)) ?_
              refine G_skip (X_then (G_seq (G_block ?_)))
              (refine G_drawT 31 mixed (by kernel_rfl) ?_; dsimp only [List.take, List.drop])
              refine Q_val (V_move rfl rfl) rfl rfl (.none rfl) ?_
              refine Q_val (V_move rfl rfl) rfl rfl (.none rfl) ?_
              refine Q_val (V_idxAddr rfl rfl rfl (SlE.rd (by assumption)) (by omega) (by omega)) rfl rfl (.none rfl) ?_
              refine Q_val (V_loadS rfl rfl (SlE.rd (by assumption)) hpi (by simp)) rfl rfl (.none rfl) ?_
              refine Q_val (V_move rfl rfl) rfl rfl (.none rfl) ?_
              refine Q_val (V_move rfl rfl) rfl rfl (.none rfl) ?_
              refine Q_val (V_move rfl rfl) rfl rfl (.none rfl) ?_
              refine Q_val (V_idxAddr rfl rfl rfl (SlE.rd (by assumption)) (by omega) (by omega)) rfl rfl (.none rfl) ?_
              refine Q_val (V_loadS rfl rfl (SlE.rd (by assumption)) hpi (by simp)) rfl rfl (.none rfl) ?_
              refine Q_val (V_move rfl rfl) rfl rfl (.none rfl) ?_
              refine Q_val (V_idxB1n rfl rfl rfl (by omega)) rfl rfl (.none rfl) ?_
              refine Q_val (V_load rfl rfl (Cell.own (.head _) (by assumption))) rfl rfl (.none rfl) ?_
              refine Q_val (V_move rfl rfl) rfl rfl (.none rfl) ?_
              refine Q_val (V_move rfl rfl) rfl rfl (.yes rfl rfl rfl rfl) ?_
              refine Q_val (V_move rfl rfl) rfl rfl (.yes rfl rfl rfl rfl) ?_
              refine Q_val (V_idxAddr rfl rfl rfl (SlE.rd (by assumption)) (by omega) (by omega)) rfl rfl (.yes rfl rfl rfl rfl) ?_
              refine Q_val (V_loadS rfl rfl (SlE.rd (by assumption)) hpi (by simp)) rfl rfl (.yes rfl rfl rfl rfl) ?_
              refine Q_val (V_move rfl rfl) rfl rfl (.yes rfl rfl rfl rfl) ?_
              refine Q_val (V_idxB1n rfl rfl rfl (by omega)) rfl rfl (.yes rfl rfl rfl rfl) ?_
              refine Q_val (V_load rfl rfl (Cell.own (.head _) (by assumption))) rfl rfl (.yes rfl rfl rfl rfl) ?_
              refine Q_val (V_move rfl rfl) rfl rfl (.yes rfl rfl rfl rfl) ?_
              refine Q_val (V_move rfl rfl) rfl rfl (.yes rfl rfl rfl rfl) ?_
              refine Q_val (V_move rfl rfl) rfl rfl (.yes rfl rfl rfl rfl) ?_
              refine Q_val (V_idxAddr rfl rfl rfl (SlE.rd (by assumption)) (by omega) (by omega)) rfl rfl (.yes rfl rfl rfl rfl) ?_
              refine Q_val (V_loadS rfl rfl (SlE.rd (by assumption)) (by assumption) (by simp)) rfl rfl (.yes rfl rfl rfl rfl) ?_
              refine Q_val (V_move rfl rfl) rfl rfl (.yes rfl rfl rfl rfl) ?_
              refine Q_val (V_idxB1n rfl rfl rfl (by omega)) rfl rfl (.yes rfl rfl rfl rfl) ?_
              refine Q_val (V_load rfl rfl (Cell.own (.tail _ (.head _)) (by assumption))) rfl rfl (.yes rfl rfl rfl rfl) ?_
              refine Q_val (V_pick_t rfl rfl rfl) rfl rfl (.yes rfl rfl rfl rfl) ?_
              refine Q_val (V_pick_f rfl rfl rfl) rfl rfl (.none rfl) ?_
              refine Q_val (V_idxB1n rfl rfl rfl (by omega)) rfl rfl (.none rfl) ?_
              refine Q_endT ?_
              refine G_storeB rfl rfl rfl rfl rfl rfl (.none rfl) (.head _ _ _) (by omega) ?_
              refine G_end (X_block (X_then (G_region ?_)))
              refine G_val (V_move rfl rfl) rfl rfl (.none rfl) ?_
              refine G_val (V_add_i64 rfl rfl rfl (by omega) (by omega)) rfl rfl (.none rfl) ?_
              refine G_val (V_assign rfl rfl) rfl rfl (.none rfl) ?_
              refine G_end (X_then ?_)
              rw [hset]
              refine G.perm _ ((p2 _).append_right L) ?_
              rw [stT_step hw.symm]
              exact G_again (j + 1) hltj (by omega) ⟨rfl, rfl, rfl, rfl, trivial⟩ rfl rfl
            | false =>
              rw [a2] at r2 hw
              rw [Bool.false_and] at hw
              refine G_seq (G_seq (G_region ?_))
              refine G_val (V_move rfl rfl) rfl rfl (.none rfl) ?_
              refine G_val (V_move rfl rfl) rfl rfl (.none rfl) ?_
              refine G_val (V_lenS rfl rfl) rfl rfl (.none rfl) ?_
              refine G_val (V_lss rfl rfl rfl) rfl rfl (.none rfl) ?_
              refine G_end (X_then ?_)
              refine G_cond_t rfl (decide_eq_true (by omega)) ?_
              refine G_skip (X_then (G_seq (G_block ?_)))
              (refine G_drawT 31 mixed (by kernel_rfl) ?_; dsimp only [List.take, List.drop])
              refine Q_val (V_move rfl rfl) rfl rfl (.none rfl) ?_
              refine Q_val (V_move rfl rfl) rfl rfl (.none rfl) ?_
              refine Q_val (V_idxAddr rfl rfl rfl (SlE.rd (by assumption)) (by omega) (by omega)) rfl rfl (.none rfl) ?_
              refine Q_val (V_loadS rfl rfl (SlE.rd (by assumption)) hpi (by simp)) rfl rfl (.none rfl) ?_
              refine Q_val (V_move rfl rfl) rfl rfl (.none rfl) ?_
              refine Q_val (V_move rfl rfl) rfl rfl (.none rfl) ?_
              refine Q_val (V_move rfl rfl) rfl rfl (.none rfl) ?_
              refine Q_val (V_idxAddr rfl rfl rfl (SlE.rd (by assumption)) (by omega) (by omega)) rfl rfl (.none rfl) ?_
              refine Q_val (V_loadS rfl rfl (SlE.rd (by assumption)) hpi (by simp)) rfl rfl (.none rfl) ?_
              refine Q_val (V_move rfl rfl) rfl rfl (.none rfl) ?_
              refine Q_val (V_idxB1n rfl rfl rfl (by omega)) rfl rfl (.none rfl) ?_
              refine Q_val (V_load rfl rfl (Cell.own (.head _) (by assumption))) rfl rfl (.none rfl) ?_
              refine Q_val (V_move rfl rfl) rfl rfl (.none rfl) ?_
              refine Q_val (V_move rfl rfl) rfl rfl (.yes rfl rfl rfl rfl) ?_
              refine Q_val (V_move rfl rfl) rfl rfl (.yes rfl rfl rfl rfl) ?_
              refine Q_val (V_idxAddr rfl rfl rfl (SlE.rd (by assumption)) (by omega) (by omega)) rfl rfl (.yes rfl rfl rfl rfl) ?_
              refine Q_val (V_loadS rfl rfl (SlE.rd (by assumption)) hpi (by simp)) rfl rfl (.yes rfl rfl rfl rfl) ?_
              refine Q_val (V_move rfl rfl) rfl rfl (.yes rfl rfl rfl rfl) ?_
              refine Q_val (V_idxB1n rfl rfl rfl (by omega)) rfl rfl (.yes rfl rfl rfl rfl) ?_
              refine Q_val (V_load rfl rfl (Cell.own (.head _) (by assumption))) rfl rfl (.yes rfl rfl rfl rfl) ?_
              refine Q_val (V_move rfl rfl) rfl rfl (.yes rfl rfl rfl rfl) ?_
              refine Q_stay (.no rfl rfl rfl rfl) rfl rfl ?_
              refine Q_stay (.no rfl rfl rfl rfl) rfl rfl ?_
              refine Q_stay (.no rfl rfl rfl rfl) rfl rfl ?_
              refine Q_stay (.no rfl rfl rfl rfl) rfl rfl ?_
              refine Q_stay (.no rfl rfl rfl rfl) rfl rfl ?_
              refine Q_stay (.no rfl rfl rfl rfl) rfl rfl ?_
              refine Q_stay (.no rfl rfl rfl rfl) rfl rfl ?_
              refine Q_val (V_pick_f rfl rfl rfl) rfl rfl (.yes rfl rfl rfl rfl) ?_
              refine Q_val (V_pick_f rfl rfl rfl) rfl rfl (.none rfl) ?_
              refine Q_val (V_idxB1n rfl rfl rfl (by omega)) rfl rfl (.none rfl) ?_
              refine Q_endT ?_
              refine G_storeB rfl rfl rfl rfl rfl rfl (.none rfl) (.head _ _ _) (by omega) ?_
              refine G_end (X_block (X_then (G_region ?_)))
              refine G_val (V_move rfl rfl) rfl rfl (.none rfl) ?_
              refine G_val (V_add_i64 rfl rfl rfl (by omega) (by omega)) rfl rfl (.none rfl) ?_
              refine G_val (V_assign rfl rfl) rfl rfl (.none rfl) ?_
              refine G_end (X_then ?_)
              rw [hset]
              refine G.perm _ ((p2 _).append_right L) ?_
              rw [stT_step hw.symm]
              exact G_again (j + 1) hltj (by omega) ⟨rfl, rfl, rfl, rfl, trivial⟩ rfl rfl
      · rw [show j = g.names.length by omega, stT_row]
        refine G_seq (G_seq (G_region ?_))
        refine G_val (V_move rfl rfl) rfl rfl (.none rfl) ?_
        refine G_val (V_move rfl rfl) rfl rfl (.none rfl) ?_
        refine G_val (V_lenS rfl rfl) rfl rfl (.none rfl) ?_
        refine G_val (V_lss rfl rfl rfl) rfl rfl (.none rfl) ?_
        refine G_end (X_then ?_)
        refine G_cond_f rfl (decide_eq_false (by omega)) ?_
        refine G_exit (X_then_exit (X_then_exit (X_block_hit (X_block (X_then (G_region ?_))))))
        refine G_val (V_move rfl rfl) rfl rfl (.none rfl) ?_
        refine G_val (V_add_i64 rfl rfl rfl (by omega) (by omega)) rfl rfl (.none rfl) ?_
        refine G_val (V_assign rfl rfl) rfl rfl (.none rfl) ?_
        refine G_end (X_then ?_)
        exact G_again (i + 1) hlti (by omega) ⟨rfl, rfl, rfl, trivial⟩ rfl rfl
    · rw [show i = g.names.length by omega, stT_stage]
      refine G_seq (G_seq (G_region ?_))
      refine G_val (V_move rfl rfl) rfl rfl (.none rfl) ?_
      refine G_val (V_move rfl rfl) rfl rfl (.none rfl) ?_
      refine G_val (V_lenS rfl rfl) rfl rfl (.none rfl) ?_
      refine G_val (V_lss rfl rfl rfl) rfl rfl (.none rfl) ?_
      refine G_end (X_then ?_)
      refine G_cond_f rfl (decide_eq_false (by omega)) ?_
      refine G_exit (X_then_exit (X_then_exit (X_block_hit (X_block (X_then (G_region ?_))))))
      refine G_val (V_move rfl rfl) rfl rfl (.none rfl) ?_
      refine G_val (V_add_i64 rfl rfl rfl (by omega) (by omega)) rfl rfl (.none rfl) ?_
      refine G_val (V_assign rfl rfl) rfl rfl (.none rfl) ?_
      refine G_end (X_then ?_)
      exact G_again (k + 1) hltk (by omega) ⟨rfl, rfl, trivial⟩ rfl rfl
  · rw [show k = g.names.length by omega, stT_start]
    refine G_seq (G_seq (G_region ?_))
    refine G_val (V_move rfl rfl) rfl rfl (.none rfl) ?_
    refine G_val (V_move rfl rfl) rfl rfl (.none rfl) ?_
    refine G_val (V_lenS rfl rfl) rfl rfl (.none rfl) ?_
    refine G_val (V_lss rfl rfl rfl) rfl rfl (.none rfl) ?_
    refine G_end (X_then ?_)
    refine G_cond_f rfl (decide_eq_false (by omega)) ?_
    refine G_exit (X_then_exit (X_then_exit (X_block_hit (X_then (G_seq (G_region ?_))))))
    refine G_val (V_move rfl rfl) rfl rfl (.none rfl) ?_
    refine G_val (V_assign rfl rfl) rfl rfl (.none rfl) ?_
    refine G_end (X_then (G_ret ?_))
    refine G_leaveS (.nil _) (by exact (.cons (.tmp rfl) (.nil))) rfl ?_ ?_
    · exact hE4
    exact ⟨_, ⟨_, ⟨(by rfl), ⟨(by ((try simp only [resVal]); (repeat' split) <;> first | rfl | (exfalso; omega) | (simp_all; done) | (simp_all; omega))), ⟨(by assumption), (by rfl)⟩⟩⟩⟩⟩
end
end Go.Proofs.Ytaoinojdijbhaaa
set_option linter.unusedSimpArgs false
set_option linter.unusedVariables false
set_option maxHeartbeats 2000000
set_option maxRecDepth 20000
namespace Go.Proofs.Ytaoinojdijbhaaa
open Go.RowKit
def RowsOk (E : Env) (m : Nat) (bs : List Nat) (rs : List (List Bool)) : Prop := ∀ i, (h1 : i < bs.length) → (h2 : i < rs.length) → SlE E 1 (some ⟨bs[i], 0, none⟩) m (bools rs[i])
theorem RowsOk.mono {E E' : Env} {m : Nat} {bs : List Nat} {rs : List (List Bool)} (h : RowsOk E m bs rs) (hE : E.Le E') : RowsOk E' m bs rs := fun i h1 h2 => (h i h1 h2).mono hE
theorem G.freezeRows {n m : Nat} {ds : List Deferred} {fs : List (Nat × Value)} {L : List Res} {X : Act → World → Prop} : ∀ (bs : List Nat) (rs : List (List Bool)) (E : Env), bs.length = rs.length → (∀ r, r ∈ rs → r.length = m) → (∀ E', E.Le E' → RowsOk E' m bs rs → G n ds fs E' L X) → G n ds fs E (rowsL bs rs ++ L) X := by
  intro bs
  induction bs with
  | nil =>
    intro rs E hl _ h
    cases rs with
    | nil => exact h E (.refl _) fun i h1 => by cases h1
    | cons => cases hl
  | cons b bs ih =>
    intro rs E hl hm h
    cases rs with
    | nil => cases hl
    | cons r rs =>
      refine G.freezeB (.head _ _) (k := m) (sz := 1) (by rw [bools, List.length_map, hm r (.head _), Nat.mul_one]) ?_
      intro E1 hE1 hs
      refine ih rs E1 (by simpa using hl) (fun x hx => hm x (.tail _ hx)) ?_
      intro E2 hE2 hok
      refine h E2 (hE1.trans hE2) fun i h1 h2 => ?_
      cases i with
      | zero => exact hs.mono hE2
      | succ i => exact hok i (by simpa using h1) (by simpa using h2)
theorem tab_rows (n : Nat) (T : Nat → Nat → Bool) : ∀ r, r ∈ tabF n T → r.length = n := fun r hr => by
  obtain ⟨i, _, rfl⟩ := List.mem_map.1 hr
  exact rowF_len _ _
theorem RowsOk.tab {E : Env} {n : Nat} {bs : List Nat} {T : Nat → Nat → Bool} (h : RowsOk E n bs (tabF n T)) {i : Nat} (h1 : i < bs.length) (h2 : i < n) : SlE E 1 (some ⟨bs[i], 0, none⟩) n (bools (rowF n (T i))) := by
  have := h i h1 (by rw [tabF_len]; exact h2)
  rwa [tabF_at h2] at this
theorem leftM_num (g : Gr) : numB g.names.length (fun i => wars (suc (begM g)) g.names.length i i) = leftM g := rfl
section
variable (E : Env) (L : List Res)
theorem rleft_call (gv : Value) (g : Gr) (hg : GrE E gv g) (hl : Light g) (hc : gcheck g = 0) :
    CallS Try.prog 78 #[gv] E L (fun r E' L' => ∃ b c, r = .slice b g.names.length c ∧ SlE E' 1 b g.names.length (bools (rowF g.names.length fun i => wars (suc (begM g)) g.names.length i i)) ∧ L' = L) := by
  have hg0 := hg
  obtain ⟨tp, tc, np', nc', pp, pc, rfl, ht, hnm, ⟨rows, hrows, hps, hre⟩, k1, k2, k3⟩ := hg
  have q1 := hl.t; have q2 := hl.n; have q3 := hl.p
  refine CallS.intro (l := [_]) _ Try.func78 rfl Try.ntmps78 rfl ?_
  refine G_seq (G_region ?_)
  (refine G_boxA rfl rfl rfl rfl (.none rfl) ?_; intro b1)
  refine G_val (V_assign rfl rfl) rfl rfl (.none rfl) ?_
  refine G_end (X_then (G_seq (G_region ?_)))
  refine G_val (V_loadA rfl rfl (Cells.own (.head _)) rfl) rfl rfl (.none rfl) ?_
  refine G_call (k := 109) (.mk rfl rfl rfl rfl) rfl rfl (.none rfl) (chains_call _ _ _ _ (by assumption) (by assumption) (by assumption)) ?_
  rintro r1 E2 L3 hE4 ⟨z5, ⟨z6, ⟨rfl, ⟨Z7, ⟨Z8, rfl⟩⟩⟩⟩⟩
  replace hg0 := hg0.mono hE4
  replace ht := ht.mono hE4
  replace hnm := hnm.mono hE4
  replace hps := hps.mono hE4
  refine G_val (V_assign rfl rfl) rfl rfl (.none rfl) ?_
  refine G_end (X_then (G_seq (G_region ?_)))
  refine G_val (V_move rfl rfl) rfl rfl (.none rfl) ?_
  refine G_val (V_lenS rfl rfl) rfl rfl (.none rfl) ?_
  (refine G_makeSlice rfl rfl rfl (by omega) (by omega) (by omega) rfl rfl (.none rfl) ?_; intro b10)
  refine G_val (V_assign rfl rfl) rfl rfl (.none rfl) ?_
  refine G_end (X_then (G_seq (G_seq (G_region ?_))))
  refine G_val (V_assign rfl rfl) rfl rfl (.none rfl) ?_
  refine G_end (X_then (G_block ?_))
  simp only [Int.toNat_natCast]
  rw [rowF_false]
  have hbs : z6.length = g.names.length := by assumption
  have hsp : SlE E2 1 (some ⟨z5, 0, none⟩) g.names.length (ptrs g.names.length z6) := by assumption
  refine G.perm _ List.perm_middle.symm ?_
  refine G.freezeRows _ _ _ (by rw [tabF_len, hbs]) (tab_rows _ _) ?_
  intro E3 hE3 hro
  replace hsp := hsp.mono hE3
  generalize hT : wars (suc (begM g)) g.names.length = T at hro ⊢
  refine G_loop (α := Nat) (fun i => [(3, .slice (some ⟨z5, 0, none⟩) g.names.length g.names.length), (4, .slice (some ⟨b10, 0, none⟩) g.names.length g.names.length), (5, .int .i64 i)]) (fun _ => E3)
    (fun i => .blk b10 (.cells (bools (rowF g.names.length fun j => decide (j < i) && T j j)).toArray 4 (0, 0)) :: GB b1 g tp tc np' nc' pp pc :: L) (fun i => i ≤ g.names.length) (fun i => g.names.length - i) 0 (Nat.zero_le _) ⟨rfl, rfl, rfl, trivial⟩ rfl (by simp) ?_
  intro i hi
  have hrl := brow_len g.names.length (fun j => decide (j < i) && T j j)
  by_cases hlt : i < g.names.length
  · have hpi := ptrs_at (n := g.names.length) (bs := z6) (i := i) (by omega)
    have hsr := hro.tab (i := i) (by omega) hlt
    have hri := rowF_at (n := g.names.length) (f := T i) hlt
    have hset := rowF_set (n := g.names.length) (f := fun j => decide (j < i) && T j j) (i := i) (b := T i i)
    have hnx : (fun j => if j = i then T i i else decide (j < i) && T j j) = fun j => decide (j < i + 1) && T j j := by
      funext j
      by_cases h : j = i
      · subst h; rw [if_pos rfl, decide_eq_true (Nat.lt_succ_self j), Bool.true_and]
      · rw [if_neg h]
        by_cases h2 : j < i
        · rw [decide_eq_true h2, decide_eq_true (by omega)]
        · rw [decide_eq_false h2, decide_eq_false (by omega)]
    refine G_seq (G_seq (G_region ?_))
    refine G_val (V_move rfl rfl) rfl rfl (.none rfl) ?_
    refine G_val (V_move rfl rfl) rfl rfl (.none rfl) ?_
    refine G_val (V_lenS rfl rfl) rfl rfl (.none rfl) ?_
    refine G_val (V_lss rfl rfl rfl) rfl rfl (.none rfl) ?_
    refine G_end (X_then ?_)
    refine G_cond_t rfl (decide_eq_true (by omega)) ?_
    refine G_skip (X_then (G_seq (G_block (G_region ?_))))
    refine G_val (V_move rfl rfl) rfl rfl (.none rfl) ?_
    refine G_val (V_move rfl rfl) rfl rfl (.none rfl) ?_
    refine G_val (V_move rfl rfl) rfl rfl (.none rfl) ?_
    refine G_val (V_move rfl rfl) rfl rfl (.none rfl) ?_
    refine G_val (V_idxAddr rfl rfl rfl (SlE.rd (by assumption)) (by omega) (by omega)) rfl rfl (.none rfl) ?_
    refine G_val (V_loadS rfl rfl (SlE.rd (by assumption)) (by assumption) (by simp)) rfl rfl (.none rfl) ?_
    refine G_val (V_move rfl rfl) rfl rfl (.none rfl) ?_
    refine G_val (V_idxAddr rfl rfl rfl (SlE.rd (by assumption)) (by omega) (by omega)) rfl rfl (.none rfl) ?_
    refine G_val (V_loadS rfl rfl (SlE.rd (by assumption)) (by assumption) (by simp)) rfl rfl (.none rfl) ?_
    refine G_val (V_idxB1n rfl rfl rfl (by omega)) rfl rfl (.none rfl) ?_
    refine G_storeB rfl rfl rfl rfl rfl rfl (.none rfl) (.head _ _ _) (by omega) ?_
    refine G_end (X_block (X_then (G_region ?_)))
    refine G_val (V_move rfl rfl) rfl rfl (.none rfl) ?_
    refine G_val (V_add_i64 rfl rfl rfl (by omega) (by omega)) rfl rfl (.none rfl) ?_
    refine G_val (V_assign rfl rfl) rfl rfl (.none rfl) ?_
    refine G_end (X_then ?_)
    rw [hset, hnx]
    exact G_again (i + 1) hlt (by omega) ⟨rfl, rfl, rfl, trivial⟩ rfl rfl
  · have hfin : rowF g.names.length (fun j => decide (j < i) && T j j) = rowF g.names.length fun j => T j j := rowF_ext fun j hj => by rw [decide_eq_true (by omega), Bool.true_and]
    rw [hfin] at hrl ⊢
    refine G.freezeB (.head _ _) (k := g.names.length) (sz := 1) (by rw [hrl, Nat.mul_one]) ?_
    intro E4 hE4 hs4
    refine G_seq (G_seq (G_region ?_))
    refine G_val (V_move rfl rfl) rfl rfl (.none rfl) ?_
    refine G_val (V_move rfl rfl) rfl rfl (.none rfl) ?_
    refine G_val (V_lenS rfl rfl) rfl rfl (.none rfl) ?_
    refine G_val (V_lss rfl rfl rfl) rfl rfl (.none rfl) ?_
    refine G_end (X_then ?_)
    refine G_cond_f rfl (decide_eq_false (by omega)) ?_
    refine G_exit (X_then_exit (X_then_exit (X_block_hit (X_then (G_seq (G_region ?_))))))
    refine G_val (V_move rfl rfl) rfl rfl (.none rfl) ?_
    refine G_val (V_assign rfl rfl) rfl rfl (.none rfl) ?_
    refine G_end (X_then (G_ret ?_))
    exact G_leave 1 (.cons (.tmp rfl) .nil) rfl (Env.Le.trans (Env.Le.trans (by assumption) hE3) hE4) ⟨_, _, rfl, hs4, rfl⟩
theorem RBeginsR_call (gv : Value) (g : Gr) (hg : GrE E gv g) (hl : Light g) (hc : gcheck g = 0) : CallS Try.prog 22 #[gv] E L (fun r E' L' => ∃ p c rows, r = .tuple #[.slice p g.names.length c, .int .i64 0] ∧ SlE E' 1 p g.names.length (lrows rows) ∧ LsE E' rows ∧ rows.map (·.2.2) = begL g ∧ L' = L) := by
  have hg0 := hg
  obtain ⟨tp, tc, np', nc', pp, pc, rfl, ht, hnm, ⟨rows, hrows, hps, hre⟩, k1, k2, k3⟩ := hg
  have q1 := hl.t; have q2 := hl.n; have q3 := hl.p
  have hv := valid_of hc
  have h256 := begM_lt hv
  have hbm := begM_len g
  have hin := fun i j (h : suc (begM g) i j = true) => begM_in hv h
  have hn8 := hv.names.2
  refine CallS.intro (l := [_]) _ Try.func22 rfl Try.ntmps22 rfl ?_
  refine G_seq (G_region ?_)
  (refine G_boxA rfl rfl rfl rfl (.none rfl) ?_; intro b1)
  refine G_val (V_assign rfl rfl) rfl rfl (.none rfl) ?_
  refine G_val (V_assign rfl rfl) rfl rfl (.none rfl) ?_
  refine G_end (X_then (G_seq (G_seq (G_region ?_))))
  refine G_val (V_loadA rfl rfl (Cells.own (.head _)) rfl) rfl rfl (.none rfl) ?_
  refine G_callv (k := 73) (.mk rfl rfl rfl rfl) rfl rfl (.none rfl) (GCheckR_call _ _ _ _ (by assumption) (by assumption)) ?_
  refine G_val (V_assign rfl rfl) rfl rfl (.none rfl) ?_
  refine G_end (X_then (G_seq (G_region ?_)))
  refine G_val (V_move rfl rfl) rfl rfl (.none rfl) ?_
  refine G_val (V_neq rfl rfl rfl) rfl rfl (.none rfl) ?_
  refine G_end (X_then ?_)
  refine G_cond_f rfl (decide_eq_false (by omega)) ?_
  refine G_skip (X_then (G_seq (G_region ?_)))
  refine G_val (V_loadA rfl rfl (Cells.own (.head _)) rfl) rfl rfl (.none rfl) ?_
  refine G_call (k := 74) (.mk rfl rfl rfl rfl) rfl rfl (.none rfl) (table_call _ _ _ _ (by assumption) (by assumption) (by assumption)) ?_
  rintro r1 E2 L3 hE4 ⟨z5, ⟨z6, ⟨rfl, ⟨Z7, ⟨Z8, rfl⟩⟩⟩⟩⟩
  replace hg0 := hg0.mono hE4
  replace ht := ht.mono hE4
  replace hnm := hnm.mono hE4
  replace hps := hps.mono hE4
  refine G_val (V_assign rfl rfl) rfl rfl (.none rfl) ?_
  refine G_end (X_then (G_seq (G_region ?_)))
  refine G_val (V_assign rfl rfl) rfl rfl (.none rfl) ?_
  refine G_end (X_then (G_seq (G_seq (G_region ?_))))
  refine G_val (V_assign rfl rfl) rfl rfl (.none rfl) ?_
  refine G_end (X_then (G_block ?_))
  have hbs : z6.length = g.names.length := by assumption
  have hsp : SlE E2 1 (some ⟨z5, 0, none⟩) g.names.length (ptrs g.names.length z6) := by assumption
  refine G.freezeRows _ _ _ (by rw [tabF_len, hbs]) (tab_rows _ _) ?_
  intro E3 hE3 hro
  replace hsp := hsp.mono hE3
  refine G.nilSl 22 1 ?_
  refine G_loop (α := Nat × Env × Option Addr × Nat × List LRow) (fun x => [(5, .slice (some ⟨z5, 0, none⟩) g.names.length g.names.length), (6, .slice x.2.2.1 x.1 x.2.2.2.1), (7, .int .i64 x.1)]) (fun x => x.2.1)
    (fun x => .sl 22 1 x.2.2.1 x.1 x.2.2.2.1 (lrows x.2.2.2.2) :: GB b1 g tp tc np' nc' pp pc :: L)
    (fun x => E3.Le x.2.1 ∧ x.1 ≤ g.names.length ∧ LsE x.2.1 x.2.2.2.2 ∧ x.2.2.2.2.map (·.2.2) = (begL g).take x.1) (fun x => g.names.length - x.1) (0, E3, none, 0, []) ⟨.refl _, Nat.zero_le _, LsE.nil, rfl⟩ ⟨rfl, rfl, rfl, trivial⟩ rfl rfl ?_
  rintro ⟨i, E1, a, c, rs⟩ ⟨hE1, hi, hrs, hm⟩
  simp only at hE1 hi hrs hm ⊢
  replace hsp := hsp.mono hE1
  have hgl := begL_len g
  have hrl : rs.length = i := by have := congrArg List.length hm; simp only [List.length_map, List.length_take] at this; omega
  have hll := lrows_len rs
  by_cases hlt : i < g.names.length
  · have hpi := ptrs_at (n := g.names.length) (bs := z6) (i := i) (by omega)
    have hsr := ((hro.mono hE1).tab (i := i) (by omega) hlt)
    have hi256 := h256 i
    have htk := List.take_succ_eq_append_getElem (show i < (begL g).length by omega)
    have hgi : (begL g)[i]'(by omega) = natsI (bitL ((begM g).getD i 0)) := by simp [begL, List.getD, show i < (begM g).length by omega]
    rw [hgi] at htk
    have hb8 := bitL_le ((begM g).getD i 0)
    have hnb : numB g.names.length (tabS (begM g) i) = bitL ((begM g).getD i 0) := numB_bits hn8 fun j hj => hin i j hj
    generalize hq : (begM g).getD i 0 = q at *
    refine G_seq (G_seq (G_region ?_))
    refine G_val (V_move rfl rfl) rfl rfl (.none rfl) ?_
    refine G_val (V_move rfl rfl) rfl rfl (.none rfl) ?_
    refine G_val (V_lenS rfl rfl) rfl rfl (.none rfl) ?_
    refine G_val (V_lss rfl rfl rfl) rfl rfl (.none rfl) ?_
    refine G_end (X_then ?_)
    refine G_cond_t rfl (decide_eq_true (by omega)) ?_
    refine G_skip (X_then (G_seq (G_block (G_region ?_))))
    refine G_val (V_move rfl rfl) rfl rfl (.none rfl) ?_
    refine G_val (V_move rfl rfl) rfl rfl (.none rfl) ?_
    refine G_val (V_move rfl rfl) rfl rfl (.none rfl) ?_
    refine G_val (V_idxAddr rfl rfl rfl (SlE.rd (by assumption)) (by omega) (by omega)) rfl rfl (.none rfl) ?_
    refine G_val (V_loadS rfl rfl (SlE.rd (by assumption)) (by assumption) (by simp)) rfl rfl (.none rfl) ?_
    refine G_call (k := 75) (.mk rfl rfl rfl rfl) rfl rfl (.none rfl) (numbers_call _ _ _ _ _ _ (by assumption) (by omega)) ?_
    rintro r1 E4 L5 hE6 ⟨z7, ⟨z8, ⟨rfl, ⟨Z9, rfl⟩⟩⟩⟩
    replace hsp := hsp.mono hE6
    replace hsr := hsr.mono hE6
    (refine G_lit1 rfl rfl rfl rfl rfl (.none rfl) ?_; intro b27)
    (refine G_append rfl rfl rfl (Rd.lit (.head _) rfl) (by simp [Value.oneCell']) (by omega) (by omega) rfl rfl (.none rfl) (fun _ _ => (.tail _ (.head _ _ _))) ?_; intro a28 c28; refine G.rm (.head _ _) ?_)
    refine G_val (V_assign rfl rfl) rfl rfl (.none rfl) ?_
    refine G_end (X_block (X_then (G_region ?_)))
    refine G_val (V_move rfl rfl) rfl rfl (.none rfl) ?_
    refine G_val (V_add_i64 rfl rfl rfl (by omega) (by omega)) rfl rfl (.none rfl) ?_
    refine G_val (V_assign rfl rfl) rfl rfl (.none rfl) ?_
    refine G_end (X_then ?_)
    rw [hnb]
    have hs3 : SlE E4 1 z7 (numB g.names.length (tabS (begM g) i)).length (i64s (natsI (numB g.names.length (tabS (begM g) i)))) := by assumption
    rw [hnb] at hs3
    have hE4 : E1.Le E4 := by assumption
    refine G_again (i + 1, E4, _, _, rs ++ [(z7, z8, natsI (bitL q))]) ⟨hE1.trans hE4, hlt, (hrs.mono hE4).snoc (by simp only; rw [natsI_len]; exact hs3), by rw [List.map_append, hm, htk]; rfl⟩ (by simp only; omega) ⟨rfl, rfl, rfl, trivial⟩ rfl (by rw [lrows_snoc, natsI_len])
  · rw [List.take_of_length_le (by omega)] at hm
    have hin : i = g.names.length := by omega
    subst hin
    refine G.freezeSl (.head _ _) ?_
    intro E4 hE4 hs4 hc4
    have hE0 : E.Le E1 := Env.Le.trans (Env.Le.trans (by assumption) hE3) hE1
    replace hrs := hrs.mono hE4
    refine G_seq (G_seq (G_region ?_))
    refine G_val (V_move rfl rfl) rfl rfl (.none rfl) ?_
    refine G_val (V_move rfl rfl) rfl rfl (.none rfl) ?_
    refine G_val (V_lenS rfl rfl) rfl rfl (.none rfl) ?_
    refine G_val (V_lss rfl rfl rfl) rfl rfl (.none rfl) ?_
    refine G_end (X_then ?_)
    refine G_cond_f rfl (decide_eq_false (by omega)) ?_
    refine G_exit (X_then_exit (X_then_exit (X_block_hit (X_then (G_seq (G_region ?_))))))
    refine G_val (V_move rfl rfl) rfl rfl (.none rfl) ?_
    refine G_val (V_assign rfl rfl) rfl rfl (.none rfl) ?_
    refine G_val (V_assign rfl rfl) rfl rfl (.none rfl) ?_
    refine G_end (X_then (G_ret ?_))
    exact G_leave 1 (.cons (.tmp rfl) (.cons (.tmp rfl) .nil)) rfl (hE0.trans hE4) ⟨_, _, rs, rfl, hs4, hrs, hm, rfl⟩
end
end Go.Proofs.Ytaoinojdijbhaaa
set_option linter.unusedSimpArgs false
set_option linter.unusedVariables false
set_option maxHeartbeats 2000000
set_option maxRecDepth 20000
namespace Go.Proofs.Ytaoinojdijbhaaa
open Go.RowKit
def byE (g : Gr) (p : Int) : Int := if gcheck g = 0 then (if p < 0 ∨ (g.prods.length : Int) ≤ p then 2 else 0) else gcheck g
def byL (g : Gr) (p : Int) : List Nat := if byE g p = 0 then bitL (byS (nullM g) (g.prods.getD p.toNat (0, [])).2) else []
theorem byE_zero {g : Gr} {p : Int} : byE g p = 0 ↔ gcheck g = 0 ∧ 0 ≤ p ∧ p < g.prods.length := by
  rw [byE]
  by_cases h : gcheck g = 0
  · rw [if_pos h]
    by_cases hp : p < 0 ∨ (g.prods.length : Int) ≤ p
    · rw [if_pos hp]; exact ⟨fun h => by omega, fun h => by omega⟩
    · rw [if_neg hp]; exact ⟨fun _ => ⟨h, by omega, by omega⟩, fun _ => rfl⟩
  · rw [if_neg h]; exact ⟨fun k => absurd k h, fun k => k.1⟩
theorem byL_le (g : Gr) (p : Int) : (byL g p).length ≤ 8 := by
  rw [byL]
  by_cases h : byE g p = 0
  · rw [if_pos h]; exact bitL_le _
  · rw [if_neg h]; exact Nat.zero_le _
section
variable (E : Env) (L : List Res)
theorem RBegins_call' (gv : Value) (g : Gr) (hg : GrE E gv g) (hl : Light g) : CallS Try.prog 16 #[gv] E L (fun r E' L' => ∃ p c rows, r = .tuple #[.slice p (okL g (begL g)).length c, .int .i64 (gcheck g)] ∧ SlE E' 1 p (okL g (begL g)).length (lrows rows) ∧ LsE E' rows ∧ rows.map (·.2.2) = okL g (begL g) ∧ L' = L) := by
  by_cases hc : gcheck g = 0
  · rw [okL_pos hc, begL_len, hc]
    exact RBegins_call E L gv g hg hl hc
  · obtain ⟨tp, tc, np', nc', pp, pc, rfl, ht, hnm, hps, k1, k2, k3⟩ := (show GrE E gv g from hg)
    rw [okL_neg hc]
    have h0 : SlE E 1 none ([] : List (List Int)).length (lrows []) := SlE.nil
    have h1 : LsE E [] := LsE.nil
    have h2 : ([] : List LRow).map (·.2.2) = [] := rfl
    refine CallS.intro (l := [_]) _ Try.func16 rfl Try.ntmps16 rfl ?_
    refine G_seq (G_region ?_)
    (refine G_boxA rfl rfl rfl rfl (.none rfl) ?_; intro b1)
    refine G_val (V_assign rfl rfl) rfl rfl (.none rfl) ?_
    refine G_val (V_assign rfl rfl) rfl rfl (.none rfl) ?_
    refine G_end (X_then (G_seq (G_seq (G_region ?_))))
    refine G_val (V_loadA rfl rfl (Cells.own (.head _)) rfl) rfl rfl (.none rfl) ?_
    refine G_callv (k := 67) (.mk rfl rfl rfl rfl) rfl rfl (.none rfl) (GCheck_call _ _ _ _ (by assumption) (by assumption)) ?_
    refine G_val (V_assign rfl rfl) rfl rfl (.none rfl) ?_
    refine G_end (X_then (G_seq (G_region ?_)))
    refine G_val (V_move rfl rfl) rfl rfl (.none rfl) ?_
    refine G_val (V_neq rfl rfl rfl) rfl rfl (.none rfl) ?_
    refine G_end (X_then ?_)
    refine G_cond_t rfl (decide_eq_true (by omega)) ?_
    refine G_seq (G_region ?_)
    refine G_val (V_move rfl rfl) rfl rfl (.none rfl) ?_
    refine G_val (V_assign rfl rfl) rfl rfl (.none rfl) ?_
    refine G_val (V_assign rfl rfl) rfl rfl (.none rfl) ?_
    refine G_end (X_then (G_ret (X_then_ret ?_)))
    refine G_leaveS (.drop _ (.nil _)) (by exact (.cons (.tmp rfl) (.cons (.tmp rfl) (.nil)))) rfl ?_ ?_
    · exact (.refl _)
    exact ⟨_, ⟨_, ⟨_, ⟨rfl, ⟨(by assumption), ⟨(by assumption), ⟨rfl, rfl⟩⟩⟩⟩⟩⟩⟩
theorem RBeginsR_call' (gv : Value) (g : Gr) (hg : GrE E gv g) (hl : Light g) : CallS Try.prog 22 #[gv] E L (fun r E' L' => ∃ p c rows, r = .tuple #[.slice p (okL g (begL g)).length c, .int .i64 (gcheck g)] ∧ SlE E' 1 p (okL g (begL g)).length (lrows rows) ∧ LsE E' rows ∧ rows.map (·.2.2) = okL g (begL g) ∧ L' = L) := by
  by_cases hc : gcheck g = 0
  · rw [okL_pos hc, begL_len, hc]
    exact RBeginsR_call E L gv g hg hl hc
  · obtain ⟨tp, tc, np', nc', pp, pc, rfl, ht, hnm, hps, k1, k2, k3⟩ := (show GrE E gv g from hg)
    rw [okL_neg hc]
    have h0 : SlE E 1 none ([] : List (List Int)).length (lrows []) := SlE.nil
    have h1 : LsE E [] := LsE.nil
    have h2 : ([] : List LRow).map (·.2.2) = [] := rfl
    refine CallS.intro (l := [_]) _ Try.func22 rfl Try.ntmps22 rfl ?_
    refine G_seq (G_region ?_)
    (refine G_boxA rfl rfl rfl rfl (.none rfl) ?_; intro b1)
    refine G_val (V_assign rfl rfl) rfl rfl (.none rfl) ?_
    refine G_val (V_assign rfl rfl) rfl rfl (.none rfl) ?_
    refine G_end (X_then (G_seq (G_seq (G_region ?_))))
    refine G_val (V_loadA rfl rfl (Cells.own (.head _)) rfl) rfl rfl (.none rfl) ?_
    refine G_callv (k := 73) (.mk rfl rfl rfl rfl) rfl rfl (.none rfl) (GCheckR_call _ _ _ _ (by assumption) (by assumption)) ?_
    refine G_val (V_assign rfl rfl) rfl rfl (.none rfl) ?_
    refine G_end (X_then (G_seq (G_region ?_)))
    refine G_val (V_move rfl rfl) rfl rfl (.none rfl) ?_
    refine G_val (V_neq rfl rfl rfl) rfl rfl (.none rfl) ?_
    refine G_end (X_then ?_)
    refine G_cond_t rfl (decide_eq_true (by omega)) ?_
    refine G_seq (G_region ?_)
    refine G_val (V_move rfl rfl) rfl rfl (.none rfl) ?_
    refine G_val (V_assign rfl rfl) rfl rfl (.none rfl) ?_
    refine G_val (V_assign rfl rfl) rfl rfl (.none rfl) ?_
    refine G_end (X_then (G_ret (X_then_ret ?_)))
    refine G_leaveS (.drop _ (.nil _)) (by exact (.cons (.tmp rfl) (.cons (.tmp rfl) (.nil)))) rfl ?_ ?_
    · exact (.refl _)
    exact ⟨_, ⟨_, ⟨_, ⟨rfl, ⟨(by assumption), ⟨(by assumption), ⟨rfl, rfl⟩⟩⟩⟩⟩⟩⟩
theorem By_call' (gv : Value) (g : Gr) (hg : GrE E gv g) (hl : Light g) (p : Int) : CallS Try.prog 24 #[gv, .int .i64 p] E L (fun r E' L' => ∃ q c, r = .tuple #[.slice q (byL g p).length c, .int .i64 (byE g p)] ∧ SlE E' 1 q (byL g p).length (i64s (natsI (byL g p))) ∧ L' = L) := by
  by_cases h : byE g p = 0
  · obtain ⟨hc, h1, h2⟩ := byE_zero.1 h
    rw [byL, if_pos h, h]
    have := By_call E L gv g hg hl hc p.toNat (by omega)
    rwa [show ((p.toNat : Nat) : Int) = p by omega] at this
  · obtain ⟨tp, tc, np', nc', pp, pc, rfl, ht, hnm, hps, k1, k2, k3⟩ := (show GrE E gv g from hg)
    have q3 := hl.p
    rw [byL, if_neg h]
    have hnil := @SlE.nil E 1
    refine CallS.intro (l := [_, _]) _ Try.func24 rfl Try.ntmps24 rfl ?_
    by_cases hc : gcheck g = 0
    · rw [byE, if_pos hc]
      by_cases hp : p < 0 ∨ (g.prods.length : Int) ≤ p
      · rw [if_pos hp]
        refine G_seq (G_region ?_)
        (refine G_boxA rfl rfl rfl rfl (.none rfl) ?_; intro b2)
        refine G_val (V_assign rfl rfl) rfl rfl (.none rfl) ?_
        refine G_val (V_assign rfl rfl) rfl rfl (.none rfl) ?_
        refine G_end (X_then (G_seq (G_seq (G_region ?_))))
        refine G_val (V_loadA rfl rfl (Cells.own (.head _)) rfl) rfl rfl (.none rfl) ?_
        refine G_callv (k := 67) (.mk rfl rfl rfl rfl) rfl rfl (.none rfl) (GCheck_call _ _ _ _ (by assumption) (by assumption)) ?_
        refine G_val (V_assign rfl rfl) rfl rfl (.none rfl) ?_
        refine G_end (X_then (G_seq (G_region ?_)))
        refine G_val (V_move rfl rfl) rfl rfl (.none rfl) ?_
        refine G_val (V_neq rfl rfl rfl) rfl rfl (.none rfl) ?_
        refine G_end (X_then ?_)
        refine G_cond_f rfl (decide_eq_false (by omega)) ?_
        refine G_skip (X_then (G_seq (G_seq (G_region ?_))))
        refine G_val (V_move rfl rfl) rfl rfl (.none rfl) ?_
        refine G_val (V_lss rfl rfl rfl) rfl rfl (.none rfl) ?_
        refine G_val (V_move rfl rfl) rfl rfl (.none rfl) ?_
        apply G_joinOr 6 16 22 rfl
        · intro H1
          dsimp only [List.take]
          simp only [Bool.and_eq_true, Bool.or_eq_true, Bool.not_eq_true', Bool.not_eq_false', Bool.and_eq_false_iff, Bool.or_eq_false_iff, Bool.not_not, decide_eq_true_eq, decide_eq_false_iff_not, ne_eq, Decidable.not_not, Bool.decide_eq_true] at H1
          refine G_stay (.no rfl rfl rfl rfl) rfl rfl ?_
          refine G_stay (.no rfl rfl rfl rfl) rfl rfl ?_
          refine G_stay (.no rfl rfl rfl rfl) rfl rfl ?_
          refine G_stay (.no rfl rfl rfl rfl) rfl rfl ?_
          refine G_stay (.no rfl rfl rfl rfl) rfl rfl ?_
          refine G_val (V_pick_t rfl rfl rfl) rfl rfl (.none rfl) ?_
          refine G_end ?_
          exact JQ_end 6 rfl rfl (by kernel_rfl)
        · intro H2
          dsimp only [List.take]
          simp only [Bool.and_eq_true, Bool.or_eq_true, Bool.not_eq_true', Bool.not_eq_false', Bool.and_eq_false_iff, Bool.or_eq_false_iff, Bool.not_not, decide_eq_true_eq, decide_eq_false_iff_not, ne_eq, Decidable.not_not, Bool.decide_eq_true] at H2
          refine G_val (V_move rfl rfl) rfl rfl (.yes rfl rfl rfl rfl) ?_
          refine G_val (V_fieldAddr rfl rfl (by decide)) rfl rfl (.yes rfl rfl rfl rfl) ?_
          refine G_val (V_load rfl rfl (Cell.own (.head _) rfl)) rfl rfl (.yes rfl rfl rfl rfl) ?_
          refine G_val (V_lenS rfl rfl) rfl rfl (.yes rfl rfl rfl rfl) ?_
          refine G_val (V_geq rfl rfl rfl) rfl rfl (.yes rfl rfl rfl rfl) ?_
          refine G_val (V_pick_f rfl rfl rfl) rfl rfl (.none rfl) ?_
          refine G_end ?_
          exact JQ_end 6 rfl rfl (by kernel_rfl)
        dsimp only [List.drop]
        refine G_end (X_then ?_)
        refine G_cond_t rfl (by simp [*]; done) ?_
        refine G_seq (G_region ?_)
        refine G_val (V_assign rfl rfl) rfl rfl (.none rfl) ?_
        refine G_val (V_assign rfl rfl) rfl rfl (.none rfl) ?_
        refine G_end (X_then (G_ret (X_then_ret ?_)))
        refine G_leaveS (.drop _ (.nil _)) (by exact (.cons (.tmp rfl) (.cons (.tmp rfl) (.nil)))) rfl ?_ ?_
        · exact (.refl _)
        exact ⟨_, ⟨_, ⟨rfl, ⟨(by assumption), rfl⟩⟩⟩⟩
      · exact absurd (byE_zero.2 ⟨hc, by omega, by omega⟩) h
    · rw [byE, if_neg hc]
      refine G_seq (G_region ?_)
      (refine G_boxA rfl rfl rfl rfl (.none rfl) ?_; intro b2)
      refine G_val (V_assign rfl rfl) rfl rfl (.none rfl) ?_
      refine G_val (V_assign rfl rfl) rfl rfl (.none rfl) ?_
      refine G_end (X_then (G_seq (G_seq (G_region ?_))))
      refine G_val (V_loadA rfl rfl (Cells.own (.head _)) rfl) rfl rfl (.none rfl) ?_
      refine G_callv (k := 67) (.mk rfl rfl rfl rfl) rfl rfl (.none rfl) (GCheck_call _ _ _ _ (by assumption) (by assumption)) ?_
      refine G_val (V_assign rfl rfl) rfl rfl (.none rfl) ?_
      refine G_end (X_then (G_seq (G_region ?_)))
      refine G_val (V_move rfl rfl) rfl rfl (.none rfl) ?_
      refine G_val (V_neq rfl rfl rfl) rfl rfl (.none rfl) ?_
      refine G_end (X_then ?_)
      refine G_cond_t rfl (decide_eq_true (by omega)) ?_
      refine G_seq (G_region ?_)
      refine G_val (V_move rfl rfl) rfl rfl (.none rfl) ?_
      refine G_val (V_assign rfl rfl) rfl rfl (.none rfl) ?_
      refine G_val (V_assign rfl rfl) rfl rfl (.none rfl) ?_
      refine G_end (X_then (G_ret (X_then_ret ?_)))
      refine G_leaveS (.drop _ (.nil _)) (by exact (.cons (.tmp rfl) (.cons (.tmp rfl) (.nil)))) rfl ?_ ?_
      · exact (.refl _)
      exact ⟨_, ⟨_, ⟨rfl, ⟨(by assumption), rfl⟩⟩⟩⟩
theorem NullableR_call' (gv : Value) (g : Gr) (hg : GrE E gv g) (hl : Light g) (hc : gcheck g = 0) : CallS Try.prog 39 #[gv] E L (fun r E' L' => ∃ p c, r = .tuple #[.slice p g.names.length c, .int .i64 0] ∧ SlE E' 1 p g.names.length (bools (nullM g)) ∧ L' = L) := by
  have h := NullableR_call E L gv g hg hl
  rwa [okL_pos hc, nullM_len (valid_of hc), hc] at h
theorem ByR_call (gv : Value) (g : Gr) (hg : GrE E gv g) (hl : Light g) (p : Int) : CallS Try.prog 25 #[gv, .int .i64 p] E L (fun r E' L' => ∃ q c, r = .tuple #[.slice q (byL g p).length c, .int .i64 (byE g p)] ∧ SlE E' 1 q (byL g p).length (i64s (natsI (byL g p))) ∧ L' = L) := by
  have hg0 := hg
  obtain ⟨tp, tc, np', nc', pp, pc, rfl, ht, hnm, hps, k1, k2, k3⟩ := hg
  have q3 := hl.p
  have q2 := hl.n
  refine CallS.intro (l := [_, _]) _ Try.func25 rfl Try.ntmps25 rfl ?_
  by_cases hc : gcheck g = 0
  · by_cases hp : p < 0 ∨ (g.prods.length : Int) ≤ p
    · have h : byE g p ≠ 0 := fun h => by have := byE_zero.1 h; omega
      rw [byL, if_neg h, byE, if_pos hc, if_pos hp]
      have hnil := @SlE.nil E 1
      refine G_seq (G_region ?_)
      (refine G_boxA rfl rfl rfl rfl (.none rfl) ?_; intro b2)
      refine G_val (V_assign rfl rfl) rfl rfl (.none rfl) ?_
      refine G_val (V_assign rfl rfl) rfl rfl (.none rfl) ?_
      refine G_end (X_then (G_seq (G_seq (G_region ?_))))
      refine G_val (V_loadA rfl rfl (Cells.own (.head _)) rfl) rfl rfl (.none rfl) ?_
      refine G_callv (k := 73) (.mk rfl rfl rfl rfl) rfl rfl (.none rfl) (GCheckR_call _ _ _ _ (by assumption) (by assumption)) ?_
      refine G_val (V_assign rfl rfl) rfl rfl (.none rfl) ?_
      refine G_end (X_then (G_seq (G_region ?_)))
      refine G_val (V_move rfl rfl) rfl rfl (.none rfl) ?_
      refine G_val (V_neq rfl rfl rfl) rfl rfl (.none rfl) ?_
      refine G_end (X_then ?_)
      refine G_cond_f rfl (decide_eq_false (by omega)) ?_
      refine G_skip (X_then (G_seq (G_seq (G_region ?_))))
      refine G_val (V_move rfl rfl) rfl rfl (.none rfl) ?_
      refine G_val (V_lss rfl rfl rfl) rfl rfl (.none rfl) ?_
      refine G_val (V_move rfl rfl) rfl rfl (.none rfl) ?_
      apply G_joinOr 6 16 22 rfl
      · intro H1
        dsimp only [List.take]
        simp only [Bool.and_eq_true, Bool.or_eq_true, Bool.not_eq_true', Bool.not_eq_false', Bool.and_eq_false_iff, Bool.or_eq_false_iff, Bool.not_not, decide_eq_true_eq, decide_eq_false_iff_not, ne_eq, Decidable.not_not, Bool.decide_eq_true] at H1
        refine G_stay (.no rfl rfl rfl rfl) rfl rfl ?_
        refine G_stay (.no rfl rfl rfl rfl) rfl rfl ?_
        refine G_stay (.no rfl rfl rfl rfl) rfl rfl ?_
        refine G_stay (.no rfl rfl rfl rfl) rfl rfl ?_
        refine G_stay (.no rfl rfl rfl rfl) rfl rfl ?_
        refine G_val (V_pick_t rfl rfl rfl) rfl rfl (.none rfl) ?_
        refine G_end ?_
        exact JQ_end 6 rfl rfl (by kernel_rfl)
      · intro H2
        dsimp only [List.take]
        simp only [Bool.and_eq_true, Bool.or_eq_true, Bool.not_eq_true', Bool.not_eq_false', Bool.and_eq_false_iff, Bool.or_eq_false_iff, Bool.not_not, decide_eq_true_eq, decide_eq_false_iff_not, ne_eq, Decidable.not_not, Bool.decide_eq_true] at H2
        refine G_val (V_move rfl rfl) rfl rfl (.yes rfl rfl rfl rfl) ?_
        refine G_val (V_fieldAddr rfl rfl (by decide)) rfl rfl (.yes rfl rfl rfl rfl) ?_
        refine G_val (V_load rfl rfl (Cell.own (.head _) rfl)) rfl rfl (.yes rfl rfl rfl rfl) ?_
        refine G_val (V_lenS rfl rfl) rfl rfl (.yes rfl rfl rfl rfl) ?_
        refine G_val (V_geq rfl rfl rfl) rfl rfl (.yes rfl rfl rfl rfl) ?_
        refine G_val (V_pick_f rfl rfl rfl) rfl rfl (.none rfl) ?_
        refine G_end ?_
        exact JQ_end 6 rfl rfl (by kernel_rfl)
      dsimp only [List.drop]
      refine G_end (X_then ?_)
      refine G_cond_t rfl (by simp [*]; done) ?_
      refine G_seq (G_region ?_)
      refine G_val (V_assign rfl rfl) rfl rfl (.none rfl) ?_
      refine G_val (V_assign rfl rfl) rfl rfl (.none rfl) ?_
      refine G_end (X_then (G_ret (X_then_ret ?_)))
      refine G_leaveS (.drop _ (.nil _)) (by exact (.cons (.tmp rfl) (.cons (.tmp rfl) (.nil)))) rfl ?_ ?_
      · exact (.refl _)
      exact ⟨_, ⟨_, ⟨rfl, ⟨(by assumption), rfl⟩⟩⟩⟩
    · have h : byE g p = 0 := byE_zero.2 ⟨hc, by omega, by omega⟩
      obtain ⟨m, rfl⟩ := Int.eq_ofNat_of_zero_le (show 0 ≤ p by omega)
      have hv := valid_of hc
      have hmem : g.prods.getD m (0, []) ∈ g.prods := by
        have hm : m < g.prods.length := by omega
        rw [List.getD, List.getElem?_eq_getElem hm]; exact List.getElem_mem hm
      have h256 := byS_lt' hv hmem
      have hin := byS_bit (nullM g) _ (hv.wf.syms _ hmem)
      have hnb : numB g.names.length (fun j => (byS (nullM g) (g.prods.getD m (0, [])).2).testBit j) = byL g m := by
        rw [byL, if_pos h]; exact numB_bits hv.names.2 hin
      rw [h, ← hnb]
      refine G_seq (G_region ?_)
      (refine G_boxA rfl rfl rfl rfl (.none rfl) ?_; intro b2)
      refine G_val (V_assign rfl rfl) rfl rfl (.none rfl) ?_
      refine G_val (V_assign rfl rfl) rfl rfl (.none rfl) ?_
      refine G_end (X_then (G_seq (G_seq (G_region ?_))))
      refine G_val (V_loadA rfl rfl (Cells.own (.head _)) rfl) rfl rfl (.none rfl) ?_
      refine G_callv (k := 73) (.mk rfl rfl rfl rfl) rfl rfl (.none rfl) (GCheckR_call _ _ _ _ (by assumption) (by assumption)) ?_
      refine G_val (V_assign rfl rfl) rfl rfl (.none rfl) ?_
      refine G_end (X_then (G_seq (G_region ?_)))
      refine G_val (V_move rfl rfl) rfl rfl (.none rfl) ?_
      refine G_val (V_neq rfl rfl rfl) rfl rfl (.none rfl) ?_
      refine G_end (X_then ?_)
      refine G_cond_f rfl (decide_eq_false (by omega)) ?_
      refine G_skip (X_then (G_seq (G_seq (G_region ?_))))
      refine G_val (V_move rfl rfl) rfl rfl (.none rfl) ?_
      refine G_val (V_lss rfl rfl rfl) rfl rfl (.none rfl) ?_
      refine G_val (V_move rfl rfl) rfl rfl (.none rfl) ?_
      refine G.bool_f 16 rfl (decide_eq_false (by omega)) ?_
      refine G_val (V_move rfl rfl) rfl rfl (.yes rfl rfl rfl rfl) ?_
      refine G_val (V_fieldAddr rfl rfl (by decide)) rfl rfl (.yes rfl rfl rfl rfl) ?_
      refine G_val (V_load rfl rfl (Cell.own (.head _) rfl)) rfl rfl (.yes rfl rfl rfl rfl) ?_
      refine G_val (V_lenS rfl rfl) rfl rfl (.yes rfl rfl rfl rfl) ?_
      refine G_val (V_geq rfl rfl rfl) rfl rfl (.yes rfl rfl rfl rfl) ?_
      refine G_val (V_pick_f rfl rfl rfl) rfl rfl (.none rfl) ?_
      refine G_end (X_then ?_)
      refine G_cond_f rfl (decide_eq_false (by omega)) ?_
      refine G_skip (X_then (G_seq (G_region ?_)))
      refine G_val (V_loadA rfl rfl (Cells.own (.head _)) rfl) rfl rfl (.none rfl) ?_
      refine G_call (k := 39) (.mk rfl rfl rfl rfl) rfl rfl (.none rfl) (NullableR_call' _ _ _ _ (by assumption) (by assumption) (by assumption)) ?_
      rintro r1 E2 L3 hE4 ⟨z5, ⟨z6, ⟨rfl, ⟨Z7, rfl⟩⟩⟩⟩
      replace hg0 := hg0.mono hE4
      replace ht := ht.mono hE4
      replace hnm := hnm.mono hE4
      replace hps := hps.mono hE4
      refine G_val (V_move rfl rfl) rfl rfl (.none rfl) ?_
      refine G_val (V_extract rfl rfl rfl) rfl rfl (.none rfl) ?_
      refine G_val (V_extract rfl rfl rfl) rfl rfl (.none rfl) ?_
      refine G_val (V_assign rfl rfl) rfl rfl (.none rfl) ?_
      refine G_val (V_assign rfl rfl) rfl rfl (.none rfl) ?_
      refine G_end (X_then (G_seq (G_region ?_)))
      refine G_val (V_loadA rfl rfl (Cells.own (.head _)) rfl) rfl rfl (.none rfl) ?_
      refine G_val (V_move rfl rfl) rfl rfl (.none rfl) ?_
      refine G_val (V_move rfl rfl) rfl rfl (.none rfl) ?_
      refine G_call (k := 77) (.mk rfl rfl rfl rfl) rfl rfl (.none rfl) (rby_call _ _ _ _ (by assumption) (by assumption) (by assumption) _ _ (by assumption) _ (by omega)) ?_
      rintro r8 E9 L10 hE11 ⟨z12, ⟨z13, ⟨rfl, ⟨Z14, rfl⟩⟩⟩⟩
      replace Z7 := Z7.mono hE11
      replace hg0 := hg0.mono hE11
      replace ht := ht.mono hE11
      replace hnm := hnm.mono hE11
      replace hps := hps.mono hE11
      refine G_call (k := 75) (.mk rfl rfl rfl rfl) rfl rfl (.none rfl) (numbers_call _ _ _ _ _ _ (by assumption) (by omega)) ?_
      rintro r15 E16 L17 hE18 ⟨z19, ⟨z20, ⟨rfl, ⟨Z21, rfl⟩⟩⟩⟩
      replace Z14 := Z14.mono hE18
      replace Z7 := Z7.mono hE18
      replace hg0 := hg0.mono hE18
      replace ht := ht.mono hE18
      replace hnm := hnm.mono hE18
      replace hps := hps.mono hE18
      refine G_val (V_assign rfl rfl) rfl rfl (.none rfl) ?_
      refine G_val (V_assign rfl rfl) rfl rfl (.none rfl) ?_
      refine G_end (X_then (G_ret ?_))
      refine G_leaveS (.drop _ (.nil _)) (by exact (.cons (.tmp rfl) (.cons (.tmp rfl) (.nil)))) rfl ?_ ?_
      · exact ((hE4.trans hE11).trans hE18)
      exact ⟨_, ⟨_, ⟨rfl, ⟨(by assumption), rfl⟩⟩⟩⟩
  · have h : byE g p ≠ 0 := fun h => hc (byE_zero.1 h).1
    rw [byL, if_neg h, byE, if_neg hc]
    have hnil := @SlE.nil E 1
    refine G_seq (G_region ?_)
    (refine G_boxA rfl rfl rfl rfl (.none rfl) ?_; intro b2)
    refine G_val (V_assign rfl rfl) rfl rfl (.none rfl) ?_
    refine G_val (V_assign rfl rfl) rfl rfl (.none rfl) ?_
    refine G_end (X_then (G_seq (G_seq (G_region ?_))))
    refine G_val (V_loadA rfl rfl (Cells.own (.head _)) rfl) rfl rfl (.none rfl) ?_
    refine G_callv (k := 73) (.mk rfl rfl rfl rfl) rfl rfl (.none rfl) (GCheckR_call _ _ _ _ (by assumption) (by assumption)) ?_
    refine G_val (V_assign rfl rfl) rfl rfl (.none rfl) ?_
    refine G_end (X_then (G_seq (G_region ?_)))
    refine G_val (V_move rfl rfl) rfl rfl (.none rfl) ?_
    refine G_val (V_neq rfl rfl rfl) rfl rfl (.none rfl) ?_
    refine G_end (X_then ?_)
    refine G_cond_t rfl (decide_eq_true (by omega)) ?_
    refine G_seq (G_region ?_)
    refine G_val (V_move rfl rfl) rfl rfl (.none rfl) ?_
    refine G_val (V_assign rfl rfl) rfl rfl (.none rfl) ?_
    refine G_val (V_assign rfl rfl) rfl rfl (.none rfl) ?_
    refine G_end (X_then (G_ret (X_then_ret ?_)))
    refine G_leaveS (.drop _ (.nil _)) (by exact (.cons (.tmp rfl) (.cons (.tmp rfl) (.nil)))) rfl ?_ ?_
    · exact (.refl _)
    exact ⟨_, ⟨_, ⟨rfl, ⟨(by assumption), rfl⟩⟩⟩⟩
theorem LeftR_call (gv : Value) (g : Gr) (hg : GrE E gv g) (hl : Light g) : CallS Try.prog 26 #[gv] E L (fun r E' L' => ∃ p c, r = .tuple #[.slice p (okL g (leftM g)).length c, .int .i64 (gcheck g)] ∧ SlE E' 1 p (okL g (leftM g)).length (i64s (natsI (okL g (leftM g)))) ∧ L' = L) := by
  have hg0 := hg
  obtain ⟨tp, tc, np', nc', pp, pc, rfl, ht, hnm, hps, k1, k2, k3⟩ := hg
  have q2 := hl.n
  refine CallS.intro (l := [_]) _ Try.func26 rfl Try.ntmps26 rfl ?_
  by_cases hc : gcheck g = 0
  · have hln := leftM_num g
    rw [okL_pos hc, hc, ← hln]
    refine G_seq (G_region ?_)
    (refine G_boxA rfl rfl rfl rfl (.none rfl) ?_; intro b1)
    refine G_val (V_assign rfl rfl) rfl rfl (.none rfl) ?_
    refine G_val (V_assign rfl rfl) rfl rfl (.none rfl) ?_
    refine G_end (X_then (G_seq (G_seq (G_region ?_))))
    refine G_val (V_loadA rfl rfl (Cells.own (.head _)) rfl) rfl rfl (.none rfl) ?_
    refine G_callv (k := 73) (.mk rfl rfl rfl rfl) rfl rfl (.none rfl) (GCheckR_call _ _ _ _ (by assumption) (by assumption)) ?_
    refine G_val (V_assign rfl rfl) rfl rfl (.none rfl) ?_
    refine G_end (X_then (G_seq (G_region ?_)))
    refine G_val (V_move rfl rfl) rfl rfl (.none rfl) ?_
    refine G_val (V_neq rfl rfl rfl) rfl rfl (.none rfl) ?_
    refine G_end (X_then ?_)
    refine G_cond_f rfl (decide_eq_false (by omega)) ?_
    refine G_skip (X_then (G_seq (G_region ?_)))
    refine G_val (V_loadA rfl rfl (Cells.own (.head _)) rfl) rfl rfl (.none rfl) ?_
    refine G_call (k := 78) (.mk rfl rfl rfl rfl) rfl rfl (.none rfl) (rleft_call _ _ _ _ (by assumption) (by assumption) (by assumption)) ?_
    rintro r1 E2 L3 hE4 ⟨z5, ⟨z6, ⟨rfl, ⟨Z7, rfl⟩⟩⟩⟩
    replace hg0 := hg0.mono hE4
    replace ht := ht.mono hE4
    replace hnm := hnm.mono hE4
    replace hps := hps.mono hE4
    refine G_call (k := 75) (.mk rfl rfl rfl rfl) rfl rfl (.none rfl) (numbers_call _ _ _ _ _ _ (by assumption) (by omega)) ?_
    rintro r8 E9 L10 hE11 ⟨z12, ⟨z13, ⟨rfl, ⟨Z14, rfl⟩⟩⟩⟩
    replace Z7 := Z7.mono hE11
    replace hg0 := hg0.mono hE11
    replace ht := ht.mono hE11
    replace hnm := hnm.mono hE11
    replace hps := hps.mono hE11
    refine G_val (V_assign rfl rfl) rfl rfl (.none rfl) ?_
    refine G_val (V_assign rfl rfl) rfl rfl (.none rfl) ?_
    refine G_end (X_then (G_ret ?_))
    refine G_leaveS (.drop _ (.nil _)) (by exact (.cons (.tmp rfl) (.cons (.tmp rfl) (.nil)))) rfl ?_ ?_
    · exact (hE4.trans hE11)
    exact ⟨_, ⟨_, ⟨rfl, ⟨(by assumption), rfl⟩⟩⟩⟩
  · rw [okL_neg hc]
    have hnil := @SlE.nil E 1
    refine G_seq (G_region ?_)
    (refine G_boxA rfl rfl rfl rfl (.none rfl) ?_; intro b1)
    refine G_val (V_assign rfl rfl) rfl rfl (.none rfl) ?_
    refine G_val (V_assign rfl rfl) rfl rfl (.none rfl) ?_
    refine G_end (X_then (G_seq (G_seq (G_region ?_))))
    refine G_val (V_loadA rfl rfl (Cells.own (.head _)) rfl) rfl rfl (.none rfl) ?_
    refine G_callv (k := 73) (.mk rfl rfl rfl rfl) rfl rfl (.none rfl) (GCheckR_call _ _ _ _ (by assumption) (by assumption)) ?_
    refine G_val (V_assign rfl rfl) rfl rfl (.none rfl) ?_
    refine G_end (X_then (G_seq (G_region ?_)))
    refine G_val (V_move rfl rfl) rfl rfl (.none rfl) ?_
    refine G_val (V_neq rfl rfl rfl) rfl rfl (.none rfl) ?_
    refine G_end (X_then ?_)
    refine G_cond_t rfl (decide_eq_true (by omega)) ?_
    refine G_seq (G_region ?_)
    refine G_val (V_move rfl rfl) rfl rfl (.none rfl) ?_
    refine G_val (V_assign rfl rfl) rfl rfl (.none rfl) ?_
    refine G_val (V_assign rfl rfl) rfl rfl (.none rfl) ?_
    refine G_end (X_then (G_ret (X_then_ret ?_)))
    refine G_leaveS (.drop _ (.nil _)) (by exact (.cons (.tmp rfl) (.cons (.tmp rfl) (.nil)))) rfl ?_ ?_
    · exact (.refl _)
    exact ⟨_, ⟨_, ⟨rfl, ⟨(by assumption), rfl⟩⟩⟩⟩
theorem RCheckR_call (gv : Value) (g : Gr) (hg : GrE E gv g) (hl : Light g) : CallS Try.prog 29 #[gv] E L (fun r E' L' => r = .tuple #[.int .i64 (rcheck g), .int .i64 (rfirst g)] ∧ L' = L) := by
  have hg0 := hg
  obtain ⟨tp, tc, np, nc, pp, pc, rfl, ht, hn, hps, k1, k2, k3⟩ := hg
  have q2 := hl.n
  have hll := leftM_le g
  refine CallS.intro (l := [_]) _ Try.func29 rfl Try.ntmps29 rfl ?_
  by_cases hv : gcheck g = 0
  · cases hle : leftM g with
    | nil =>
      rw [rcheck, rfirst, if_pos hv, if_pos hv, hle]
      have hnil : (okL g (leftM g)).length = 0 := by rw [okL_pos hv, hle]; rfl
      refine G_seq (G_region ?_)
      (refine G_boxA rfl rfl rfl rfl (.none rfl) ?_; intro b1)
      refine G_val (V_assign rfl rfl) rfl rfl (.none rfl) ?_
      refine G_val (V_assign rfl rfl) rfl rfl (.none rfl) ?_
      refine G_end (X_then (G_seq (G_region ?_)))
      refine G_val (V_loadA rfl rfl (Cells.own (.head _)) rfl) rfl rfl (.none rfl) ?_
      refine G_call (k := 26) (.mk rfl rfl rfl rfl) rfl rfl (.none rfl) (LeftR_call _ _ _ _ (by assumption) (by assumption)) ?_
      rintro r1 E2 L3 hE4 ⟨z5, ⟨z6, ⟨rfl, ⟨Z7, rfl⟩⟩⟩⟩
      replace hg0 := hg0.mono hE4
      replace ht := ht.mono hE4
      replace hn := hn.mono hE4
      replace hps := hps.mono hE4
      refine G_val (V_move rfl rfl) rfl rfl (.none rfl) ?_
      refine G_val (V_extract rfl rfl rfl) rfl rfl (.none rfl) ?_
      refine G_val (V_extract rfl rfl rfl) rfl rfl (.none rfl) ?_
      refine G_val (V_assign rfl rfl) rfl rfl (.none rfl) ?_
      refine G_val (V_assign rfl rfl) rfl rfl (.none rfl) ?_
      refine G_end (X_then (G_seq (G_seq (G_region ?_))))
      refine G_val (V_move rfl rfl) rfl rfl (.none rfl) ?_
      refine G_val (V_eql rfl rfl rfl) rfl rfl (.none rfl) ?_
      refine G_val (V_move rfl rfl) rfl rfl (.none rfl) ?_
      refine G.bool_t 13 rfl (decide_eq_true (by omega)) ?_
      refine G_val (V_move rfl rfl) rfl rfl (.yes rfl rfl rfl rfl) ?_
      refine G_val (V_lenS rfl rfl) rfl rfl (.yes rfl rfl rfl rfl) ?_
      refine G_val (V_gtr rfl rfl rfl) rfl rfl (.yes rfl rfl rfl rfl) ?_
      refine G_val (V_pick_t rfl rfl rfl) rfl rfl (.none rfl) ?_
      refine G_end (X_then ?_)
      refine G_cond_f rfl (decide_eq_false (by omega)) ?_
      refine G_skip (X_then (G_seq (G_region ?_)))
      refine G_val (V_move rfl rfl) rfl rfl (.none rfl) ?_
      refine G_val (V_assign rfl rfl) rfl rfl (.none rfl) ?_
      refine G_val (V_assign rfl rfl) rfl rfl (.none rfl) ?_
      refine G_end (X_then (G_ret ?_))
      refine G_leaveS (.drop _ (.nil _)) (by exact (.cons (.tmp rfl) (.cons (.tmp rfl) (.nil)))) rfl ?_ ?_
      · exact hE4
      exact ⟨(by (simp [resVal, *]; done)), (by rfl)⟩
    | cons n r =>
      rw [rcheck, rfirst, if_pos hv, if_pos hv, hle]
      have hlen : (okL g (leftM g)).length = r.length + 1 := by rw [okL_pos hv, hle]; rfl
      have hat : (i64s (natsI (okL g (leftM g))))[0]? = some (.int .i64 (n : Int)) := by rw [okL_pos hv, hle]; rfl
      rw [hle, List.length_cons] at hll
      refine G_seq (G_region ?_)
      (refine G_boxA rfl rfl rfl rfl (.none rfl) ?_; intro b1)
      refine G_val (V_assign rfl rfl) rfl rfl (.none rfl) ?_
      refine G_val (V_assign rfl rfl) rfl rfl (.none rfl) ?_
      refine G_end (X_then (G_seq (G_region ?_)))
      refine G_val (V_loadA rfl rfl (Cells.own (.head _)) rfl) rfl rfl (.none rfl) ?_
      refine G_call (k := 26) (.mk rfl rfl rfl rfl) rfl rfl (.none rfl) (LeftR_call _ _ _ _ (by assumption) (by assumption)) ?_
      rintro r1 E2 L3 hE4 ⟨z5, ⟨z6, ⟨rfl, ⟨Z7, rfl⟩⟩⟩⟩
      replace hg0 := hg0.mono hE4
      replace ht := ht.mono hE4
      replace hn := hn.mono hE4
      replace hps := hps.mono hE4
      refine G_val (V_move rfl rfl) rfl rfl (.none rfl) ?_
      refine G_val (V_extract rfl rfl rfl) rfl rfl (.none rfl) ?_
      refine G_val (V_extract rfl rfl rfl) rfl rfl (.none rfl) ?_
      refine G_val (V_assign rfl rfl) rfl rfl (.none rfl) ?_
      refine G_val (V_assign rfl rfl) rfl rfl (.none rfl) ?_
      refine G_end (X_then (G_seq (G_seq (G_region ?_))))
      refine G_val (V_move rfl rfl) rfl rfl (.none rfl) ?_
      refine G_val (V_eql rfl rfl rfl) rfl rfl (.none rfl) ?_
      refine G_val (V_move rfl rfl) rfl rfl (.none rfl) ?_
      refine G.bool_t 13 rfl (decide_eq_true (by omega)) ?_
      refine G_val (V_move rfl rfl) rfl rfl (.yes rfl rfl rfl rfl) ?_
      refine G_val (V_lenS rfl rfl) rfl rfl (.yes rfl rfl rfl rfl) ?_
      refine G_val (V_gtr rfl rfl rfl) rfl rfl (.yes rfl rfl rfl rfl) ?_
      refine G_val (V_pick_t rfl rfl rfl) rfl rfl (.none rfl) ?_
      refine G_end (X_then ?_)
      refine G_cond_t rfl (decide_eq_true (by omega)) ?_
      refine G_seq ?_
      refine G_draw mixed (by kernel_rfl) ?_
      refine Q_val (V_move rfl rfl) rfl rfl (.none rfl) ?_
      refine Q_val (V_idxAddr rfl rfl rfl (SlE.rd (by assumption)) (by omega) (by omega)) rfl rfl (.none rfl) ?_
      refine Q_val (V_loadS rfl rfl (SlE.rd (by assumption)) (by assumption) (by simp)) rfl rfl (.none rfl) ?_
      refine Q_val (V_assign rfl rfl) rfl rfl (.none rfl) ?_
      refine Q_val (V_assign rfl rfl) rfl rfl (.none rfl) ?_
      refine Q_end ?_
      refine X_then (G_ret (X_then_ret ?_))
      refine G_leaveS (.drop _ (.nil _)) (by exact (.cons (.tmp rfl) (.cons (.tmp rfl) (.nil)))) rfl ?_ ?_
      · exact hE4
      exact ⟨rfl, rfl⟩
  · rw [rcheck, rfirst, if_neg hv, if_neg hv]
    refine G_seq (G_region ?_)
    (refine G_boxA rfl rfl rfl rfl (.none rfl) ?_; intro b1)
    refine G_val (V_assign rfl rfl) rfl rfl (.none rfl) ?_
    refine G_val (V_assign rfl rfl) rfl rfl (.none rfl) ?_
    refine G_end (X_then (G_seq (G_region ?_)))
    refine G_val (V_loadA rfl rfl (Cells.own (.head _)) rfl) rfl rfl (.none rfl) ?_
    refine G_call (k := 26) (.mk rfl rfl rfl rfl) rfl rfl (.none rfl) (LeftR_call _ _ _ _ (by assumption) (by assumption)) ?_
    rintro r1 E2 L3 hE4 ⟨z5, ⟨z6, ⟨rfl, ⟨Z7, rfl⟩⟩⟩⟩
    replace hg0 := hg0.mono hE4
    replace ht := ht.mono hE4
    replace hn := hn.mono hE4
    replace hps := hps.mono hE4
    refine G_val (V_move rfl rfl) rfl rfl (.none rfl) ?_
    refine G_val (V_extract rfl rfl rfl) rfl rfl (.none rfl) ?_
    refine G_val (V_extract rfl rfl rfl) rfl rfl (.none rfl) ?_
    refine G_val (V_assign rfl rfl) rfl rfl (.none rfl) ?_
    refine G_val (V_assign rfl rfl) rfl rfl (.none rfl) ?_
    refine G_end (X_then (G_seq (G_seq (G_region ?_))))
    refine G_val (V_move rfl rfl) rfl rfl (.none rfl) ?_
    refine G_val (V_eql rfl rfl rfl) rfl rfl (.none rfl) ?_
    refine G_val (V_move rfl rfl) rfl rfl (.none rfl) ?_
    refine G.bool_f 13 rfl (decide_eq_false (by omega)) ?_
    refine G_stay (.no rfl rfl rfl rfl) rfl rfl ?_
    refine G_stay (.no rfl rfl rfl rfl) rfl rfl ?_
    refine G_stay (.no rfl rfl rfl rfl) rfl rfl ?_
    refine G_val (V_pick_f rfl rfl rfl) rfl rfl (.none rfl) ?_
    refine G_end (X_then ?_)
    refine G_cond_f rfl rfl ?_
    refine G_skip (X_then (G_seq (G_region ?_)))
    refine G_val (V_move rfl rfl) rfl rfl (.none rfl) ?_
    refine G_val (V_assign rfl rfl) rfl rfl (.none rfl) ?_
    refine G_val (V_assign rfl rfl) rfl rfl (.none rfl) ?_
    refine G_end (X_then (G_ret ?_))
    refine G_leaveS (.drop _ (.nil _)) (by exact (.cons (.tmp rfl) (.cons (.tmp rfl) (.nil)))) rfl ?_ ?_
    · exact hE4
    exact ⟨rfl, rfl⟩
end
end Go.Proofs.Ytaoinojdijbhaaa
set_option linter.unusedSimpArgs false
set_option linter.unusedVariables false
set_option maxHeartbeats 2000000
set_option maxRecDepth 20000
namespace Go.Proofs.Ytaoinojdijbhaaa
open Go.RowKit
section
variable (E : Env) (L : List Res)
theorem OwnTexts_call' (p : Option Addr) (c : Nat) (l : List (List UInt8)) (hl : SlE E 1 p l.length (strs l)) (hn : l.length ≤ 1000000000) :
    CallS Try.prog 71 #[.slice p l.length c] E L (fun r E' L' => ∃ a c', r = .slice a l.length c' ∧ SlE E' 1 a l.length (strs l) ∧ l.length ≤ c' ∧ L' = L) := by
  refine CallS.intro (l := [.slice p l.length c]) _ Try.func71 rfl Try.ntmps71 rfl ?_
  refine G_seq (G_region ?_)
  refine G_val (V_assign rfl rfl) rfl rfl (.none rfl) ?_
  refine G_end (X_then (G_seq (G_region ?_)))
  refine G_lit0 rfl rfl rfl (.none rfl) ?_
  intro b3
  refine G_val (V_move rfl rfl) rfl rfl (.none rfl) ?_
  refine G_append rfl rfl rfl (SlE.rd hl) (strs_one l) (by omega) (by omega) rfl rfl (.none rfl) (fun _ _ => .head _ _ _) ?_
  intro a5 c5
  refine G.freezeSl (.head _ _) ?_
  intro E1 hE1 hal hc
  simp only [Nat.zero_add, List.nil_append] at hal hc ⊢
  refine G_val (V_assign rfl rfl) rfl rfl (.none rfl) ?_
  refine G_end (X_then (G_ret ?_))
  refine G_leaveS (.nil _) (by exact (.cons (.tmp rfl) (.nil))) rfl ?_ ?_
  · exact hE1
  exact ⟨_, ⟨_, ⟨rfl, ⟨(by assumption), ⟨(by assumption), rfl⟩⟩⟩⟩⟩
theorem OwnGrammar_call (gv : Value) (g : Gr) (hg : GrE E gv g) (hl : Light g) : CallS Try.prog 18 #[gv] E L (fun r E' L' => GrE E' r g ∧ L' = L) := by
  obtain ⟨tp, tc, np, nc, pp, pc, rfl, ht, hn, ⟨rows, hrows, hps, hre⟩, k1, k2, k3⟩ := hg
  have hlen : g.prods.length = rows.length := by rw [← hrows]; simp
  have q1 := hl.t; have q2 := hl.n; have q3 := hl.p
  refine CallS.intro (l := [_]) _ Try.func18 rfl Try.ntmps18 rfl ?_
  refine G_seq (G_region ?_)
  (refine G_boxA rfl rfl rfl rfl (.none rfl) ?_; intro b1)
  (refine G_alloc rfl rfl rfl (.none rfl) ?_; intro b2)
  refine G_end (X_then (G_seq (G_region ?_)))
  refine G_val (V_fieldAddr rfl rfl (by decide)) rfl rfl (.none rfl) ?_
  refine G_val (V_load rfl rfl (Cell.own (.tail _ (.head _)) rfl)) rfl rfl (.none rfl) ?_
  refine G_call (k := 71) (.mk rfl rfl rfl rfl) rfl rfl (.none rfl) (OwnTexts_call' _ _ _ _ _ (by assumption) (by omega)) ?_
  rintro r1 E2 L3 hE4 ⟨z5, ⟨z6, ⟨rfl, ⟨Z7, ⟨Z8, rfl⟩⟩⟩⟩⟩
  replace ht := ht.mono hE4
  replace hn := hn.mono hE4
  replace hps := hps.mono hE4
  refine G_val (V_fieldAddr rfl rfl (by decide)) rfl rfl (.none rfl) ?_
  refine G_storeAt rfl rfl rfl rfl rfl rfl (.none rfl) (.tail _ (.head _ _ _)) (Nat.le_of_ble_eq_true rfl) (by simp only [putAll, Nat.zero_add, Nat.reduceAdd, List.setIfInBounds_toArray, List.set_cons_succ, List.set_cons_zero]; rfl) ?_
  refine G_end (X_then (G_seq (G_region ?_)))
  refine G_val (V_fieldAddr rfl rfl (by decide)) rfl rfl (.none rfl) ?_
  refine G_val (V_load rfl rfl (Cell.own (.tail _ (.head _)) rfl)) rfl rfl (.none rfl) ?_
  refine G_call (k := 71) (.mk rfl rfl rfl rfl) rfl rfl (.none rfl) (OwnTexts_call' _ _ _ _ _ (by assumption) (by omega)) ?_
  rintro r9 E10 L11 hE12 ⟨z13, ⟨z14, ⟨rfl, ⟨Z15, ⟨Z16, rfl⟩⟩⟩⟩⟩
  replace Z7 := Z7.mono hE12
  replace ht := ht.mono hE12
  replace hn := hn.mono hE12
  replace hps := hps.mono hE12
  refine G_val (V_fieldAddr rfl rfl (by decide)) rfl rfl (.none rfl) ?_
  refine G_storeAt rfl rfl rfl rfl rfl rfl (.none rfl) (.tail _ (.head _ _ _)) (Nat.le_of_ble_eq_true rfl) (by simp only [putAll, Nat.zero_add, Nat.reduceAdd, List.setIfInBounds_toArray, List.set_cons_succ, List.set_cons_zero]; rfl) ?_
  refine G_end (X_then (G_seq (G_region ?_)))
  refine G_val (V_assign rfl rfl) rfl rfl (.none rfl) ?_
  refine G_end (X_then (G_seq (G_seq (G_region ?_))))
  refine G_val (V_assign rfl rfl) rfl rfl (.none rfl) ?_
  refine G_end (X_then (G_block ?_))
  replace hre := (hre.mono hE4).mono hE12
  refine G.nilSl 62 2 ?_
  refine G_loop (α := Nat × Env × Option Addr × Nat × List Row) (fun x => [(1, .pointer (some ⟨b1, 0, none⟩)), (2, .pointer (some ⟨b2, 0, none⟩)), (3, .slice x.2.2.1 x.1 x.2.2.2.1), (4, .int .i64 x.1)]) (fun x => x.2.1)
    (fun x => .sl 62 2 x.2.2.1 x.1 x.2.2.2.1 (prows x.2.2.2.2) :: .blk b2 (.cells #[.int .i64 0, .slice none 0 0, .string ⟨#[]⟩, .slice none 0 0, .int .i64 0, .slice none 0 0] 26 (0, 0)) :: .blk b1 (.cells #[.int .i64 g.k, .slice z5 g.toks.length z6, .string (S g.sep), .slice z13 g.names.length z14, .int .i64 g.start, .slice pp g.prods.length pc] 26 (0, 0)) :: L)
    (fun x => E10.Le x.2.1 ∧ x.1 ≤ rows.length ∧ x.2.2.2.2.map (·.2.2) = (rows.take x.1).map (·.2.2) ∧ RowsE x.2.1 x.2.2.2.2) (fun x => rows.length - x.1) (0, E10, none, 0, [])
    ⟨.refl _, Nat.zero_le _, rfl, fun r hr => (by cases hr)⟩ ⟨rfl, rfl, rfl, rfl, trivial⟩ rfl rfl ?_
  rintro ⟨i, E, a, ca, rs⟩ ⟨hE, hi, hrs, hrE⟩
  simp only at hE hi hrs hrE ⊢
  replace hps := hps.mono hE
  replace hre := hre.mono hE
  have hrl : rs.length = i := by have := congrArg List.length hrs; simp at this; omega
  by_cases hlt : i < rows.length
  · have hg1 := List.getElem?_eq_getElem hlt
    have hyl := prows_left hg1
    have hyr := prows_right hg1
    have hre1 := hre.get hg1
    have hp : rows[i].2.2 ∈ g.prods := by rw [← hrows]; exact List.mem_map.2 ⟨rows[i], List.getElem_mem hlt, rfl⟩
    have h8 := hl.ps _ hp
    have htk : (rows.take (i + 1)).map (·.2.2) = (rows.take i).map (·.2.2) ++ [rows[i].2.2] := by rw [List.take_succ_eq_append_getElem hlt, List.map_append]; rfl
    have hrl2 := prows_len rs
    refine G_seq (G_seq (G_region ?_))
    refine G_val (V_move rfl rfl) rfl rfl (.none rfl) ?_
    refine G_val (V_fieldAddr rfl rfl (by decide)) rfl rfl (.none rfl) ?_
    refine G_val (V_load rfl rfl (Cell.own (.tail _ (.tail _ (.head _))) rfl)) rfl rfl (.none rfl) ?_
    refine G_val (V_lenS rfl rfl) rfl rfl (.none rfl) ?_
    refine G_val (V_lss rfl rfl rfl) rfl rfl (.none rfl) ?_
    refine G_end (X_then ?_)
    refine G_cond_t rfl (decide_eq_true (by omega)) ?_
    refine G_skip (X_then (G_seq (G_block ?_)))
    refine G_drawX 16 [(0, 0), (1, 0), (2, 1), (3, 0), (4, 1), (5, 0), (6, 1), (7, 0), (8, 1), (9, 0), (10, 1), (11, 0), (12, 1), (13, 3), (14, 0), (15, 2)] mixed (by kernel_rfl) ?_
    refine F_pure rfl (fun _ _ => V_move rfl rfl) rfl rfl (.none rfl) ?_
    refine F_pure rfl (fun _ _ => V_fieldAddr rfl rfl (by decide)) rfl rfl (.none rfl) ?_
    refine F_load rfl (.tail _ (.tail _ (.head _))) (V_load rfl rfl (Cell.own (.head _) rfl)) rfl rfl (.none rfl) ?_
    refine F_pure rfl (fun _ _ => V_move rfl rfl) rfl rfl (.none rfl) ?_
    refine F_loadE rfl (V_idxAddr rfl rfl rfl (SlE.rd (by assumption)) (by omega) (by omega)) rfl rfl (.none rfl) ?_
    refine F_pure rfl (fun _ _ => V_fieldAddrX rfl rfl (by assumption) (by omega) (by decide)) rfl rfl (.none rfl) ?_
    refine F_loadE rfl (V_loadS rfl rfl (SlE.rd (by assumption)) hyl (by simp)) rfl rfl (.none rfl) ?_
    refine F_pure rfl (fun _ _ => V_fieldAddr rfl rfl (by decide)) rfl rfl (.none rfl) ?_
    refine F_load rfl (.tail _ (.tail _ (.head _))) (V_load rfl rfl (Cell.own (.head _) rfl)) rfl rfl (.none rfl) ?_
    refine F_pure rfl (fun _ _ => V_move rfl rfl) rfl rfl (.none rfl) ?_
    refine F_loadE rfl (V_idxAddr rfl rfl rfl (SlE.rd (by assumption)) (by omega) (by omega)) rfl rfl (.none rfl) ?_
    refine F_pure rfl (fun _ _ => V_fieldAddrX rfl rfl (by assumption) (by omega) (by decide)) rfl rfl (.none rfl) ?_
    refine F_loadE rfl (V_loadS rfl rfl (SlE.rd (by assumption)) (by assumption) (by simp)) rfl rfl (.none rfl) ?_
    apply F_call (k := 32) rfl (.mk rfl rfl rfl rfl) rfl rfl (.none rfl)
    · (intro L0; refine CallS.mono (OwnInts_call _ _ _ _ _ (by assumption) (by omega)) ?_; exact fun _ _ _ _ h => h)
    · (rintro L0 r E' L' ⟨z1, ⟨z2, ⟨rfl, ⟨Z3, rfl⟩⟩⟩⟩; exact ⟨rfl, ⟨_, ⟨_, ⟨rfl, ⟨(by assumption), rfl⟩⟩⟩⟩⟩)
    rintro r4 E5 hE6 ⟨z7, ⟨z8, ⟨rfl, ⟨Z9, _⟩⟩⟩⟩
    replace hps := hps.mono hE6
    replace hre1 := hre1.mono hE6
    refine F_pure rfl (fun _ _ => V_build rfl rfl (by simp [fillV, setLs, setL, Value.cells]; rfl)) rfl rfl (.none rfl) ?_
    (refine F_litZ rfl rfl rfl (by decide) (by simp [fillS, zeros, setLs, setL, Value.cells, List.range, List.range.loop]; rfl) (by rfl) rfl rfl (.none rfl) ?_; intro b35 E35 hE35 hs35)
    replace Z9 := Z9.mono hE35
    replace hps := hps.mono hE35
    replace hre1 := hre1.mono hE35
    (refine F_end (.nil _) ?_; dsimp only [List.drop])
    (refine G_append rfl rfl rfl (SlE.rd (by assumption)) (by simp [Value.oneCell']) (by omega) (by omega) rfl rfl (.none rfl) (fun _ _ => (.head _ _ _)) ?_; intro a36 c36)
    refine G_val (V_assign rfl rfl) rfl rfl (.none rfl) ?_
    refine G_end (X_block (X_then (G_region ?_)))
    refine G_val (V_move rfl rfl) rfl rfl (.none rfl) ?_
    refine G_val (V_add_i64 rfl rfl rfl (by omega) (by omega)) rfl rfl (.none rfl) ?_
    refine G_val (V_assign rfl rfl) rfl rfl (.none rfl) ?_
    refine G_end (X_then ?_)
    have hap := prows_append rs [(z7, z8, rows[i].2.2)]
    refine G_again (i + 1, E35, a36, c36, rs ++ [(z7, z8, rows[i].2.2)]) ⟨(hE.trans hE6).trans hE35, hlt, by rw [List.map_append, hrs, htk]; rfl, ?_⟩ (by simp only; omega) ⟨rfl, rfl, rfl, rfl, trivial⟩ rfl (by rw [hap]; rfl)
    intro r hr
    rcases List.mem_append.1 hr with h | h
    · exact ((hrE.mono hE6).mono hE35) r h
    · rw [List.mem_singleton.1 h]; assumption
  · refine G.freezeSl (.head _ _) ?_
    intro E1 hE1 hal hc
    have hi2 : i = rows.length := by omega
    have hfin : GrE E1 (.agg #[.int .i64 g.k, .slice z5 g.toks.length z6, .string (S g.sep), .slice z13 g.names.length z14, .int .i64 g.start, .slice a i ca]) g := by
      have := GrE.mk (E := E1) (g := g) (pp := a) (pc := ca) ((Z7.mono hE).mono hE1) ((Z15.mono hE).mono hE1) ⟨rs, by rw [hrs, hi2, List.take_length, hrows], by rw [hlen, ← hi2]; exact hal, hrE.mono hE1⟩ Z8 Z16 (by omega)
      rwa [hlen, ← hi2] at this
    refine G_seq (G_seq (G_region ?_))
    refine G_val (V_move rfl rfl) rfl rfl (.none rfl) ?_
    refine G_val (V_fieldAddr rfl rfl (by decide)) rfl rfl (.none rfl) ?_
    refine G_val (V_load rfl rfl (Cell.own (.tail _ (.head _)) rfl)) rfl rfl (.none rfl) ?_
    refine G_val (V_lenS rfl rfl) rfl rfl (.none rfl) ?_
    refine G_val (V_lss rfl rfl rfl) rfl rfl (.none rfl) ?_
    refine G_end (X_then ?_)
    refine G_cond_f rfl (decide_eq_false (by omega)) ?_
    refine G_exit (X_then_exit (X_then_exit (X_block_hit (X_then (G_seq (G_region ?_))))))
    refine G_val (V_move rfl rfl) rfl rfl (.none rfl) ?_
    refine G_val (V_fieldAddr rfl rfl (by decide)) rfl rfl (.none rfl) ?_
    refine G_storeAt rfl rfl rfl rfl rfl rfl (.none rfl) (.tail _ (.head _ _ _)) (Nat.le_of_ble_eq_true rfl) (by simp only [putAll, Nat.zero_add, Nat.reduceAdd, List.setIfInBounds_toArray, List.set_cons_succ, List.set_cons_zero]; rfl) ?_
    refine G_end (X_then (G_seq (G_region ?_)))
    refine G_val (V_loadA rfl rfl (Cells.own (.tail _ (.head _))) rfl) rfl rfl (.none rfl) ?_
    refine G_storeA rfl rfl rfl rfl (by simp [Value.oneCell']) rfl (.none rfl) (.head _ _ _) rfl ?_
    refine G_end (X_then (G_ret ?_))
    refine G_leaveS (.drop _ (.drop _ (.nil _))) (by exact (.cons (.cellA rfl (Cells.own (.head _)) rfl) (.nil))) rfl ?_ ?_
    · exact (((hE4.trans hE12).trans hE).trans hE1)
    exact ⟨(by assumption), rfl⟩
end
end Go.Proofs.Ytaoinojdijbhaaa
