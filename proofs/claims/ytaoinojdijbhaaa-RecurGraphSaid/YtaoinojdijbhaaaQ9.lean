/-
  Rules and contracts, packed: D14, D15, D16, D11.
-/
import Derived.Test.YtaoinojdijbhaaaQ8
set_option maxHeartbeats 1000000
set_option linter.unusedSimpArgs false
set_option linter.unusedVariables false
set_option maxHeartbeats 2000000
set_option maxRecDepth 20000
namespace Go.Proofs.Ytaoinojdijbhaaa
open Go.RowKit
theorem startB_cells (n : Nat) : List.replicate n (Value.bool false) = bools (startB n) := by simp [bools, startB]
section
variable (E : Env) (L : List Res)
theorem rounds_call (gv : Value) (g : Gr) (hg : GrE E gv g) (hl : Light g) (terms : Bool) (hw : Wf g.prods g.names.length) :
    CallS Try.prog 82 #[gv, .bool terms] E L (fun r E' L' => ∃ b, r = .slice (some ⟨b, 0, none⟩) g.names.length g.names.length ∧ SlE E' 1 (some ⟨b, 0, none⟩) g.names.length (bools (gen g.prods g.names.length terms)) ∧ L' = L) := by
  have hg0 := hg
  obtain ⟨tp, tc, np, nc, pp, pc, rfl, ht, hn, ⟨rows, hrows, hps, hre⟩, k1, k2, k3⟩ := hg
  have hlen : g.prods.length = rows.length := by rw [← hrows]; simp
  have q1 := hl.t; have q2 := hl.n; have q3 := hl.p
  refine CallS.intro (l := [_, _]) _ Try.func82 rfl Try.ntmps82 rfl ?_
  refine G_seq (G_region ?_)
  (refine G_boxA rfl rfl rfl rfl (.none rfl) ?_; intro b2)
  refine G_val (V_assign rfl rfl) rfl rfl (.none rfl) ?_
  refine G_end (X_then (G_seq (G_region ?_)))
  refine G_val (V_fieldAddr rfl rfl (by decide)) rfl rfl (.none rfl) ?_
  refine G_val (V_load rfl rfl (Cell.own (.head _) rfl)) rfl rfl (.none rfl) ?_
  refine G_val (V_lenS rfl rfl) rfl rfl (.none rfl) ?_
  (refine G_makeSlice rfl rfl rfl (by omega) (by omega) (by omega) rfl rfl (.none rfl) ?_; intro b12)
  refine G_val (V_assign rfl rfl) rfl rfl (.none rfl) ?_
  refine G_end (X_then (G_seq (G_seq (G_region ?_))))
  refine G_val (V_assign rfl rfl) rfl rfl (.none rfl) ?_
  refine G_end (X_then (G_block ?_))
  simp only [Int.toNat_natCast]
  refine G_loop (α := List Bool × Bool) (fun x => [(1, .bool terms), (2, .pointer (some ⟨b2, 0, none⟩)), (5, .slice (some ⟨b12, 0, none⟩) g.names.length g.names.length), (6, .bool x.2)]) (fun _ => E) (fun x => .blk b12 (.cells (bools x.1).toArray 4 (0, 0)) :: GB b2 g tp tc np nc pp pc :: L)
    (fun x => InvB g.prods g.names.length terms x.1 ∧ (x.2 = false → ∀ p, p ∈ g.prods → (!bget x.1 p.1 && p.2.all (goodB terms x.1)) = false)) (fun x => 2 * meas (tab x.1) + (if x.2 = true then 1 else 0)) (startB g.names.length, true)
    ⟨invB_start _ _ _, fun h => by cases h⟩ ⟨rfl, rfl, rfl, rfl, trivial⟩ rfl (by rw [startB_cells]) ?_
  rintro ⟨l, ch⟩ ⟨hi, hst⟩
  simp only at hi hst ⊢
  cases ch with
  | false =>
    have he : l = gen g.prods g.names.length terms := hi.done hw (hst rfl)
    have hll := hi.lenB
    refine G.freezeB (.head _ _) (k := g.names.length) (sz := 1) (by simp [bools, hll]) ?_
    intro E1 hE1 hs1
    rw [he] at hs1
    refine G_seq (G_seq (G_region ?_))
    refine G_val (V_move rfl rfl) rfl rfl (.none rfl) ?_
    refine G_end (X_then ?_)
    refine G_cond_f rfl rfl ?_
    refine G_exit (X_then_exit (X_then_exit (X_block_hit (X_then (G_seq (G_region ?_))))))
    refine G_val (V_move rfl rfl) rfl rfl (.none rfl) ?_
    refine G_val (V_assign rfl rfl) rfl rfl (.none rfl) ?_
    refine G_end (X_then (G_ret ?_))
    refine G_leaveS (.drop _ (.nil _)) (by exact (.cons (.tmp rfl) (.nil))) rfl ?_ ?_
    · exact hE1
    exact ⟨_, ⟨rfl, ⟨(by assumption), rfl⟩⟩⟩
  | true =>
    refine G_seq (G_seq (G_region ?_))
    refine G_val (V_move rfl rfl) rfl rfl (.none rfl) ?_
    refine G_end (X_then ?_)
    refine G_cond_t rfl rfl ?_
    refine G_skip (X_then (G_block (G_seq (G_region ?_))))
    refine G_val (V_assign rfl rfl) rfl rfl (.none rfl) ?_
    refine G_end (X_then (G_seq (G_region ?_)))
    refine G_val (V_assign rfl rfl) rfl rfl (.none rfl) ?_
    refine G_end (X_then (G_block ?_))
    refine G_loop (α := Nat × List Bool × Bool) (fun x => [(1, .bool terms), (2, .pointer (some ⟨b2, 0, none⟩)), (5, .slice (some ⟨b12, 0, none⟩) g.names.length g.names.length), (6, .bool x.2.2), (7, .int .i64 x.1)]) (fun _ => E) (fun x => .blk b12 (.cells (bools x.2.1).toArray 4 (0, 0)) :: GB b2 g tp tc np nc pp pc :: L)
      (fun x => x.1 ≤ rows.length ∧ InvB g.prods g.names.length terms x.2.1 ∧ (x.2.2 = true → meas (tab x.2.1) < meas (tab l)) ∧ (x.2.2 = false → x.2.1 = l ∧ ∀ k, k < x.1 → (hk : k < rows.length) → (!bget l rows[k].2.2.1 && rows[k].2.2.2.all (goodB terms l)) = false)) (fun x => rows.length - x.1) (0, l, false)
      ⟨Nat.zero_le _, hi, fun h => (by cases h), fun _ => ⟨rfl, fun k hk => (by cases hk)⟩⟩ ⟨rfl, rfl, rfl, rfl, rfl, trivial⟩ rfl rfl ?_
    rintro ⟨i, l', ch⟩ ⟨hile, hi', hm, hall⟩
    simp only at hile hi' hm hall ⊢
    have hll := hi'.lenB
    have hll2 : (bools l').length = g.names.length := by simp [bools, hll]
    by_cases hlt : i < rows.length
    · have hg1 := List.getElem?_eq_getElem hlt
      have hyl := prows_left hg1
      have hyr := prows_right hg1
      have hre1 := hre.get hg1
      have hp : rows[i].2.2 ∈ g.prods := by rw [← hrows]; exact List.mem_map.2 ⟨rows[i], List.getElem_mem hlt, rfl⟩
      have hl1 := hw.left _ hp
      have h8 := hw.right _ hp
      have hsy := hw.syms _ hp
      have hbl := bools_get (l := l') hl1.1 (by rw [hll]; exact hl1.2)
      have hrd : Rd E (.blk b12 (.cells (bools l').toArray 4 (0, 0)) :: GB b2 g tp tc np nc pp pc :: L) 1 (some ⟨b12, 0, none⟩) g.names.length (bools l') := Rd.lit (.head _) (by omega)
      have stay : (!bget l' rows[i].2.2.1 && rows[i].2.2.2.all (goodB terms l')) = false → ch = false → l' = l ∧ ∀ k, k < i + 1 → (hk : k < rows.length) → (!bget l rows[k].2.2.1 && rows[k].2.2.2.all (goodB terms l)) = false := by
        intro h hch
        obtain ⟨h1, h2⟩ := hall hch
        subst h1
        refine ⟨rfl, fun k hk hk2 => ?_⟩
        by_cases he : k = i
        · subst he; exact h
        · exact h2 k (by omega) hk2
      cases hb : bget l' rows[i].2.2.1 with
      | true =>
        refine G_seq (G_seq (G_region ?_))
        refine G_val (V_move rfl rfl) rfl rfl (.none rfl) ?_
        refine G_val (V_fieldAddr rfl rfl (by decide)) rfl rfl (.none rfl) ?_
        refine G_val (V_load rfl rfl (Cell.own (.tail _ (.head _)) rfl)) rfl rfl (.none rfl) ?_
        refine G_val (V_lenS rfl rfl) rfl rfl (.none rfl) ?_
        refine G_val (V_lss rfl rfl rfl) rfl rfl (.none rfl) ?_
        refine G_end (X_then ?_)
        refine G_cond_t rfl (decide_eq_true (by omega)) ?_
        refine G_skip (X_then (G_seq (G_block (G_seq (G_region ?_)))))
        refine G_val (V_fieldAddr rfl rfl (by decide)) rfl rfl (.none rfl) ?_
        refine G_val (V_load rfl rfl (Cell.own (.tail _ (.head _)) rfl)) rfl rfl (.none rfl) ?_
        refine G_val (V_move rfl rfl) rfl rfl (.none rfl) ?_
        refine G_val (V_idxAddr rfl rfl rfl (SlE.rd (by assumption)) (by omega) (by omega)) rfl rfl (.none rfl) ?_
        refine G_val (V_fieldAddrE rfl rfl (by assumption) (by omega) (by decide)) rfl rfl (.none rfl) ?_
        refine G_val (V_loadS rfl rfl (SlE.rd (by assumption)) hyl (by simp)) rfl rfl (.none rfl) ?_
        refine G_callv (k := 85) (.mk rfl rfl rfl rfl) rfl rfl (.none rfl) (indexn_call _ _ _ (by omega) (by omega)) ?_
        refine G_val (V_assign rfl rfl) rfl rfl (.none rfl) ?_
        refine G_end (X_then (G_seq (G_region ?_)))
        refine G_val (V_move rfl rfl) rfl rfl (.none rfl) ?_
        refine G_val (V_move rfl rfl) rfl rfl (.none rfl) ?_
        refine G_val (V_idxB1 rfl rfl rfl (by omega) (by omega)) rfl rfl (.none rfl) ?_
        refine G_val (V_load rfl rfl (Cell.own (.head _) (by assumption))) rfl rfl (.none rfl) ?_
        refine G_val (V_not rfl rfl) rfl rfl (.none rfl) ?_
        refine G_val (V_move rfl rfl) rfl rfl (.none rfl) ?_
        refine G.bool_f 33 rfl (by simp [*]; done) ?_
        refine G_stay (.no rfl rfl rfl rfl) rfl rfl ?_
        refine G_stay (.no rfl rfl rfl rfl) rfl rfl ?_
        refine G_stay (.no rfl rfl rfl rfl) rfl rfl ?_
        refine G_stay (.no rfl rfl rfl rfl) rfl rfl ?_
        refine G_stay (.no rfl rfl rfl rfl) rfl rfl ?_
        refine G_stay (.no rfl rfl rfl rfl) rfl rfl ?_
        refine G_stay (.no rfl rfl rfl rfl) rfl rfl ?_
        refine G_stay (.no rfl rfl rfl rfl) rfl rfl ?_
        refine G_stay (.no rfl rfl rfl rfl) rfl rfl ?_
        refine G_val (V_pick_f rfl rfl rfl) rfl rfl (.none rfl) ?_
        refine G_end (X_then ?_)
        refine G_cond_f rfl rfl ?_
        refine G_skip (X_block (X_then (G_region ?_)))
        refine G_val (V_move rfl rfl) rfl rfl (.none rfl) ?_
        refine G_val (V_add_i64 rfl rfl rfl (by omega) (by omega)) rfl rfl (.none rfl) ?_
        refine G_val (V_assign rfl rfl) rfl rfl (.none rfl) ?_
        refine G_end (X_then ?_)
        exact G_again (i + 1, l', ch) ⟨hlt, hi', hm, stay (by rw [hb]; rfl)⟩ (by simp only; omega) ⟨rfl, rfl, rfl, rfl, rfl, trivial⟩ rfl rfl
      | false =>
        cases ha : rows[i].2.2.2.all (goodB terms l') with
        | true =>
          obtain ⟨hu1, hu2⟩ := hi'.upd hw hp hb ha
          have hle : meas (tab l') ≤ meas (tab l) := by
            cases ch with
            | true => exact Nat.le_of_lt (hm rfl)
            | false => rw [(hall rfl).1]; exact Nat.le_refl _
          refine G_seq (G_seq (G_region ?_))
          refine G_val (V_move rfl rfl) rfl rfl (.none rfl) ?_
          refine G_val (V_fieldAddr rfl rfl (by decide)) rfl rfl (.none rfl) ?_
          refine G_val (V_load rfl rfl (Cell.own (.tail _ (.head _)) rfl)) rfl rfl (.none rfl) ?_
          refine G_val (V_lenS rfl rfl) rfl rfl (.none rfl) ?_
          refine G_val (V_lss rfl rfl rfl) rfl rfl (.none rfl) ?_
          refine G_end (X_then ?_)
          refine G_cond_t rfl (decide_eq_true (by omega)) ?_
          refine G_skip (X_then (G_seq (G_block (G_seq (G_region ?_)))))
          refine G_val (V_fieldAddr rfl rfl (by decide)) rfl rfl (.none rfl) ?_
          refine G_val (V_load rfl rfl (Cell.own (.tail _ (.head _)) rfl)) rfl rfl (.none rfl) ?_
          refine G_val (V_move rfl rfl) rfl rfl (.none rfl) ?_
          refine G_val (V_idxAddr rfl rfl rfl (SlE.rd (by assumption)) (by omega) (by omega)) rfl rfl (.none rfl) ?_
          refine G_val (V_fieldAddrE rfl rfl (by assumption) (by omega) (by decide)) rfl rfl (.none rfl) ?_
          refine G_val (V_loadS rfl rfl (SlE.rd (by assumption)) hyl (by simp)) rfl rfl (.none rfl) ?_
          refine G_callv (k := 85) (.mk rfl rfl rfl rfl) rfl rfl (.none rfl) (indexn_call _ _ _ (by omega) (by omega)) ?_
          refine G_val (V_assign rfl rfl) rfl rfl (.none rfl) ?_
          refine G_end (X_then (G_seq (G_region ?_)))
          refine G_val (V_move rfl rfl) rfl rfl (.none rfl) ?_
          refine G_val (V_move rfl rfl) rfl rfl (.none rfl) ?_
          refine G_val (V_idxB1 rfl rfl rfl (by omega) (by omega)) rfl rfl (.none rfl) ?_
          refine G_val (V_load rfl rfl (Cell.own (.head _) (by assumption))) rfl rfl (.none rfl) ?_
          refine G_val (V_not rfl rfl) rfl rfl (.none rfl) ?_
          refine G_val (V_move rfl rfl) rfl rfl (.none rfl) ?_
          refine G.bool_t 33 rfl (by simp [*]; done) ?_
          refine G_val (V_fieldAddr rfl rfl (by decide)) rfl rfl (.yes rfl rfl rfl rfl) ?_
          refine G_val (V_load rfl rfl (Cell.own (.tail _ (.head _)) rfl)) rfl rfl (.yes rfl rfl rfl rfl) ?_
          refine G_val (V_move rfl rfl) rfl rfl (.yes rfl rfl rfl rfl) ?_
          refine G_val (V_idxAddr rfl rfl rfl (SlE.rd (by assumption)) (by omega) (by omega)) rfl rfl (.yes rfl rfl rfl rfl) ?_
          refine G_val (V_fieldAddrE rfl rfl (by assumption) (by omega) (by decide)) rfl rfl (.yes rfl rfl rfl rfl) ?_
          refine G_val (V_loadS rfl rfl (SlE.rd (by assumption)) (by assumption) (by simp)) rfl rfl (.yes rfl rfl rfl rfl) ?_
          refine G_val (V_move rfl rfl) rfl rfl (.yes rfl rfl rfl rfl) ?_
          refine G_val (V_move rfl rfl) rfl rfl (.yes rfl rfl rfl rfl) ?_
          refine G_callv (k := 88) (.mk rfl rfl rfl rfl) rfl rfl (.yes rfl rfl rfl rfl) (all_call _ _ _ _ _ _ _ _ _ _ (by assumption) (by assumption) (by assumption) (by omega) (by omega) (by assumption)) ?_
          refine G_val (V_pick_t rfl rfl rfl) rfl rfl (.none rfl) ?_
          refine G_end (X_then ?_)
          refine G_cond_t rfl (by assumption) ?_
          refine G_region ?_
          refine G_val (V_move rfl rfl) rfl rfl (.none rfl) ?_
          refine G_val (V_move rfl rfl) rfl rfl (.none rfl) ?_
          refine G_val (V_idxB1 rfl rfl rfl (by omega) (by omega)) rfl rfl (.none rfl) ?_
          refine G_storeB rfl rfl rfl rfl rfl rfl (.none rfl) (.head _ _ _) (by omega) ?_
          refine G_val (V_assign rfl rfl) rfl rfl (.none rfl) ?_
          refine G_end (X_block (X_then (G_region ?_)))
          refine G_val (V_move rfl rfl) rfl rfl (.none rfl) ?_
          refine G_val (V_add_i64 rfl rfl rfl (by omega) (by omega)) rfl rfl (.none rfl) ?_
          refine G_val (V_assign rfl rfl) rfl rfl (.none rfl) ?_
          refine G_end (X_then ?_)
          rw [bools_set]
          exact G_again (i + 1, l'.set (rows[i].2.2.1 - 16).toNat true, true) ⟨hlt, hu1, fun _ => Nat.lt_of_lt_of_le hu2 hle, fun h => (by cases h)⟩ (by simp only; omega) ⟨rfl, rfl, rfl, rfl, rfl, trivial⟩ rfl rfl
        | false =>
          refine G_seq (G_seq (G_region ?_))
          refine G_val (V_move rfl rfl) rfl rfl (.none rfl) ?_
          refine G_val (V_fieldAddr rfl rfl (by decide)) rfl rfl (.none rfl) ?_
          refine G_val (V_load rfl rfl (Cell.own (.tail _ (.head _)) rfl)) rfl rfl (.none rfl) ?_
          refine G_val (V_lenS rfl rfl) rfl rfl (.none rfl) ?_
          refine G_val (V_lss rfl rfl rfl) rfl rfl (.none rfl) ?_
          refine G_end (X_then ?_)
          refine G_cond_t rfl (decide_eq_true (by omega)) ?_
          refine G_skip (X_then (G_seq (G_block (G_seq (G_region ?_)))))
          refine G_val (V_fieldAddr rfl rfl (by decide)) rfl rfl (.none rfl) ?_
          refine G_val (V_load rfl rfl (Cell.own (.tail _ (.head _)) rfl)) rfl rfl (.none rfl) ?_
          refine G_val (V_move rfl rfl) rfl rfl (.none rfl) ?_
          refine G_val (V_idxAddr rfl rfl rfl (SlE.rd (by assumption)) (by omega) (by omega)) rfl rfl (.none rfl) ?_
          refine G_val (V_fieldAddrE rfl rfl (by assumption) (by omega) (by decide)) rfl rfl (.none rfl) ?_
          refine G_val (V_loadS rfl rfl (SlE.rd (by assumption)) hyl (by simp)) rfl rfl (.none rfl) ?_
          refine G_callv (k := 85) (.mk rfl rfl rfl rfl) rfl rfl (.none rfl) (indexn_call _ _ _ (by omega) (by omega)) ?_
          refine G_val (V_assign rfl rfl) rfl rfl (.none rfl) ?_
          refine G_end (X_then (G_seq (G_region ?_)))
          refine G_val (V_move rfl rfl) rfl rfl (.none rfl) ?_
          refine G_val (V_move rfl rfl) rfl rfl (.none rfl) ?_
          refine G_val (V_idxB1 rfl rfl rfl (by omega) (by omega)) rfl rfl (.none rfl) ?_
          refine G_val (V_load rfl rfl (Cell.own (.head _) (by assumption))) rfl rfl (.none rfl) ?_
          refine G_val (V_not rfl rfl) rfl rfl (.none rfl) ?_
          refine G_val (V_move rfl rfl) rfl rfl (.none rfl) ?_
          refine G.bool_t 33 rfl (by simp [*]; done) ?_
          refine G_val (V_fieldAddr rfl rfl (by decide)) rfl rfl (.yes rfl rfl rfl rfl) ?_
          refine G_val (V_load rfl rfl (Cell.own (.tail _ (.head _)) rfl)) rfl rfl (.yes rfl rfl rfl rfl) ?_
          refine G_val (V_move rfl rfl) rfl rfl (.yes rfl rfl rfl rfl) ?_
          refine G_val (V_idxAddr rfl rfl rfl (SlE.rd (by assumption)) (by omega) (by omega)) rfl rfl (.yes rfl rfl rfl rfl) ?_
          refine G_val (V_fieldAddrE rfl rfl (by assumption) (by omega) (by decide)) rfl rfl (.yes rfl rfl rfl rfl) ?_
          refine G_val (V_loadS rfl rfl (SlE.rd (by assumption)) (by assumption) (by simp)) rfl rfl (.yes rfl rfl rfl rfl) ?_
          refine G_val (V_move rfl rfl) rfl rfl (.yes rfl rfl rfl rfl) ?_
          refine G_val (V_move rfl rfl) rfl rfl (.yes rfl rfl rfl rfl) ?_
          refine G_callv (k := 88) (.mk rfl rfl rfl rfl) rfl rfl (.yes rfl rfl rfl rfl) (all_call _ _ _ _ _ _ _ _ _ _ (by assumption) (by assumption) (by assumption) (by omega) (by omega) (by assumption)) ?_
          refine G_val (V_pick_t rfl rfl rfl) rfl rfl (.none rfl) ?_
          refine G_end (X_then ?_)
          refine G_cond_f rfl (by assumption) ?_
          refine G_skip (X_block (X_then (G_region ?_)))
          refine G_val (V_move rfl rfl) rfl rfl (.none rfl) ?_
          refine G_val (V_add_i64 rfl rfl rfl (by omega) (by omega)) rfl rfl (.none rfl) ?_
          refine G_val (V_assign rfl rfl) rfl rfl (.none rfl) ?_
          refine G_end (X_then ?_)
          exact G_again (i + 1, l', ch) ⟨hlt, hi', hm, stay (by rw [ha, Bool.and_false])⟩ (by simp only; omega) ⟨rfl, rfl, rfl, rfl, rfl, trivial⟩ rfl rfl
    · refine G_seq ?_
      refine G_seq (G_region ?_)
      refine G_val (V_move rfl rfl) rfl rfl (.none rfl) ?_
      refine G_val (V_fieldAddr rfl rfl (by decide)) rfl rfl (.none rfl) ?_
      refine G_val (V_load rfl rfl (Cell.own (.tail _ (.head _)) rfl)) rfl rfl (.none rfl) ?_
      refine G_val (V_lenS rfl rfl) rfl rfl (.none rfl) ?_
      refine G_val (V_lss rfl rfl rfl) rfl rfl (.none rfl) ?_
      refine G_end (X_then ?_)
      refine G_cond_f rfl (decide_eq_false (by omega)) ?_
      refine G_exit (X_then_exit (X_then_exit (X_block_hit (X_block (X_then ?_)))))
      refine G_again (l', ch) ⟨hi', fun h p hp => ?_⟩ ?_ ⟨rfl, rfl, rfl, rfl, trivial⟩ rfl rfl
      · obtain ⟨h1, h2⟩ := hall h
        subst h1
        rw [← hrows] at hp
        obtain ⟨x, hx, rfl⟩ := List.mem_map.1 hp
        obtain ⟨k, hk, rfl⟩ := List.getElem_of_mem hx
        exact h2 k (by omega) hk
      · cases ch with
        | true =>
          have := hm rfl
          simp only [if_true]
          omega
        | false =>
          rw [(hall rfl).1]
          simp
end
end Go.Proofs.Ytaoinojdijbhaaa
set_option linter.unusedSimpArgs false
set_option linter.unusedVariables false
set_option maxHeartbeats 2000000
set_option maxRecDepth 20000
namespace Go.Proofs.Ytaoinojdijbhaaa
open Go.RowKit
theorem bget_set {l : List Bool} {k : Nat} {s : Int} (h : bget l s = true) : bget (l.set k true) s = true := by
  rw [bget, List.getElem?_set]
  by_cases he : k = (s - 16).toNat
  · rw [if_pos he]
    by_cases hk : k < l.length
    · rw [if_pos hk]; rfl
    · rw [bget, List.getElem?_eq_none (by omega)] at h; cases h
  · rw [if_neg he]; exact h
theorem bget_hit {l : List Bool} {s : Int} (h : (s - 16).toNat < l.length) : bget (l.set (s - 16).toNat true) s = true := by
  rw [bget, List.getElem?_set, if_pos rfl, if_pos h]; rfl
section
variable (E : Env) (L : List Res)
theorem below_call (gv : Value) (g : Gr) (hg : GrE E gv g) (hl : Light g) (m : Int) (hw : Wf g.prods g.names.length) (hm0 : 0 ≤ m) (hm1 : m < g.names.length) :
    CallS Try.prog 84 #[gv, .int .i64 m] E L (fun r E' L' => ∃ b, r = .slice (some ⟨b, 0, none⟩) g.names.length g.names.length ∧ SlE E' 1 (some ⟨b, 0, none⟩) g.names.length (bools (reachL g.prods g.names.length (16 + m))) ∧ L' = L) := by
  have hg0 := hg
  obtain ⟨tp, tc, np, nc, pp, pc, rfl, ht, hn, ⟨rows, hrows, hps, hre⟩, k1, k2, k3⟩ := hg
  have hlen : g.prods.length = rows.length := by rw [← hrows]; simp
  have q1 := hl.t; have q2 := hl.n; have q3 := hl.p
  have a1 : (16 : Int) ≤ 16 + m := by omega
  have a2 : 16 + m < 16 + (g.names.length : Int) := by omega
  have hst0 := invR_start hw a1 a2
  have ea : (16 + m - 16 : Int) = m := by omega
  rw [ea] at hst0
  have hll0 : (List.replicate g.names.length (Value.bool false)).length = g.names.length := by simp
  refine CallS.intro (l := [_, _]) _ Try.func84 rfl Try.ntmps84 rfl ?_
  refine G_seq (G_region ?_)
  (refine G_boxA rfl rfl rfl rfl (.none rfl) ?_; intro b2)
  refine G_val (V_assign rfl rfl) rfl rfl (.none rfl) ?_
  refine G_end (X_then (G_seq (G_region ?_)))
  refine G_val (V_fieldAddr rfl rfl (by decide)) rfl rfl (.none rfl) ?_
  refine G_val (V_load rfl rfl (Cell.own (.head _) rfl)) rfl rfl (.none rfl) ?_
  refine G_val (V_lenS rfl rfl) rfl rfl (.none rfl) ?_
  (refine G_makeSlice rfl rfl rfl (by omega) (by omega) (by omega) rfl rfl (.none rfl) ?_; intro b13)
  refine G_val (V_assign rfl rfl) rfl rfl (.none rfl) ?_
  refine G_end (X_then (G_seq (G_region ?_)))
  refine G_val (V_move rfl rfl) rfl rfl (.none rfl) ?_
  refine G_val (V_move rfl rfl) rfl rfl (.none rfl) ?_
  refine G_val (V_idxB1 rfl rfl rfl (by omega) (by omega)) rfl rfl (.none rfl) ?_
  refine G_storeB rfl rfl rfl rfl rfl rfl (.none rfl) (.head _ _ _) (by (simp only [List.length_map, List.length_replicate, List.length_set]; omega)) ?_
  refine G_end (X_then (G_seq (G_seq (G_region ?_))))
  refine G_val (V_assign rfl rfl) rfl rfl (.none rfl) ?_
  refine G_end (X_then (G_block ?_))
  simp only [Int.toNat_natCast]
  skip
  rw [startB_cells, bools_set]
  have hba : bget ((startB g.names.length).set m.toNat true) (16 + m) = true := by
    have := bget_hit (l := startB g.names.length) (s := 16 + m) (by rw [startB, List.length_replicate]; omega)
    rwa [ea] at this
  refine G_loop (α := List Bool × Bool) (fun x => [(2, .pointer (some ⟨b2, 0, none⟩)), (5, .slice (some ⟨b13, 0, none⟩) g.names.length g.names.length), (6, .bool x.2)]) (fun _ => E) (fun x => .blk b13 (.cells (bools x.1).toArray 4 (0, 0)) :: GB b2 g tp tc np nc pp pc :: L)
    (fun x => InvR g.prods g.names.length (16 + m) x.1 ∧ bget x.1 (16 + m) = true ∧ (x.2 = false → ∀ p, p ∈ g.prods → bget x.1 p.1 = true → ∀ s, s ∈ p.2 → 16 ≤ s → bget x.1 s = true)) (fun x => 2 * meas (tab x.1) + (if x.2 = true then 1 else 0)) ((startB g.names.length).set m.toNat true, true)
    ⟨hst0, hba, fun h => by cases h⟩ ⟨rfl, rfl, rfl, trivial⟩ rfl rfl ?_
  rintro ⟨l, ch⟩ ⟨hi, hia, hst⟩
  simp only at hi hia hst ⊢
  cases ch with
  | false =>
    have he : l = reachL g.prods g.names.length (16 + m) := hi.done hw a1 a2 hia (hst rfl)
    have hll := hi.lenB
    refine G.freezeB (.head _ _) (k := g.names.length) (sz := 1) (by simp [bools, hll]) ?_
    intro E1 hE1 hs1
    rw [he] at hs1
    refine G_seq (G_seq (G_region ?_))
    refine G_val (V_move rfl rfl) rfl rfl (.none rfl) ?_
    refine G_end (X_then ?_)
    refine G_cond_f rfl rfl ?_
    refine G_exit (X_then_exit (X_then_exit (X_block_hit (X_then (G_seq (G_region ?_))))))
    refine G_val (V_move rfl rfl) rfl rfl (.none rfl) ?_
    refine G_val (V_assign rfl rfl) rfl rfl (.none rfl) ?_
    refine G_end (X_then (G_ret ?_))
    refine G_leaveS (.drop _ (.nil _)) (by exact (.cons (.tmp rfl) (.nil))) rfl ?_ ?_
    · exact hE1
    exact ⟨_, ⟨rfl, ⟨(by assumption), rfl⟩⟩⟩
  | true =>
    refine G_seq (G_seq (G_region ?_))
    refine G_val (V_move rfl rfl) rfl rfl (.none rfl) ?_
    refine G_end (X_then ?_)
    refine G_cond_t rfl rfl ?_
    refine G_skip (X_then (G_block (G_seq (G_region ?_))))
    refine G_val (V_assign rfl rfl) rfl rfl (.none rfl) ?_
    refine G_end (X_then (G_seq (G_region ?_)))
    refine G_val (V_assign rfl rfl) rfl rfl (.none rfl) ?_
    refine G_end (X_then (G_block ?_))
    refine G_loop (α := Nat × List Bool × Bool) (fun x => [(2, .pointer (some ⟨b2, 0, none⟩)), (5, .slice (some ⟨b13, 0, none⟩) g.names.length g.names.length), (6, .bool x.2.2), (7, .int .i64 x.1)]) (fun _ => E) (fun x => .blk b13 (.cells (bools x.2.1).toArray 4 (0, 0)) :: GB b2 g tp tc np nc pp pc :: L)
      (fun x => x.1 ≤ rows.length ∧ InvR g.prods g.names.length (16 + m) x.2.1 ∧ bget x.2.1 (16 + m) = true ∧ (x.2.2 = true → meas (tab x.2.1) < meas (tab l)) ∧ (x.2.2 = false → x.2.1 = l ∧ ∀ k, k < x.1 → (hk : k < rows.length) → bget l rows[k].2.2.1 = true → ∀ s, s ∈ rows[k].2.2.2 → 16 ≤ s → bget l s = true)) (fun x => rows.length - x.1) (0, l, false)
      ⟨Nat.zero_le _, hi, hia, fun h => (by cases h), fun _ => ⟨rfl, fun k hk => (by cases hk)⟩⟩ ⟨rfl, rfl, rfl, rfl, trivial⟩ rfl rfl ?_
    rintro ⟨i, l1, ch⟩ ⟨hile, hi1, hia1, hm, hall⟩
    simp only at hile hi1 hia1 hm hall ⊢
    have hll := hi1.lenB
    have hll2 : (bools l1).length = g.names.length := by simp [bools, hll]
    by_cases hlt : i < rows.length
    · have hg1 := List.getElem?_eq_getElem hlt
      have hyl := prows_left hg1
      have hyr := prows_right hg1
      have hre1 := hre.get hg1
      have hp : rows[i].2.2 ∈ g.prods := by rw [← hrows]; exact List.mem_map.2 ⟨rows[i], List.getElem_mem hlt, rfl⟩
      have hl1 := hw.left _ hp
      have h8 := hw.right _ hp
      have hsy := hw.syms _ hp
      have hbl := bools_get (l := l1) hl1.1 (by rw [hll]; exact hl1.2)
      cases hb : bget l1 rows[i].2.2.1 with
      | false =>
        refine G_seq (G_seq (G_region ?_))
        refine G_val (V_move rfl rfl) rfl rfl (.none rfl) ?_
        refine G_val (V_fieldAddr rfl rfl (by decide)) rfl rfl (.none rfl) ?_
        refine G_val (V_load rfl rfl (Cell.own (.tail _ (.head _)) rfl)) rfl rfl (.none rfl) ?_
        refine G_val (V_lenS rfl rfl) rfl rfl (.none rfl) ?_
        refine G_val (V_lss rfl rfl rfl) rfl rfl (.none rfl) ?_
        refine G_end (X_then ?_)
        refine G_cond_t rfl (decide_eq_true (by omega)) ?_
        refine G_skip (X_then (G_seq (G_block (G_seq (G_seq (G_region ?_))))))
        refine G_val (V_move rfl rfl) rfl rfl (.none rfl) ?_
        refine G_val (V_fieldAddr rfl rfl (by decide)) rfl rfl (.none rfl) ?_
        refine G_val (V_load rfl rfl (Cell.own (.tail _ (.head _)) rfl)) rfl rfl (.none rfl) ?_
        refine G_val (V_move rfl rfl) rfl rfl (.none rfl) ?_
        refine G_val (V_idxAddr rfl rfl rfl (SlE.rd (by assumption)) (by omega) (by omega)) rfl rfl (.none rfl) ?_
        refine G_val (V_fieldAddrE rfl rfl (by assumption) (by omega) (by decide)) rfl rfl (.none rfl) ?_
        refine G_val (V_loadS rfl rfl (SlE.rd (by assumption)) hyl (by simp)) rfl rfl (.none rfl) ?_
        refine G_callv (k := 85) (.mk rfl rfl rfl rfl) rfl rfl (.none rfl) (indexn_call _ _ _ (by omega) (by omega)) ?_
        refine G_val (V_idxB1 rfl rfl rfl (by omega) (by omega)) rfl rfl (.none rfl) ?_
        refine G_val (V_load rfl rfl (Cell.own (.head _) (by assumption))) rfl rfl (.none rfl) ?_
        refine G_val (V_not rfl rfl) rfl rfl (.none rfl) ?_
        refine G_end (X_then ?_)
        refine G_cond_t rfl (by simp [*]; done) ?_
        refine G_exit (X_then_exit (X_block_hit (X_then (G_region ?_))))
        refine G_val (V_move rfl rfl) rfl rfl (.none rfl) ?_
        refine G_val (V_add_i64 rfl rfl rfl (by omega) (by omega)) rfl rfl (.none rfl) ?_
        refine G_val (V_assign rfl rfl) rfl rfl (.none rfl) ?_
        refine G_end (X_then ?_)
        refine G_again (i + 1, l1, ch) ⟨hlt, hi1, hia1, hm, ?_⟩ (by simp only; omega) ⟨rfl, rfl, rfl, rfl, trivial⟩ rfl rfl
        intro hch
        obtain ⟨h1, h2⟩ := hall hch
        subst h1
        refine ⟨rfl, fun k hk hk2 => ?_⟩
        by_cases he : k = i
        · subst he; intro h; rw [hb] at h; cases h
        · exact h2 k (by simp only at hk; omega) hk2
      | true =>
        refine G_seq (G_seq (G_region ?_))
        refine G_val (V_move rfl rfl) rfl rfl (.none rfl) ?_
        refine G_val (V_fieldAddr rfl rfl (by decide)) rfl rfl (.none rfl) ?_
        refine G_val (V_load rfl rfl (Cell.own (.tail _ (.head _)) rfl)) rfl rfl (.none rfl) ?_
        refine G_val (V_lenS rfl rfl) rfl rfl (.none rfl) ?_
        refine G_val (V_lss rfl rfl rfl) rfl rfl (.none rfl) ?_
        refine G_end (X_then ?_)
        refine G_cond_t rfl (decide_eq_true (by omega)) ?_
        refine G_skip (X_then (G_seq (G_block (G_seq (G_seq (G_region ?_))))))
        refine G_val (V_move rfl rfl) rfl rfl (.none rfl) ?_
        refine G_val (V_fieldAddr rfl rfl (by decide)) rfl rfl (.none rfl) ?_
        refine G_val (V_load rfl rfl (Cell.own (.tail _ (.head _)) rfl)) rfl rfl (.none rfl) ?_
        refine G_val (V_move rfl rfl) rfl rfl (.none rfl) ?_
        refine G_val (V_idxAddr rfl rfl rfl (SlE.rd (by assumption)) (by omega) (by omega)) rfl rfl (.none rfl) ?_
        refine G_val (V_fieldAddrE rfl rfl (by assumption) (by omega) (by decide)) rfl rfl (.none rfl) ?_
        refine G_val (V_loadS rfl rfl (SlE.rd (by assumption)) hyl (by simp)) rfl rfl (.none rfl) ?_
        refine G_callv (k := 85) (.mk rfl rfl rfl rfl) rfl rfl (.none rfl) (indexn_call _ _ _ (by omega) (by omega)) ?_
        refine G_val (V_idxB1 rfl rfl rfl (by omega) (by omega)) rfl rfl (.none rfl) ?_
        refine G_val (V_load rfl rfl (Cell.own (.head _) (by assumption))) rfl rfl (.none rfl) ?_
        refine G_val (V_not rfl rfl) rfl rfl (.none rfl) ?_
        refine G_end (X_then ?_)
        refine G_cond_f rfl (by simp [*]; done) ?_
        refine G_skip (X_then (G_seq (G_region ?_)))
        refine G_val (V_assign rfl rfl) rfl rfl (.none rfl) ?_
        refine G_end (X_then (G_block ?_))
        refine G_loop (α := Nat × List Bool × Bool) (fun x => [(2, .pointer (some ⟨b2, 0, none⟩)), (5, .slice (some ⟨b13, 0, none⟩) g.names.length g.names.length), (6, .bool x.2.2), (7, .int .i64 i), (8, .int .i64 x.1)]) (fun _ => E) (fun x => .blk b13 (.cells (bools x.2.1).toArray 4 (0, 0)) :: GB b2 g tp tc np nc pp pc :: L)
          (fun x => x.1 ≤ rows[i].2.2.2.length ∧ InvR g.prods g.names.length (16 + m) x.2.1 ∧ bget x.2.1 (16 + m) = true ∧ bget x.2.1 rows[i].2.2.1 = true ∧ (x.2.2 = true → meas (tab x.2.1) < meas (tab l)) ∧ (x.2.2 = false → ch = false ∧ x.2.1 = l ∧ ∀ k, k < x.1 → (hk : k < rows[i].2.2.2.length) → 16 ≤ rows[i].2.2.2[k] → bget l rows[i].2.2.2[k] = true)) (fun x => rows[i].2.2.2.length - x.1) (0, l1, ch)
          ⟨Nat.zero_le _, hi1, hia1, hb, hm, fun h => ⟨h, (hall h).1, fun k hk => (by cases hk)⟩⟩ ⟨rfl, rfl, rfl, rfl, rfl, trivial⟩ rfl rfl ?_
        rintro ⟨j, l2, ch2⟩ ⟨hjle, hi2, hia2, hb2, hm2, hjall⟩
        simp only at hjle hi2 hia2 hb2 hm2 hjall ⊢
        have hllb := hi2.lenB
        have hllb2 : (bools l2).length = g.names.length := by simp [bools, hllb]
        by_cases hjlt : j < rows[i].2.2.2.length
        · have hx := i64s_at hjlt
          have hsj := hsy _ (List.getElem_mem hjlt)
          have stay : (16 ≤ rows[i].2.2.2[j] → bget l2 rows[i].2.2.2[j] = true) → ch2 = false → ch = false ∧ l2 = l ∧ ∀ k, k < j + 1 → (hk : k < rows[i].2.2.2.length) → 16 ≤ rows[i].2.2.2[k] → bget l rows[i].2.2.2[k] = true := by
            intro h hch
            obtain ⟨h0, h1, h2⟩ := hjall hch
            subst h1
            refine ⟨h0, rfl, fun k hk hk2 => ?_⟩
            by_cases he : k = j
            · subst he; exact h
            · exact h2 k (by omega) hk2
          by_cases h16 : rows[i].2.2.2[j] < 16
          · refine G_seq ?_
            refine G_seq (G_region ?_)
            refine G_val (V_move rfl rfl) rfl rfl (.none rfl) ?_
            refine G_val (V_fieldAddr rfl rfl (by decide)) rfl rfl (.none rfl) ?_
            refine G_val (V_load rfl rfl (Cell.own (.tail _ (.head _)) rfl)) rfl rfl (.none rfl) ?_
            refine G_val (V_move rfl rfl) rfl rfl (.none rfl) ?_
            refine G_val (V_idxAddr rfl rfl rfl (SlE.rd (by assumption)) (by omega) (by omega)) rfl rfl (.none rfl) ?_
            refine G_val (V_fieldAddrE rfl rfl (by assumption) (by omega) (by decide)) rfl rfl (.none rfl) ?_
            refine G_val (V_loadS rfl rfl (SlE.rd (by assumption)) (by assumption) (by simp)) rfl rfl (.none rfl) ?_
            refine G_val (V_lenS rfl rfl) rfl rfl (.none rfl) ?_
            refine G_val (V_lss rfl rfl rfl) rfl rfl (.none rfl) ?_
            refine G_end (X_then ?_)
            refine G_cond_t rfl (decide_eq_true (by omega)) ?_
            refine G_skip (X_then (G_seq (G_block (G_seq (G_region ?_)))))
            refine G_val (V_fieldAddr rfl rfl (by decide)) rfl rfl (.none rfl) ?_
            refine G_val (V_load rfl rfl (Cell.own (.tail _ (.head _)) rfl)) rfl rfl (.none rfl) ?_
            refine G_val (V_move rfl rfl) rfl rfl (.none rfl) ?_
            refine G_val (V_idxAddr rfl rfl rfl (SlE.rd (by assumption)) (by omega) (by omega)) rfl rfl (.none rfl) ?_
            refine G_val (V_fieldAddrE rfl rfl (by assumption) (by omega) (by decide)) rfl rfl (.none rfl) ?_
            refine G_val (V_loadS rfl rfl (SlE.rd (by assumption)) (by assumption) (by simp)) rfl rfl (.none rfl) ?_
            refine G_val (V_move rfl rfl) rfl rfl (.none rfl) ?_
            refine G_val (V_idxAddr rfl rfl rfl (SlE.rd (by assumption)) (by omega) (by omega)) rfl rfl (.none rfl) ?_
            refine G_val (V_loadS rfl rfl (SlE.rd (by assumption)) (by assumption) (by simp)) rfl rfl (.none rfl) ?_
            refine G_callv (k := 85) (.mk rfl rfl rfl rfl) rfl rfl (.none rfl) (indext_call _ _ _ (by assumption)) ?_
            refine G_val (V_assign rfl rfl) rfl rfl (.none rfl) ?_
            refine G_end (X_then (G_seq (G_region ?_)))
            refine G_val (V_move rfl rfl) rfl rfl (.none rfl) ?_
            refine G_val (V_geq rfl rfl rfl) rfl rfl (.none rfl) ?_
            refine G_val (V_move rfl rfl) rfl rfl (.none rfl) ?_
            refine G.bool_f 59 rfl (by kernel_rfl) ?_
            refine G_stay (.no rfl rfl rfl rfl) rfl rfl ?_
            refine G_stay (.no rfl rfl rfl rfl) rfl rfl ?_
            refine G_stay (.no rfl rfl rfl rfl) rfl rfl ?_
            refine G_stay (.no rfl rfl rfl rfl) rfl rfl ?_
            refine G_stay (.no rfl rfl rfl rfl) rfl rfl ?_
            refine G_val (V_pick_f rfl rfl rfl) rfl rfl (.none rfl) ?_
            refine G_end (X_then ?_)
            refine G_cond_f rfl rfl ?_
            refine G_skip (X_block (X_then (G_region ?_)))
            refine G_val (V_move rfl rfl) rfl rfl (.none rfl) ?_
            refine G_val (V_add_i64 rfl rfl rfl (by omega) (by omega)) rfl rfl (.none rfl) ?_
            refine G_val (V_assign rfl rfl) rfl rfl (.none rfl) ?_
            refine G_end (X_then ?_)
            exact G_again (j + 1, l2, ch2) ⟨hjlt, hi2, hia2, hb2, hm2, stay fun h => by omega⟩ (by simp only; omega) ⟨rfl, rfl, rfl, rfl, rfl, trivial⟩ rfl rfl
          · have hbs := bools_get (l := l2) (s := rows[i].2.2.2[j]) (by omega) (by rw [hllb]; exact hsj)
            cases hc : bget l2 rows[i].2.2.2[j] with
            | true =>
              refine G_seq (G_seq (G_region ?_))
              refine G_val (V_move rfl rfl) rfl rfl (.none rfl) ?_
              refine G_val (V_fieldAddr rfl rfl (by decide)) rfl rfl (.none rfl) ?_
              refine G_val (V_load rfl rfl (Cell.own (.tail _ (.head _)) rfl)) rfl rfl (.none rfl) ?_
              refine G_val (V_move rfl rfl) rfl rfl (.none rfl) ?_
              refine G_val (V_idxAddr rfl rfl rfl (SlE.rd (by assumption)) (by omega) (by omega)) rfl rfl (.none rfl) ?_
              refine G_val (V_fieldAddrE rfl rfl (by assumption) (by omega) (by decide)) rfl rfl (.none rfl) ?_
              refine G_val (V_loadS rfl rfl (SlE.rd (by assumption)) (by assumption) (by simp)) rfl rfl (.none rfl) ?_
              refine G_val (V_lenS rfl rfl) rfl rfl (.none rfl) ?_
              refine G_val (V_lss rfl rfl rfl) rfl rfl (.none rfl) ?_
              refine G_end (X_then ?_)
              refine G_cond_t rfl (decide_eq_true (by omega)) ?_
              refine G_skip (X_then (G_seq (G_block (G_seq (G_region ?_)))))
              refine G_val (V_fieldAddr rfl rfl (by decide)) rfl rfl (.none rfl) ?_
              refine G_val (V_load rfl rfl (Cell.own (.tail _ (.head _)) rfl)) rfl rfl (.none rfl) ?_
              refine G_val (V_move rfl rfl) rfl rfl (.none rfl) ?_
              refine G_val (V_idxAddr rfl rfl rfl (SlE.rd (by assumption)) (by omega) (by omega)) rfl rfl (.none rfl) ?_
              refine G_val (V_fieldAddrE rfl rfl (by assumption) (by omega) (by decide)) rfl rfl (.none rfl) ?_
              refine G_val (V_loadS rfl rfl (SlE.rd (by assumption)) (by assumption) (by simp)) rfl rfl (.none rfl) ?_
              refine G_val (V_move rfl rfl) rfl rfl (.none rfl) ?_
              refine G_val (V_idxAddr rfl rfl rfl (SlE.rd (by assumption)) (by omega) (by omega)) rfl rfl (.none rfl) ?_
              refine G_val (V_loadS rfl rfl (SlE.rd (by assumption)) (by assumption) (by simp)) rfl rfl (.none rfl) ?_
              refine G_callv (k := 85) (.mk rfl rfl rfl rfl) rfl rfl (.none rfl) (indexn_call _ _ _ (by omega) (by omega)) ?_
              refine G_val (V_assign rfl rfl) rfl rfl (.none rfl) ?_
              refine G_end (X_then (G_seq (G_region ?_)))
              refine G_val (V_move rfl rfl) rfl rfl (.none rfl) ?_
              refine G_val (V_geq rfl rfl rfl) rfl rfl (.none rfl) ?_
              refine G_val (V_move rfl rfl) rfl rfl (.none rfl) ?_
              refine G.bool_t 59 rfl (decide_eq_true (by omega)) ?_
              refine G_val (V_move rfl rfl) rfl rfl (.yes rfl rfl rfl rfl) ?_
              refine G_val (V_move rfl rfl) rfl rfl (.yes rfl rfl rfl rfl) ?_
              refine G_val (V_idxB1 rfl rfl rfl (by omega) (by omega)) rfl rfl (.yes rfl rfl rfl rfl) ?_
              refine G_val (V_load rfl rfl (Cell.own (.head _) (by assumption))) rfl rfl (.yes rfl rfl rfl rfl) ?_
              refine G_val (V_not rfl rfl) rfl rfl (.yes rfl rfl rfl rfl) ?_
              refine G_val (V_pick_t rfl rfl rfl) rfl rfl (.none rfl) ?_
              refine G_end (X_then ?_)
              refine G_cond_f rfl (by simp [*]; done) ?_
              refine G_skip (X_block (X_then (G_region ?_)))
              refine G_val (V_move rfl rfl) rfl rfl (.none rfl) ?_
              refine G_val (V_add_i64 rfl rfl rfl (by omega) (by omega)) rfl rfl (.none rfl) ?_
              refine G_val (V_assign rfl rfl) rfl rfl (.none rfl) ?_
              refine G_end (X_then ?_)
              exact G_again (j + 1, l2, ch2) ⟨hjlt, hi2, hia2, hb2, hm2, stay fun _ => hc⟩ (by simp only; omega) ⟨rfl, rfl, rfl, rfl, rfl, trivial⟩ rfl rfl
            | false =>
              obtain ⟨hu1, hu2⟩ := hi2.upd hw a1 a2 hp (List.getElem_mem hjlt) (by omega) hb2 hc
              have hle : meas (tab l2) ≤ meas (tab l) := by
                cases ch2 with
                | true => exact Nat.le_of_lt (hm2 rfl)
                | false => rw [(hjall rfl).2.1]; exact Nat.le_refl _
              refine G_seq (G_seq (G_region ?_))
              refine G_val (V_move rfl rfl) rfl rfl (.none rfl) ?_
              refine G_val (V_fieldAddr rfl rfl (by decide)) rfl rfl (.none rfl) ?_
              refine G_val (V_load rfl rfl (Cell.own (.tail _ (.head _)) rfl)) rfl rfl (.none rfl) ?_
              refine G_val (V_move rfl rfl) rfl rfl (.none rfl) ?_
              refine G_val (V_idxAddr rfl rfl rfl (SlE.rd (by assumption)) (by omega) (by omega)) rfl rfl (.none rfl) ?_
              refine G_val (V_fieldAddrE rfl rfl (by assumption) (by omega) (by decide)) rfl rfl (.none rfl) ?_
              refine G_val (V_loadS rfl rfl (SlE.rd (by assumption)) (by assumption) (by simp)) rfl rfl (.none rfl) ?_
              refine G_val (V_lenS rfl rfl) rfl rfl (.none rfl) ?_
              refine G_val (V_lss rfl rfl rfl) rfl rfl (.none rfl) ?_
              refine G_end (X_then ?_)
              refine G_cond_t rfl (decide_eq_true (by omega)) ?_
              refine G_skip (X_then (G_seq (G_block (G_seq (G_region ?_)))))
              refine G_val (V_fieldAddr rfl rfl (by decide)) rfl rfl (.none rfl) ?_
              refine G_val (V_load rfl rfl (Cell.own (.tail _ (.head _)) rfl)) rfl rfl (.none rfl) ?_
              refine G_val (V_move rfl rfl) rfl rfl (.none rfl) ?_
              refine G_val (V_idxAddr rfl rfl rfl (SlE.rd (by assumption)) (by omega) (by omega)) rfl rfl (.none rfl) ?_
              refine G_val (V_fieldAddrE rfl rfl (by assumption) (by omega) (by decide)) rfl rfl (.none rfl) ?_
              refine G_val (V_loadS rfl rfl (SlE.rd (by assumption)) (by assumption) (by simp)) rfl rfl (.none rfl) ?_
              refine G_val (V_move rfl rfl) rfl rfl (.none rfl) ?_
              refine G_val (V_idxAddr rfl rfl rfl (SlE.rd (by assumption)) (by omega) (by omega)) rfl rfl (.none rfl) ?_
              refine G_val (V_loadS rfl rfl (SlE.rd (by assumption)) (by assumption) (by simp)) rfl rfl (.none rfl) ?_
              refine G_callv (k := 85) (.mk rfl rfl rfl rfl) rfl rfl (.none rfl) (indexn_call _ _ _ (by omega) (by omega)) ?_
              refine G_val (V_assign rfl rfl) rfl rfl (.none rfl) ?_
              refine G_end (X_then (G_seq (G_region ?_)))
              refine G_val (V_move rfl rfl) rfl rfl (.none rfl) ?_
              refine G_val (V_geq rfl rfl rfl) rfl rfl (.none rfl) ?_
              refine G_val (V_move rfl rfl) rfl rfl (.none rfl) ?_
              refine G.bool_t 59 rfl (decide_eq_true (by omega)) ?_
              refine G_val (V_move rfl rfl) rfl rfl (.yes rfl rfl rfl rfl) ?_
              refine G_val (V_move rfl rfl) rfl rfl (.yes rfl rfl rfl rfl) ?_
              refine G_val (V_idxB1 rfl rfl rfl (by omega) (by omega)) rfl rfl (.yes rfl rfl rfl rfl) ?_
              refine G_val (V_load rfl rfl (Cell.own (.head _) (by assumption))) rfl rfl (.yes rfl rfl rfl rfl) ?_
              refine G_val (V_not rfl rfl) rfl rfl (.yes rfl rfl rfl rfl) ?_
              refine G_val (V_pick_t rfl rfl rfl) rfl rfl (.none rfl) ?_
              refine G_end (X_then ?_)
              refine G_cond_t rfl (by simp [*]; done) ?_
              refine G_region ?_
              refine G_val (V_move rfl rfl) rfl rfl (.none rfl) ?_
              refine G_val (V_move rfl rfl) rfl rfl (.none rfl) ?_
              refine G_val (V_idxB1 rfl rfl rfl (by omega) (by omega)) rfl rfl (.none rfl) ?_
              refine G_storeB rfl rfl rfl rfl rfl rfl (.none rfl) (.head _ _ _) (by omega) ?_
              refine G_val (V_assign rfl rfl) rfl rfl (.none rfl) ?_
              refine G_end (X_block (X_then (G_region ?_)))
              refine G_val (V_move rfl rfl) rfl rfl (.none rfl) ?_
              refine G_val (V_add_i64 rfl rfl rfl (by omega) (by omega)) rfl rfl (.none rfl) ?_
              refine G_val (V_assign rfl rfl) rfl rfl (.none rfl) ?_
              refine G_end (X_then ?_)
              rw [bools_set]
              exact G_again (j + 1, l2.set (rows[i].2.2.2[j] - 16).toNat true, true) ⟨hjlt, hu1, bget_set hia2, bget_set hb2, fun _ => Nat.lt_of_lt_of_le hu2 hle, fun h => (by cases h)⟩ (by simp only; omega) ⟨rfl, rfl, rfl, rfl, rfl, trivial⟩ rfl rfl
        · refine G_seq ?_
          refine G_seq (G_region ?_)
          refine G_val (V_move rfl rfl) rfl rfl (.none rfl) ?_
          refine G_val (V_fieldAddr rfl rfl (by decide)) rfl rfl (.none rfl) ?_
          refine G_val (V_load rfl rfl (Cell.own (.tail _ (.head _)) rfl)) rfl rfl (.none rfl) ?_
          refine G_val (V_move rfl rfl) rfl rfl (.none rfl) ?_
          refine G_val (V_idxAddr rfl rfl rfl (SlE.rd (by assumption)) (by omega) (by omega)) rfl rfl (.none rfl) ?_
          refine G_val (V_fieldAddrE rfl rfl (by assumption) (by omega) (by decide)) rfl rfl (.none rfl) ?_
          refine G_val (V_loadS rfl rfl (SlE.rd (by assumption)) (by assumption) (by simp)) rfl rfl (.none rfl) ?_
          refine G_val (V_lenS rfl rfl) rfl rfl (.none rfl) ?_
          refine G_val (V_lss rfl rfl rfl) rfl rfl (.none rfl) ?_
          refine G_end (X_then ?_)
          refine G_cond_f rfl (decide_eq_false (by omega)) ?_
          refine G_exit (X_then_exit (X_then_exit (X_block_hit (X_block (X_then (G_region ?_))))))
          refine G_val (V_move rfl rfl) rfl rfl (.none rfl) ?_
          refine G_val (V_add_i64 rfl rfl rfl (by omega) (by omega)) rfl rfl (.none rfl) ?_
          refine G_val (V_assign rfl rfl) rfl rfl (.none rfl) ?_
          refine G_end (X_then ?_)
          refine G_again (i + 1, l2, ch2) ⟨hlt, hi2, hia2, hm2, ?_⟩ (by simp only; omega) ⟨rfl, rfl, rfl, rfl, trivial⟩ rfl rfl
          intro hch
          obtain ⟨h0, h1, h2⟩ := hjall hch
          refine ⟨h1, fun k hk hk2 => ?_⟩
          by_cases he : k = i
          · subst he
            intro _ s hs h16
            obtain ⟨q, hq, rfl⟩ := List.getElem_of_mem hs
            exact h2 q (by omega) hq h16
          · exact (hall h0).2 k (by simp only at hk; omega) hk2
    · refine G_seq ?_
      refine G_seq (G_region ?_)
      refine G_val (V_move rfl rfl) rfl rfl (.none rfl) ?_
      refine G_val (V_fieldAddr rfl rfl (by decide)) rfl rfl (.none rfl) ?_
      refine G_val (V_load rfl rfl (Cell.own (.tail _ (.head _)) rfl)) rfl rfl (.none rfl) ?_
      refine G_val (V_lenS rfl rfl) rfl rfl (.none rfl) ?_
      refine G_val (V_lss rfl rfl rfl) rfl rfl (.none rfl) ?_
      refine G_end (X_then ?_)
      refine G_cond_f rfl (decide_eq_false (by omega)) ?_
      refine G_exit (X_then_exit (X_then_exit (X_block_hit (X_block (X_then ?_)))))
      refine G_again (l1, ch) ⟨hi1, hia1, fun h p hp => ?_⟩ ?_ ⟨rfl, rfl, rfl, trivial⟩ rfl rfl
      · obtain ⟨h1, h2⟩ := hall h
        subst h1
        rw [← hrows] at hp
        obtain ⟨x, hx, rfl⟩ := List.mem_map.1 hp
        obtain ⟨k, hk, rfl⟩ := List.getElem_of_mem hx
        exact h2 k (by omega) hk
      · cases ch with
        | true =>
          have := hm rfl
          simp only [if_true]
          omega
        | false =>
          rw [(hall rfl).1]
          simp
end
end Go.Proofs.Ytaoinojdijbhaaa
set_option linter.unusedSimpArgs false
set_option linter.unusedVariables false
set_option maxHeartbeats 2000000
set_option maxRecDepth 20000
namespace Go.Proofs.Ytaoinojdijbhaaa
open Go.RowKit
abbrev encN : Option Nat → Int := encR (-1)
theorem tabR_at {f : Tab} {s : Int} (h1 : 16 ≤ s) (h2 : s < 16 + (f.length : Int)) : (i64s (f.map encN))[(s - 16).toNat]? = some (.int .i64 (encN (tget f s))) := by
  have h : (s - 16).toNat < f.length := by omega
  simp [i64s, tget, h]
theorem tabR_set (f : Tab) (p : Pr) (v : Nat) : (i64s (f.map encN)).set (p.1 - 16).toNat (.int .i64 v) = i64s ((upd f p v).map encN) := by
  simp [i64s, upd, List.map_set, encR]
theorem startR_cells (n : Nat) : List.replicate n (Value.int .i64 (-1)) = i64s ((start n).map encN) := by simp [start, i64s, encR]
theorem encN_some (x : Option Nat) : decide (encN x ≥ 0) = x.isSome := by
  cases x with
  | none => rfl
  | some c => show decide ((c : Int) ≥ 0) = true; exact decide_eq_true (by omega)
theorem addO_isSome (a b : Option Nat) : (addO a b).isSome = (a.isSome && b.isSome) := by cases a <;> cases b <;> rfl
theorem lessB {t : Option Nat} {own : Nat} {f : Tab} {p : Pr} {sm : Int} (hsm : ∀ c, cost t f p.2 = some c → sm = own + c) : ((cost t f p.2).isSome && (decide (encN (tget f p.1) < 0) || decide (sm < encN (tget f p.1)))) = (better t own f p).isSome := by
  rw [better]
  cases h1 : cost t f p.2 with
  | none => rfl
  | some c =>
    have h2 := hsm c h1
    cases h3 : tget f p.1 with
    | none => rfl
    | some c' =>
      have e : encN (some c') = (c' : Int) := rfl
      show (true && (decide (encN (some c') < 0) || decide (sm < encN (some c')))) = (if own + c < c' then some (own + c) else none).isSome
      rw [e, h2, Bool.true_and, decide_eq_false (by omega), Bool.false_or]
      by_cases hlt : own + c < c'
      · rw [if_pos hlt]; exact decide_eq_true (by omega)
      · rw [if_neg hlt]; exact decide_eq_false (by omega)
section
variable (E : Env) (L : List Res)
theorem least_call (gv : Value) (g : Gr) (hg : GrE E gv g) (hl : Light g) (t : Option Nat) (own : Nat) (hw : Wf g.prods g.names.length) (hs : Small t own) :
    CallS Try.prog 87 #[gv, .int .i64 (encN t), .int .i64 own] E L (fun r E' L' => ∃ b, r = .slice (some ⟨b, 0, none⟩) g.names.length g.names.length ∧ E = E' ∧ L' = .blk b (.cells (i64s ((best g.prods g.names.length t own).map encN)).toArray 3 (0, 0)) :: L) := by
  have hg0 := hg
  obtain ⟨tp, tc, np, nc, pp, pc, rfl, ht, hn, ⟨rows, hrows, hps, hre⟩, k1, k2, k3⟩ := hg
  have hlen : g.prods.length = rows.length := by rw [← hrows]; simp
  have q1 := hl.t; have q2 := hl.n; have q3 := hl.p
  refine CallS.intro (l := [_, _, _]) _ Try.func87 rfl Try.ntmps87 rfl ?_
  refine G_seq (G_region ?_)
  (refine G_boxA rfl rfl rfl rfl (.none rfl) ?_; intro b3)
  refine G_val (V_assign rfl rfl) rfl rfl (.none rfl) ?_
  refine G_end (X_then (G_seq (G_region ?_)))
  refine G_val (V_fieldAddr rfl rfl (by decide)) rfl rfl (.none rfl) ?_
  refine G_val (V_load rfl rfl (Cell.own (.head _) rfl)) rfl rfl (.none rfl) ?_
  refine G_val (V_lenS rfl rfl) rfl rfl (.none rfl) ?_
  (refine G_makeSlice rfl rfl rfl (by omega) (by omega) (by omega) rfl rfl (.none rfl) ?_; intro b20)
  refine G_val (V_assign rfl rfl) rfl rfl (.none rfl) ?_
  refine G_end (X_then (G_seq (G_seq (G_region ?_))))
  refine G_val (V_assign rfl rfl) rfl rfl (.none rfl) ?_
  refine G_end (X_then (G_block ?_))
  simp only [Int.toNat_natCast]
  refine G_loop (α := Nat) (fun i => [(1, .int .i64 (encN t)), (2, .int .i64 own), (3, .pointer (some ⟨b3, 0, none⟩)), (7, .slice (some ⟨b20, 0, none⟩) g.names.length g.names.length), (8, .int .i64 i)]) (fun _ => E) (fun i => .blk b20 (.cells (List.replicate i (Value.int .i64 (-1)) ++ List.replicate (g.names.length - i) (Value.int .i64 0)).toArray 3 (0, 0)) :: GB b3 g tp tc np nc pp pc :: L)
    (fun i => i ≤ g.names.length) (fun i => g.names.length - i) 0 (Nat.zero_le _) ⟨rfl, rfl, rfl, rfl, rfl, trivial⟩ rfl rfl ?_
  intro i hi
  have hlen0 := fill_len (Value.int .i64 (-1)) (Value.int .i64 0) hi
  by_cases hlt : i < g.names.length
  · refine G_seq ?_
    refine G_seq (G_region ?_)
    refine G_val (V_move rfl rfl) rfl rfl (.none rfl) ?_
    refine G_val (V_move rfl rfl) rfl rfl (.none rfl) ?_
    refine G_val (V_lenS rfl rfl) rfl rfl (.none rfl) ?_
    refine G_val (V_lss rfl rfl rfl) rfl rfl (.none rfl) ?_
    refine G_end (X_then ?_)
    refine G_cond_t rfl (decide_eq_true (by omega)) ?_
    refine G_skip (X_then (G_seq (G_block (G_region ?_))))
    refine G_val (V_move rfl rfl) rfl rfl (.none rfl) ?_
    refine G_val (V_move rfl rfl) rfl rfl (.none rfl) ?_
    refine G_val (V_idxB1n rfl rfl rfl (by omega)) rfl rfl (.none rfl) ?_
    refine G_storeB rfl rfl rfl rfl rfl rfl (.none rfl) (.head _ _ _) (by omega) ?_
    refine G_end (X_block (X_then (G_region ?_)))
    refine G_val (V_move rfl rfl) rfl rfl (.none rfl) ?_
    refine G_val (V_add_i64 rfl rfl rfl (by omega) (by omega)) rfl rfl (.none rfl) ?_
    refine G_val (V_assign rfl rfl) rfl rfl (.none rfl) ?_
    refine G_end (X_then ?_)
    rw [fill_set _ _ hlt]
    exact G_again (i + 1) hlt (by omega) ⟨rfl, rfl, rfl, rfl, rfl, trivial⟩ rfl rfl
  have e1 : g.names.length - i = 0 := by omega
  have e2 : i = g.names.length := by omega
  subst e2
  rw [e1, List.replicate_zero, List.append_nil, startR_cells]
  refine G_seq (G_seq (G_region ?_))
  refine G_val (V_move rfl rfl) rfl rfl (.none rfl) ?_
  refine G_val (V_move rfl rfl) rfl rfl (.none rfl) ?_
  refine G_val (V_lenS rfl rfl) rfl rfl (.none rfl) ?_
  refine G_val (V_lss rfl rfl rfl) rfl rfl (.none rfl) ?_
  refine G_end (X_then ?_)
  refine G_cond_f rfl (decide_eq_false (by omega)) ?_
  refine G_exit (X_then_exit (X_then_exit (X_block_hit (X_then (G_seq (G_seq (G_region ?_)))))))
  refine G_val (V_assign rfl rfl) rfl rfl (.none rfl) ?_
  refine G_end (X_then (G_block ?_))
  refine G_loop (α := Tab × Bool) (fun x => [(1, .int .i64 (encN t)), (2, .int .i64 own), (3, .pointer (some ⟨b3, 0, none⟩)), (7, .slice (some ⟨b20, 0, none⟩) g.names.length g.names.length), (9, .bool x.2)]) (fun _ => E) (fun x => .blk b20 (.cells (i64s (x.1.map encN)).toArray 3 (0, 0)) :: GB b3 g tp tc np nc pp pc :: L)
    (fun x => Inv g.prods g.names.length t own x.1 ∧ (x.2 = false → ∀ p, p ∈ g.prods → better t own x.1 p = none)) (fun x => 2 * meas x.1 + (if x.2 = true then 1 else 0)) (start g.names.length, true)
    ⟨inv_start _ _ _ _, fun h => by cases h⟩ ⟨rfl, rfl, rfl, rfl, rfl, trivial⟩ rfl rfl ?_
  rintro ⟨f, ch⟩ ⟨hi0, hst⟩
  simp only at hi0 hst ⊢
  cases ch with
  | false =>
    have he : f = best g.prods g.names.length t own := best_eq hw hs ⟨hi0.len, better_stable.2 (hst rfl), hi0.sound⟩
    subst he
    refine G_seq (G_seq (G_region ?_))
    refine G_val (V_move rfl rfl) rfl rfl (.none rfl) ?_
    refine G_end (X_then ?_)
    refine G_cond_f rfl rfl ?_
    refine G_exit (X_then_exit (X_then_exit (X_block_hit (X_then (G_seq (G_region ?_))))))
    refine G_val (V_move rfl rfl) rfl rfl (.none rfl) ?_
    refine G_val (V_assign rfl rfl) rfl rfl (.none rfl) ?_
    refine G_end (X_then (G_ret ?_))
    refine G_leaveS (.keep _ (.drop _ (.nil _))) (by exact (.cons (.tmp rfl) (.nil))) rfl ?_ ?_
    · exact (.refl _)
    exact ⟨_, ⟨rfl, ⟨rfl, rfl⟩⟩⟩
  | true =>
    refine G_seq (G_seq (G_region ?_))
    refine G_val (V_move rfl rfl) rfl rfl (.none rfl) ?_
    refine G_end (X_then ?_)
    refine G_cond_t rfl rfl ?_
    refine G_skip (X_then (G_block (G_seq (G_region ?_))))
    refine G_val (V_assign rfl rfl) rfl rfl (.none rfl) ?_
    refine G_end (X_then (G_seq (G_region ?_)))
    refine G_val (V_assign rfl rfl) rfl rfl (.none rfl) ?_
    refine G_end (X_then (G_block ?_))
    refine G_loop (α := Nat × Tab × Bool) (fun x => [(1, .int .i64 (encN t)), (2, .int .i64 own), (3, .pointer (some ⟨b3, 0, none⟩)), (7, .slice (some ⟨b20, 0, none⟩) g.names.length g.names.length), (9, .bool x.2.2), (10, .int .i64 x.1)]) (fun _ => E) (fun x => .blk b20 (.cells (i64s (x.2.1.map encN)).toArray 3 (0, 0)) :: GB b3 g tp tc np nc pp pc :: L)
      (fun x => x.1 ≤ rows.length ∧ Inv g.prods g.names.length t own x.2.1 ∧ (x.2.2 = true → meas x.2.1 < meas f) ∧ (x.2.2 = false → x.2.1 = f ∧ ∀ k, k < x.1 → (hk : k < rows.length) → better t own f rows[k].2.2 = none)) (fun x => rows.length - x.1) (0, f, false)
      ⟨Nat.zero_le _, hi0, fun h => (by cases h), fun _ => ⟨rfl, fun k hk => (by cases hk)⟩⟩ ⟨rfl, rfl, rfl, rfl, rfl, rfl, trivial⟩ rfl rfl ?_
    rintro ⟨i, f1, ch⟩ ⟨hile, hi1, hm, hall⟩
    simp only at hile hi1 hm hall ⊢
    have hll := hi1.len
    have hll2 : (i64s (f1.map encN)).length = g.names.length := by simp [i64s, hll]
    by_cases hlt : i < rows.length
    · have hg1 := List.getElem?_eq_getElem hlt
      have hyl := prows_left hg1
      have hyr := prows_right hg1
      have hre1 := hre.get hg1
      have hp : rows[i].2.2 ∈ g.prods := by rw [← hrows]; exact List.mem_map.2 ⟨rows[i], List.getElem_mem hlt, rfl⟩
      have hl1 := hw.left _ hp
      have h8 := hw.right _ hp
      have hsy := hw.syms _ hp
      have hbl := tabR_at (f := f1) hl1.1 (by rw [hll]; exact hl1.2)
      have hown := hs.own
      have stay : better t own f1 rows[i].2.2 = none → ch = false → f1 = f ∧ ∀ k, k < i + 1 → (hk : k < rows.length) → better t own f rows[k].2.2 = none := by
        intro h hch
        obtain ⟨h1, h2⟩ := hall hch
        subst h1
        refine ⟨rfl, fun k hk hk2 => ?_⟩
        by_cases he : k = i
        · subst he; exact h
        · exact h2 k (by omega) hk2
      refine G_seq (G_seq (G_region ?_))
      refine G_val (V_move rfl rfl) rfl rfl (.none rfl) ?_
      refine G_val (V_fieldAddr rfl rfl (by decide)) rfl rfl (.none rfl) ?_
      refine G_val (V_load rfl rfl (Cell.own (.tail _ (.head _)) rfl)) rfl rfl (.none rfl) ?_
      refine G_val (V_lenS rfl rfl) rfl rfl (.none rfl) ?_
      refine G_val (V_lss rfl rfl rfl) rfl rfl (.none rfl) ?_
      refine G_end (X_then ?_)
      refine G_cond_t rfl (decide_eq_true (by omega)) ?_
      refine G_skip (X_then (G_seq (G_block (G_seq (G_region ?_)))))
      refine G_val (V_move rfl rfl) rfl rfl (.none rfl) ?_
      refine G_val (V_assign rfl rfl) rfl rfl (.none rfl) ?_
      refine G_val (V_assign rfl rfl) rfl rfl (.none rfl) ?_
      refine G_end (X_then (G_seq (G_seq (G_region ?_))))
      refine G_val (V_assign rfl rfl) rfl rfl (.none rfl) ?_
      refine G_end (X_then (G_block ?_))
      refine G_loop (α := Nat × Int) (fun x => [(1, .int .i64 (encN t)), (2, .int .i64 own), (3, .pointer (some ⟨b3, 0, none⟩)), (7, .slice (some ⟨b20, 0, none⟩) g.names.length g.names.length), (9, .bool ch), (10, .int .i64 i), (11, .int .i64 x.2), (12, .bool (cost t f1 (rows[i].2.2.2.take x.1)).isSome), (13, .int .i64 x.1)]) (fun _ => E) (fun _ => .blk b20 (.cells (i64s (f1.map encN)).toArray 3 (0, 0)) :: GB b3 g tp tc np nc pp pc :: L)
        (fun x => x.1 ≤ rows[i].2.2.2.length ∧ (∀ c, cost t f1 (rows[i].2.2.2.take x.1) = some c → x.2 = own + c) ∧ -(x.1 : Int) ≤ x.2 ∧ x.2 ≤ 1 + (x.1 : Int) * 1099511627776) (fun x => rows[i].2.2.2.length - x.1) (0, (own : Int))
        ⟨Nat.zero_le _, fun c hc => by rw [← Option.some.inj hc]; simp, by simp only; omega, by simp only; omega⟩ ⟨rfl, rfl, rfl, rfl, rfl, rfl, rfl, rfl, rfl, trivial⟩ rfl rfl ?_
      rintro ⟨j, sm⟩ ⟨hjle, hsm, hb1, hb2⟩
      simp only at hjle hsm hb1 hb2 ⊢
      by_cases hjlt : j < rows[i].2.2.2.length
      · have hx := i64s_at hjlt
        have hsj := hsy _ (List.getElem_mem hjlt)
        have hct := cost_take t f1 hjlt
        have hsome : (cost t f1 (rows[i].2.2.2.take (j + 1))).isSome = ((cost t f1 (rows[i].2.2.2.take j)).isSome && decide (encN (symc t f1 rows[i].2.2.2[j]) ≥ 0)) := by rw [hct, addO_isSome, encN_some]
        have hn1 : -1 ≤ encN (symc t f1 rows[i].2.2.2[j]) ∧ encN (symc t f1 rows[i].2.2.2[j]) ≤ 1099511627776 := by
          cases hv : symc t f1 rows[i].2.2.2[j] with
          | none => exact ⟨by decide, by decide⟩
          | some c =>
            have hc : c ≤ 1099511627776 := by
              rw [symc] at hv
              by_cases h16 : rows[i].2.2.2[j] < 16
              · rw [if_pos h16] at hv
                have := hs.t c hv
                omega
              · rw [if_neg h16] at hv
                exact hi1.le hw hv
            show -1 ≤ (c : Int) ∧ (c : Int) ≤ 1099511627776
            omega
        have hsm2 : ∀ c, cost t f1 (rows[i].2.2.2.take (j + 1)) = some c → sm + encN (symc t f1 rows[i].2.2.2[j]) = own + c := by
          intro c hc
          rw [hct] at hc
          obtain ⟨x, y, hx, hy, rfl⟩ := addO_some hc
          rw [hsm x hx, hy]
          show (own : Int) + x + (y : Int) = _
          omega
        have hinv : j + 1 ≤ rows[i].2.2.2.length ∧ (∀ c, cost t f1 (rows[i].2.2.2.take (j + 1)) = some c → sm + encN (symc t f1 rows[i].2.2.2[j]) = own + c) ∧ -((j + 1 : Nat) : Int) ≤ sm + encN (symc t f1 rows[i].2.2.2[j]) ∧ sm + encN (symc t f1 rows[i].2.2.2[j]) ≤ 1 + ((j + 1 : Nat) : Int) * 1099511627776 := ⟨hjlt, hsm2, by omega, by omega⟩
        by_cases h16 : rows[i].2.2.2[j] < 16
        · have hse : symc t f1 rows[i].2.2.2[j] = t := by rw [symc, if_pos h16]
          rw [hse] at hsome hn1 hinv
          refine G_seq (G_seq (G_region ?_))
          refine G_val (V_move rfl rfl) rfl rfl (.none rfl) ?_
          refine G_val (V_fieldAddr rfl rfl (by decide)) rfl rfl (.none rfl) ?_
          refine G_val (V_load rfl rfl (Cell.own (.tail _ (.head _)) rfl)) rfl rfl (.none rfl) ?_
          refine G_val (V_move rfl rfl) rfl rfl (.none rfl) ?_
          refine G_val (V_idxAddr rfl rfl rfl (SlE.rd (by assumption)) (by omega) (by omega)) rfl rfl (.none rfl) ?_
          refine G_val (V_fieldAddrE rfl rfl (by assumption) (by omega) (by decide)) rfl rfl (.none rfl) ?_
          refine G_val (V_loadS rfl rfl (SlE.rd (by assumption)) (by assumption) (by simp)) rfl rfl (.none rfl) ?_
          refine G_val (V_lenS rfl rfl) rfl rfl (.none rfl) ?_
          refine G_val (V_lss rfl rfl rfl) rfl rfl (.none rfl) ?_
          refine G_end (X_then ?_)
          refine G_cond_t rfl (decide_eq_true (by omega)) ?_
          refine G_skip (X_then (G_seq (G_block (G_seq (G_region ?_)))))
          refine G_val (V_fieldAddr rfl rfl (by decide)) rfl rfl (.none rfl) ?_
          refine G_val (V_load rfl rfl (Cell.own (.tail _ (.head _)) rfl)) rfl rfl (.none rfl) ?_
          refine G_val (V_move rfl rfl) rfl rfl (.none rfl) ?_
          refine G_val (V_idxAddr rfl rfl rfl (SlE.rd (by assumption)) (by omega) (by omega)) rfl rfl (.none rfl) ?_
          refine G_val (V_fieldAddrE rfl rfl (by assumption) (by omega) (by decide)) rfl rfl (.none rfl) ?_
          refine G_val (V_loadS rfl rfl (SlE.rd (by assumption)) (by assumption) (by simp)) rfl rfl (.none rfl) ?_
          refine G_val (V_move rfl rfl) rfl rfl (.none rfl) ?_
          refine G_val (V_idxAddr rfl rfl rfl (SlE.rd (by assumption)) (by omega) (by omega)) rfl rfl (.none rfl) ?_
          refine G_val (V_loadS rfl rfl (SlE.rd (by assumption)) (by assumption) (by simp)) rfl rfl (.none rfl) ?_
          refine G_callv (k := 85) (.mk rfl rfl rfl rfl) rfl rfl (.none rfl) (indext_call _ _ _ (by assumption)) ?_
          refine G_val (V_assign rfl rfl) rfl rfl (.none rfl) ?_
          refine G_end (X_then (G_seq (G_region ?_)))
          refine G_val (V_move rfl rfl) rfl rfl (.none rfl) ?_
          refine G_val (V_assign rfl rfl) rfl rfl (.none rfl) ?_
          refine G_end (X_then (G_seq (G_seq (G_region ?_))))
          refine G_val (V_move rfl rfl) rfl rfl (.none rfl) ?_
          refine G_val (V_geq rfl rfl rfl) rfl rfl (.none rfl) ?_
          refine G_end (X_then ?_)
          refine G_cond_f rfl (by kernel_rfl) ?_
          refine G_skip (X_then (G_seq (G_region ?_)))
          refine G_val (V_move rfl rfl) rfl rfl (.none rfl) ?_
          refine G_val (V_move rfl rfl) rfl rfl (.none rfl) ?_
          apply G_joinAnd 3 68 71 rfl
          · intro H1
            dsimp only [List.take]
            refine G_val (V_move rfl rfl) rfl rfl (.yes rfl rfl rfl rfl) ?_
            refine G_val (V_geq rfl rfl rfl) rfl rfl (.yes rfl rfl rfl rfl) ?_
            refine G_val (V_pick_t rfl rfl rfl) rfl rfl (.none rfl) ?_
            refine G_end ?_
            exact JQ_end 3 rfl rfl (by kernel_rfl)
          · intro H2
            dsimp only [List.take]
            refine G_stay (.no rfl rfl rfl rfl) rfl rfl ?_
            refine G_stay (.no rfl rfl rfl rfl) rfl rfl ?_
            refine G_val (V_pick_f rfl rfl rfl) rfl rfl (.none rfl) ?_
            refine G_end ?_
            exact JQ_end 3 rfl rfl (by kernel_rfl)
          dsimp only [List.drop]
          refine G_val (V_assign rfl rfl) rfl rfl (.none rfl) ?_
          refine G_end (X_then (G_region ?_))
          refine G_val (V_move rfl rfl) rfl rfl (.none rfl) ?_
          refine G_val (V_move rfl rfl) rfl rfl (.none rfl) ?_
          refine G_val (V_add_i64 rfl rfl rfl (by omega) (by omega)) rfl rfl (.none rfl) ?_
          refine G_val (V_assign rfl rfl) rfl rfl (.none rfl) ?_
          refine G_end (X_block (X_then (G_region ?_)))
          refine G_val (V_move rfl rfl) rfl rfl (.none rfl) ?_
          refine G_val (V_add_i64 rfl rfl rfl (by omega) (by omega)) rfl rfl (.none rfl) ?_
          refine G_val (V_assign rfl rfl) rfl rfl (.none rfl) ?_
          refine G_end (X_then ?_)
          rw [← hsome]
          exact G_again (j + 1, sm + encN t) hinv (by simp only; omega) ⟨rfl, rfl, rfl, rfl, rfl, rfl, rfl, rfl, rfl, trivial⟩ rfl rfl
        · have hse : symc t f1 rows[i].2.2.2[j] = tget f1 rows[i].2.2.2[j] := by rw [symc, if_neg h16]
          rw [hse] at hsome hn1 hinv
          have hbs := tabR_at (f := f1) (s := rows[i].2.2.2[j]) (by omega) (by rw [hll]; exact hsj)
          refine G_seq (G_seq (G_region ?_))
          refine G_val (V_move rfl rfl) rfl rfl (.none rfl) ?_
          refine G_val (V_fieldAddr rfl rfl (by decide)) rfl rfl (.none rfl) ?_
          refine G_val (V_load rfl rfl (Cell.own (.tail _ (.head _)) rfl)) rfl rfl (.none rfl) ?_
          refine G_val (V_move rfl rfl) rfl rfl (.none rfl) ?_
          refine G_val (V_idxAddr rfl rfl rfl (SlE.rd (by assumption)) (by omega) (by omega)) rfl rfl (.none rfl) ?_
          refine G_val (V_fieldAddrE rfl rfl (by assumption) (by omega) (by decide)) rfl rfl (.none rfl) ?_
          refine G_val (V_loadS rfl rfl (SlE.rd (by assumption)) (by assumption) (by simp)) rfl rfl (.none rfl) ?_
          refine G_val (V_lenS rfl rfl) rfl rfl (.none rfl) ?_
          refine G_val (V_lss rfl rfl rfl) rfl rfl (.none rfl) ?_
          refine G_end (X_then ?_)
          refine G_cond_t rfl (decide_eq_true (by omega)) ?_
          refine G_skip (X_then (G_seq (G_block (G_seq (G_region ?_)))))
          refine G_val (V_fieldAddr rfl rfl (by decide)) rfl rfl (.none rfl) ?_
          refine G_val (V_load rfl rfl (Cell.own (.tail _ (.head _)) rfl)) rfl rfl (.none rfl) ?_
          refine G_val (V_move rfl rfl) rfl rfl (.none rfl) ?_
          refine G_val (V_idxAddr rfl rfl rfl (SlE.rd (by assumption)) (by omega) (by omega)) rfl rfl (.none rfl) ?_
          refine G_val (V_fieldAddrE rfl rfl (by assumption) (by omega) (by decide)) rfl rfl (.none rfl) ?_
          refine G_val (V_loadS rfl rfl (SlE.rd (by assumption)) (by assumption) (by simp)) rfl rfl (.none rfl) ?_
          refine G_val (V_move rfl rfl) rfl rfl (.none rfl) ?_
          refine G_val (V_idxAddr rfl rfl rfl (SlE.rd (by assumption)) (by omega) (by omega)) rfl rfl (.none rfl) ?_
          refine G_val (V_loadS rfl rfl (SlE.rd (by assumption)) (by assumption) (by simp)) rfl rfl (.none rfl) ?_
          refine G_callv (k := 85) (.mk rfl rfl rfl rfl) rfl rfl (.none rfl) (indexn_call _ _ _ (by omega) (by omega)) ?_
          refine G_val (V_assign rfl rfl) rfl rfl (.none rfl) ?_
          refine G_end (X_then (G_seq (G_region ?_)))
          refine G_val (V_move rfl rfl) rfl rfl (.none rfl) ?_
          refine G_val (V_assign rfl rfl) rfl rfl (.none rfl) ?_
          refine G_end (X_then (G_seq (G_seq (G_region ?_))))
          refine G_val (V_move rfl rfl) rfl rfl (.none rfl) ?_
          refine G_val (V_geq rfl rfl rfl) rfl rfl (.none rfl) ?_
          refine G_end (X_then ?_)
          refine G_cond_t rfl (decide_eq_true (by omega)) ?_
          refine G_region ?_
          refine G_val (V_move rfl rfl) rfl rfl (.none rfl) ?_
          refine G_val (V_move rfl rfl) rfl rfl (.none rfl) ?_
          refine G_val (V_idxB1 rfl rfl rfl (by omega) (by omega)) rfl rfl (.none rfl) ?_
          refine G_val (V_load rfl rfl (Cell.own (.head _) (by assumption))) rfl rfl (.none rfl) ?_
          refine G_val (V_assign rfl rfl) rfl rfl (.none rfl) ?_
          refine G_end (X_then (G_seq (G_region ?_)))
          refine G_val (V_move rfl rfl) rfl rfl (.none rfl) ?_
          refine G_val (V_move rfl rfl) rfl rfl (.none rfl) ?_
          apply G_joinAnd 3 68 71 rfl
          · intro H1
            dsimp only [List.take]
            refine G_val (V_move rfl rfl) rfl rfl (.yes rfl rfl rfl rfl) ?_
            refine G_val (V_geq rfl rfl rfl) rfl rfl (.yes rfl rfl rfl rfl) ?_
            refine G_val (V_pick_t rfl rfl rfl) rfl rfl (.none rfl) ?_
            refine G_end ?_
            exact JQ_end 3 rfl rfl (by kernel_rfl)
          · intro H2
            dsimp only [List.take]
            refine G_stay (.no rfl rfl rfl rfl) rfl rfl ?_
            refine G_stay (.no rfl rfl rfl rfl) rfl rfl ?_
            refine G_val (V_pick_f rfl rfl rfl) rfl rfl (.none rfl) ?_
            refine G_end ?_
            exact JQ_end 3 rfl rfl (by kernel_rfl)
          dsimp only [List.drop]
          refine G_val (V_assign rfl rfl) rfl rfl (.none rfl) ?_
          refine G_end (X_then (G_region ?_))
          refine G_val (V_move rfl rfl) rfl rfl (.none rfl) ?_
          refine G_val (V_move rfl rfl) rfl rfl (.none rfl) ?_
          refine G_val (V_add_i64 rfl rfl rfl (by omega) (by omega)) rfl rfl (.none rfl) ?_
          refine G_val (V_assign rfl rfl) rfl rfl (.none rfl) ?_
          refine G_end (X_block (X_then (G_region ?_)))
          refine G_val (V_move rfl rfl) rfl rfl (.none rfl) ?_
          refine G_val (V_add_i64 rfl rfl rfl (by omega) (by omega)) rfl rfl (.none rfl) ?_
          refine G_val (V_assign rfl rfl) rfl rfl (.none rfl) ?_
          refine G_end (X_then ?_)
          rw [← hsome]
          exact G_again (j + 1, sm + encN (tget f1 rows[i].2.2.2[j])) hinv (by simp only; omega) ⟨rfl, rfl, rfl, rfl, rfl, rfl, rfl, rfl, rfl, trivial⟩ rfl rfl
      · have e5 : rows[i].2.2.2.take j = rows[i].2.2.2 := List.take_of_length_le (by omega)
        rw [e5] at hsm ⊢
        have hcond := lessB (p := rows[i].2.2) hsm
        cases hbt : better t own f1 rows[i].2.2 with
        | none =>
          rw [hbt] at hcond
          replace hcond : ((cost t f1 rows[i].2.2.2).isSome && (decide (encN (tget f1 rows[i].2.2.1) < 0) || decide (sm < encN (tget f1 rows[i].2.2.1)))) = false := hcond
          refine G_seq (G_seq (G_region ?_))
          refine G_val (V_move rfl rfl) rfl rfl (.none rfl) ?_
          refine G_val (V_fieldAddr rfl rfl (by decide)) rfl rfl (.none rfl) ?_
          refine G_val (V_load rfl rfl (Cell.own (.tail _ (.head _)) rfl)) rfl rfl (.none rfl) ?_
          refine G_val (V_move rfl rfl) rfl rfl (.none rfl) ?_
          refine G_val (V_idxAddr rfl rfl rfl (SlE.rd (by assumption)) (by omega) (by omega)) rfl rfl (.none rfl) ?_
          refine G_val (V_fieldAddrE rfl rfl (by assumption) (by omega) (by decide)) rfl rfl (.none rfl) ?_
          refine G_val (V_loadS rfl rfl (SlE.rd (by assumption)) (by assumption) (by simp)) rfl rfl (.none rfl) ?_
          refine G_val (V_lenS rfl rfl) rfl rfl (.none rfl) ?_
          refine G_val (V_lss rfl rfl rfl) rfl rfl (.none rfl) ?_
          refine G_end (X_then ?_)
          refine G_cond_f rfl (decide_eq_false (by omega)) ?_
          refine G_exit (X_then_exit (X_then_exit (X_block_hit (X_then (G_seq (G_region ?_))))))
          refine G_val (V_fieldAddr rfl rfl (by decide)) rfl rfl (.none rfl) ?_
          refine G_val (V_load rfl rfl (Cell.own (.tail _ (.head _)) rfl)) rfl rfl (.none rfl) ?_
          refine G_val (V_move rfl rfl) rfl rfl (.none rfl) ?_
          refine G_val (V_idxAddr rfl rfl rfl (SlE.rd (by assumption)) (by omega) (by omega)) rfl rfl (.none rfl) ?_
          refine G_val (V_fieldAddrE rfl rfl (by assumption) (by omega) (by decide)) rfl rfl (.none rfl) ?_
          refine G_val (V_loadS rfl rfl (SlE.rd (by assumption)) hyl (by simp)) rfl rfl (.none rfl) ?_
          refine G_callv (k := 85) (.mk rfl rfl rfl rfl) rfl rfl (.none rfl) (indexn_call _ _ _ (by omega) (by omega)) ?_
          refine G_val (V_assign rfl rfl) rfl rfl (.none rfl) ?_
          refine G_end (X_then (G_seq (G_region ?_)))
          refine G_val (V_move rfl rfl) rfl rfl (.none rfl) ?_
          refine G_val (V_move rfl rfl) rfl rfl (.none rfl) ?_
          apply G_joinAnd 14 83 97 rfl
          · intro H1
            dsimp only [List.take]
            refine G_val (V_move rfl rfl) rfl rfl (.yes rfl rfl rfl rfl) ?_
            refine G_val (V_move rfl rfl) rfl rfl (.yes rfl rfl rfl rfl) ?_
            refine G_val (V_idxB1 rfl rfl rfl (by omega) (by omega)) rfl rfl (.yes rfl rfl rfl rfl) ?_
            refine G_val (V_load rfl rfl (Cell.own (.head _) (by assumption))) rfl rfl (.yes rfl rfl rfl rfl) ?_
            refine G_val (V_lss rfl rfl rfl) rfl rfl (.yes rfl rfl rfl rfl) ?_
            refine G_val (V_move rfl rfl) rfl rfl (.yes rfl rfl rfl rfl) ?_
            apply G_joinOr 7 89 96 rfl
            · intro H2
              dsimp only [List.take]
              simp only [Bool.and_eq_true, Bool.or_eq_true, Bool.not_eq_true', Bool.not_eq_false', Bool.and_eq_false_iff, Bool.or_eq_false_iff, Bool.not_not, decide_eq_true_eq, decide_eq_false_iff_not, ne_eq, Decidable.not_not, Bool.decide_eq_true] at H2
              refine G_stay (.no rfl rfl rfl rfl) rfl rfl ?_
              refine G_stay (.no rfl rfl rfl rfl) rfl rfl ?_
              refine G_stay (.no rfl rfl rfl rfl) rfl rfl ?_
              refine G_stay (.no rfl rfl rfl rfl) rfl rfl ?_
              refine G_stay (.no rfl rfl rfl rfl) rfl rfl ?_
              refine G_stay (.no rfl rfl rfl rfl) rfl rfl ?_
              refine G_val (V_pick_t rfl rfl rfl) rfl rfl (.yes rfl rfl rfl rfl) ?_
              refine G_end ?_
              exact JQ_end 7 rfl rfl (by kernel_rfl)
            · intro H3
              dsimp only [List.take]
              simp only [Bool.and_eq_true, Bool.or_eq_true, Bool.not_eq_true', Bool.not_eq_false', Bool.and_eq_false_iff, Bool.or_eq_false_iff, Bool.not_not, decide_eq_true_eq, decide_eq_false_iff_not, ne_eq, Decidable.not_not, Bool.decide_eq_true] at H3
              refine G_val (V_move rfl rfl) rfl rfl (.yes rfl rfl rfl rfl) ?_
              refine G_val (V_move rfl rfl) rfl rfl (.yes rfl rfl rfl rfl) ?_
              refine G_val (V_move rfl rfl) rfl rfl (.yes rfl rfl rfl rfl) ?_
              refine G_val (V_idxB1 rfl rfl rfl (by omega) (by omega)) rfl rfl (.yes rfl rfl rfl rfl) ?_
              refine G_val (V_load rfl rfl (Cell.own (.head _) (by assumption))) rfl rfl (.yes rfl rfl rfl rfl) ?_
              refine G_val (V_lss rfl rfl rfl) rfl rfl (.yes rfl rfl rfl rfl) ?_
              refine G_val (V_pick_f rfl rfl rfl) rfl rfl (.yes rfl rfl rfl rfl) ?_
              refine G_end ?_
              exact JQ_end 7 rfl rfl (by kernel_rfl)
            dsimp only [List.drop]
            refine G_val (V_pick_t rfl rfl rfl) rfl rfl (.none rfl) ?_
            refine G_end ?_
            exact JQ_end 8 rfl rfl (by kernel_rfl)
          · intro H4
            dsimp only [List.take]
            refine G_stay (.no rfl rfl rfl rfl) rfl rfl ?_
            refine G_stay (.no rfl rfl rfl rfl) rfl rfl ?_
            refine G_stay (.no rfl rfl rfl rfl) rfl rfl ?_
            refine G_stay (.no rfl rfl rfl rfl) rfl rfl ?_
            refine G_stay (.no rfl rfl rfl rfl) rfl rfl ?_
            refine G_stay (.no rfl rfl rfl rfl) rfl rfl ?_
            refine G_stay (.un rfl rfl rfl rfl) rfl rfl ?_
            refine G_stay (.un rfl rfl rfl rfl) rfl rfl ?_
            refine G_stay (.un rfl rfl rfl rfl) rfl rfl ?_
            refine G_stay (.un rfl rfl rfl rfl) rfl rfl ?_
            refine G_stay (.un rfl rfl rfl rfl) rfl rfl ?_
            refine G_stay (.un rfl rfl rfl rfl) rfl rfl ?_
            refine G_stay (.no rfl rfl rfl rfl) rfl rfl ?_
            refine G_val (V_pick_f rfl rfl rfl) rfl rfl (.none rfl) ?_
            refine G_end ?_
            exact JQ_end 14 rfl rfl (by kernel_rfl)
          dsimp only [List.drop]
          refine G_end (X_then ?_)
          refine G_cond_f rfl (by assumption) ?_
          refine G_skip (X_block (X_then (G_region ?_)))
          refine G_val (V_move rfl rfl) rfl rfl (.none rfl) ?_
          refine G_val (V_add_i64 rfl rfl rfl (by omega) (by omega)) rfl rfl (.none rfl) ?_
          refine G_val (V_assign rfl rfl) rfl rfl (.none rfl) ?_
          refine G_end (X_then ?_)
          exact G_again (i + 1, f1, ch) ⟨hlt, hi1, hm, stay hbt⟩ (by simp only; omega) ⟨rfl, rfl, rfl, rfl, rfl, rfl, trivial⟩ rfl rfl
        | some v =>
          rw [hbt] at hcond
          replace hcond : ((cost t f1 rows[i].2.2.2).isSome && (decide (encN (tget f1 rows[i].2.2.1) < 0) || decide (sm < encN (tget f1 rows[i].2.2.1)))) = true := hcond
          obtain ⟨hu1, hu2, _⟩ := hi1.upd hw hs hp hbt
          have hle : meas f1 ≤ meas f := by
            cases ch with
            | true => exact Nat.le_of_lt (hm rfl)
            | false => rw [(hall rfl).1]; exact Nat.le_refl _
          obtain ⟨c, hc1, hc2, _⟩ := better_iff.1 hbt
          have hcond2 : (decide (encN (tget f1 rows[i].2.2.1) < 0) || decide (sm < encN (tget f1 rows[i].2.2.1))) = true := by rw [Bool.and_eq_true] at hcond; exact hcond.2
          have hsv : sm = (v : Int) := by rw [hsm c hc1, hc2]; omega
          refine G_seq (G_seq (G_region ?_))
          refine G_val (V_move rfl rfl) rfl rfl (.none rfl) ?_
          refine G_val (V_fieldAddr rfl rfl (by decide)) rfl rfl (.none rfl) ?_
          refine G_val (V_load rfl rfl (Cell.own (.tail _ (.head _)) rfl)) rfl rfl (.none rfl) ?_
          refine G_val (V_move rfl rfl) rfl rfl (.none rfl) ?_
          refine G_val (V_idxAddr rfl rfl rfl (SlE.rd (by assumption)) (by omega) (by omega)) rfl rfl (.none rfl) ?_
          refine G_val (V_fieldAddrE rfl rfl (by assumption) (by omega) (by decide)) rfl rfl (.none rfl) ?_
          refine G_val (V_loadS rfl rfl (SlE.rd (by assumption)) (by assumption) (by simp)) rfl rfl (.none rfl) ?_
          refine G_val (V_lenS rfl rfl) rfl rfl (.none rfl) ?_
          refine G_val (V_lss rfl rfl rfl) rfl rfl (.none rfl) ?_
          refine G_end (X_then ?_)
          refine G_cond_f rfl (decide_eq_false (by omega)) ?_
          refine G_exit (X_then_exit (X_then_exit (X_block_hit (X_then (G_seq (G_region ?_))))))
          refine G_val (V_fieldAddr rfl rfl (by decide)) rfl rfl (.none rfl) ?_
          refine G_val (V_load rfl rfl (Cell.own (.tail _ (.head _)) rfl)) rfl rfl (.none rfl) ?_
          refine G_val (V_move rfl rfl) rfl rfl (.none rfl) ?_
          refine G_val (V_idxAddr rfl rfl rfl (SlE.rd (by assumption)) (by omega) (by omega)) rfl rfl (.none rfl) ?_
          refine G_val (V_fieldAddrE rfl rfl (by assumption) (by omega) (by decide)) rfl rfl (.none rfl) ?_
          refine G_val (V_loadS rfl rfl (SlE.rd (by assumption)) hyl (by simp)) rfl rfl (.none rfl) ?_
          refine G_callv (k := 85) (.mk rfl rfl rfl rfl) rfl rfl (.none rfl) (indexn_call _ _ _ (by omega) (by omega)) ?_
          refine G_val (V_assign rfl rfl) rfl rfl (.none rfl) ?_
          refine G_end (X_then (G_seq (G_region ?_)))
          refine G_val (V_move rfl rfl) rfl rfl (.none rfl) ?_
          refine G_val (V_move rfl rfl) rfl rfl (.none rfl) ?_
          refine G.bool_t 83 rfl (by simp [*]; done) ?_
          refine G_val (V_move rfl rfl) rfl rfl (.yes rfl rfl rfl rfl) ?_
          refine G_val (V_move rfl rfl) rfl rfl (.yes rfl rfl rfl rfl) ?_
          refine G_val (V_idxB1 rfl rfl rfl (by omega) (by omega)) rfl rfl (.yes rfl rfl rfl rfl) ?_
          refine G_val (V_load rfl rfl (Cell.own (.head _) (by assumption))) rfl rfl (.yes rfl rfl rfl rfl) ?_
          refine G_val (V_lss rfl rfl rfl) rfl rfl (.yes rfl rfl rfl rfl) ?_
          refine G_val (V_move rfl rfl) rfl rfl (.yes rfl rfl rfl rfl) ?_
          apply G_joinOr 7 89 96 rfl
          · intro H1
            dsimp only [List.take]
            simp only [Bool.and_eq_true, Bool.or_eq_true, Bool.not_eq_true', Bool.not_eq_false', Bool.and_eq_false_iff, Bool.or_eq_false_iff, Bool.not_not, decide_eq_true_eq, decide_eq_false_iff_not, ne_eq, Decidable.not_not, Bool.decide_eq_true] at H1
            refine G_stay (.no rfl rfl rfl rfl) rfl rfl ?_
            refine G_stay (.no rfl rfl rfl rfl) rfl rfl ?_
            refine G_stay (.no rfl rfl rfl rfl) rfl rfl ?_
            refine G_stay (.no rfl rfl rfl rfl) rfl rfl ?_
            refine G_stay (.no rfl rfl rfl rfl) rfl rfl ?_
            refine G_stay (.no rfl rfl rfl rfl) rfl rfl ?_
            refine G_val (V_pick_t rfl rfl rfl) rfl rfl (.yes rfl rfl rfl rfl) ?_
            refine G_end ?_
            exact JQ_end 7 rfl rfl (by kernel_rfl)
          · intro H2
            dsimp only [List.take]
            simp only [Bool.and_eq_true, Bool.or_eq_true, Bool.not_eq_true', Bool.not_eq_false', Bool.and_eq_false_iff, Bool.or_eq_false_iff, Bool.not_not, decide_eq_true_eq, decide_eq_false_iff_not, ne_eq, Decidable.not_not, Bool.decide_eq_true] at H2
            refine G_val (V_move rfl rfl) rfl rfl (.yes rfl rfl rfl rfl) ?_
            refine G_val (V_move rfl rfl) rfl rfl (.yes rfl rfl rfl rfl) ?_
            refine G_val (V_move rfl rfl) rfl rfl (.yes rfl rfl rfl rfl) ?_
            refine G_val (V_idxB1 rfl rfl rfl (by omega) (by omega)) rfl rfl (.yes rfl rfl rfl rfl) ?_
            refine G_val (V_load rfl rfl (Cell.own (.head _) (by assumption))) rfl rfl (.yes rfl rfl rfl rfl) ?_
            refine G_val (V_lss rfl rfl rfl) rfl rfl (.yes rfl rfl rfl rfl) ?_
            refine G_val (V_pick_f rfl rfl rfl) rfl rfl (.yes rfl rfl rfl rfl) ?_
            refine G_end ?_
            exact JQ_end 7 rfl rfl (by kernel_rfl)
          dsimp only [List.drop]
          refine G_val (V_pick_t rfl rfl rfl) rfl rfl (.none rfl) ?_
          refine G_end (X_then ?_)
          refine G_cond_t rfl (by assumption) ?_
          refine G_region ?_
          refine G_val (V_move rfl rfl) rfl rfl (.none rfl) ?_
          refine G_val (V_move rfl rfl) rfl rfl (.none rfl) ?_
          refine G_val (V_move rfl rfl) rfl rfl (.none rfl) ?_
          refine G_val (V_idxB1 rfl rfl rfl (by omega) (by omega)) rfl rfl (.none rfl) ?_
          refine G_storeB rfl rfl rfl rfl rfl rfl (.none rfl) (.head _ _ _) (by omega) ?_
          refine G_val (V_assign rfl rfl) rfl rfl (.none rfl) ?_
          refine G_end (X_block (X_then (G_region ?_)))
          refine G_val (V_move rfl rfl) rfl rfl (.none rfl) ?_
          refine G_val (V_add_i64 rfl rfl rfl (by omega) (by omega)) rfl rfl (.none rfl) ?_
          refine G_val (V_assign rfl rfl) rfl rfl (.none rfl) ?_
          refine G_end (X_then ?_)
          rw [hsv, tabR_set f1 rows[i].2.2 v]
          exact G_again (i + 1, upd f1 rows[i].2.2 v, true) ⟨hlt, hu1, fun _ => Nat.lt_of_lt_of_le hu2 hle, fun h => (by cases h)⟩ (by simp only; omega) ⟨rfl, rfl, rfl, rfl, rfl, rfl, trivial⟩ rfl rfl
    · refine G_seq ?_
      refine G_seq (G_region ?_)
      refine G_val (V_move rfl rfl) rfl rfl (.none rfl) ?_
      refine G_val (V_fieldAddr rfl rfl (by decide)) rfl rfl (.none rfl) ?_
      refine G_val (V_load rfl rfl (Cell.own (.tail _ (.head _)) rfl)) rfl rfl (.none rfl) ?_
      refine G_val (V_lenS rfl rfl) rfl rfl (.none rfl) ?_
      refine G_val (V_lss rfl rfl rfl) rfl rfl (.none rfl) ?_
      refine G_end (X_then ?_)
      refine G_cond_f rfl (decide_eq_false (by omega)) ?_
      refine G_exit (X_then_exit (X_then_exit (X_block_hit (X_block (X_then ?_)))))
      refine G_again (f1, ch) ⟨hi1, fun h p hp => ?_⟩ ?_ ⟨rfl, rfl, rfl, rfl, rfl, trivial⟩ rfl rfl
      · obtain ⟨h1, h2⟩ := hall h
        subst h1
        rw [← hrows] at hp
        obtain ⟨x, hx, rfl⟩ := List.mem_map.1 hp
        obtain ⟨k, hk, rfl⟩ := List.getElem_of_mem hx
        exact h2 k (by omega) hk
      · cases ch with
        | true =>
          have := hm rfl
          simp only [if_true]
          omega
        | false =>
          rw [(hall rfl).1]
          simp
end
end Go.Proofs.Ytaoinojdijbhaaa
set_option linter.unusedSimpArgs false
set_option linter.unusedVariables false
set_option maxHeartbeats 2000000
set_option maxRecDepth 20000
namespace Go.Proofs.Ytaoinojdijbhaaa
open Go.RowKit
def firstF (l : List Bool) : Option Nat := l.findIdx? fun b => !b
theorem firstF_some {l : List Bool} {i : Nat} (hi : i < l.length) (h : l[i] = false) (hp : ∀ k, k < i → (hk : k < l.length) → l[k] = true) : firstF l = some i := by
  rw [firstF, List.findIdx?_eq_some_iff_getElem]
  exact ⟨hi, by simp [h], fun j hj => by simp [hp j hj (by omega)]⟩
theorem firstF_none {l : List Bool} (hp : ∀ k, k < l.length → (hk : k < l.length) → l[k] = true) : firstF l = none := by
  rw [firstF, List.findIdx?_eq_none_iff]
  intro x hx
  obtain ⟨k, hk, rfl⟩ := List.getElem_of_mem hx
  simp [hp k hk hk]
def redM (g : Gr) : Int × Int := if gcheck g = 0 then (match firstF (yieldsM g) with
  | some i => ((i : Int), 16)
  | none => match firstF (reachM g) with
    | some i => ((i : Int), 15)
    | none => (0, 0)) else (0, gcheck g)
def belowM (g : Gr) (m : Int) : List Bool := reachL g.prods g.names.length (16 + m)
def belowE (g : Gr) (m : Int) : Int := if gcheck g = 0 then (if m < 0 ∨ (g.names.length : Int) ≤ m then 2 else 0) else gcheck g
def belowL (g : Gr) (m : Int) : List Bool := if belowE g m = 0 then belowM g m else []
def emptyM (g : Gr) (r : List Int) : Bool × Int := if gcheck g = 0 then (if r.any (fun s => !termB g s && !ntB g s) = true then (false, 14) else (r.all (goodB false (nullM g)), 0)) else (false, gcheck g)
theorem bools_at {l : List Bool} {i : Nat} (h : i < l.length) : (bools l)[i]? = some (.bool l[i]) := by simp [bools, h]
section
variable (E : Env) (L : List Res)
theorem Below_call (gv : Value) (g : Gr) (hg : GrE E gv g) (hl : Light g) (m : Int) : CallS Try.prog 48 #[gv, .int .i64 m] E L (fun r E' L' => ∃ p c, r = .tuple #[.slice p (belowL g m).length c, .int .i64 (belowE g m)] ∧ SlE E' 1 p (belowL g m).length (bools (belowL g m)) ∧ L' = L) := by
  have hg0 := hg
  obtain ⟨tp, tc, np, nc, pp, pc, rfl, ht, hn, ⟨rows, hrows, hps, hre⟩, k1, k2, k3⟩ := hg
  have q2 := hl.n
  have hnil := @SlE.nil E 1
  refine CallS.intro (l := [_, _]) _ Try.func48 rfl Try.ntmps48 rfl ?_
  by_cases hv : gcheck g = 0
  · by_cases hm : m < 0 ∨ (g.names.length : Int) ≤ m
    · have he : belowE g m = 2 := by rw [belowE, if_pos hv, if_pos hm]
      rw [belowL, if_neg (by omega), he]
      refine G_seq (G_region ?_)
      (refine G_boxA rfl rfl rfl rfl (.none rfl) ?_; intro b2)
      refine G_val (V_assign rfl rfl) rfl rfl (.none rfl) ?_
      refine G_val (V_assign rfl rfl) rfl rfl (.none rfl) ?_
      refine G_end (X_then (G_seq (G_region ?_)))
      refine G_val (V_loadA rfl rfl (Cells.own (.head _)) rfl) rfl rfl (.none rfl) ?_
      refine G_callv (k := 67) (.mk rfl rfl rfl rfl) rfl rfl (.none rfl) (GCheck_call _ _ _ _ (by assumption) (by assumption)) ?_
      refine G_val (V_assign rfl rfl) rfl rfl (.none rfl) ?_
      refine G_end (X_then (G_seq (G_seq (G_region ?_))))
      refine G_val (V_move rfl rfl) rfl rfl (.none rfl) ?_
      refine G_val (V_eql rfl rfl rfl) rfl rfl (.none rfl) ?_
      refine G_val (V_move rfl rfl) rfl rfl (.none rfl) ?_
      refine G.bool_t 11 rfl (decide_eq_true (by omega)) ?_
      refine G_val (V_move rfl rfl) rfl rfl (.yes rfl rfl rfl rfl) ?_
      refine G_val (V_lss rfl rfl rfl) rfl rfl (.yes rfl rfl rfl rfl) ?_
      refine G_val (V_move rfl rfl) rfl rfl (.yes rfl rfl rfl rfl) ?_
      apply G_joinOr 6 14 20 rfl
      · intro H1
        dsimp only [List.take]
        simp only [Bool.and_eq_true, Bool.or_eq_true, Bool.not_eq_true', Bool.not_eq_false', Bool.and_eq_false_iff, Bool.or_eq_false_iff, Bool.not_not, decide_eq_true_eq, decide_eq_false_iff_not, ne_eq, Decidable.not_not, Bool.decide_eq_true] at H1
        refine G_stay (.no rfl rfl rfl rfl) rfl rfl ?_
        refine G_stay (.no rfl rfl rfl rfl) rfl rfl ?_
        refine G_stay (.no rfl rfl rfl rfl) rfl rfl ?_
        refine G_stay (.no rfl rfl rfl rfl) rfl rfl ?_
        refine G_stay (.no rfl rfl rfl rfl) rfl rfl ?_
        refine G_val (V_pick_t rfl rfl rfl) rfl rfl (.yes rfl rfl rfl rfl) ?_
        refine G_end ?_
        exact JQ_end 6 rfl rfl (by kernel_rfl)
      · intro H2
        dsimp only [List.take]
        simp only [Bool.and_eq_true, Bool.or_eq_true, Bool.not_eq_true', Bool.not_eq_false', Bool.and_eq_false_iff, Bool.or_eq_false_iff, Bool.not_not, decide_eq_true_eq, decide_eq_false_iff_not, ne_eq, Decidable.not_not, Bool.decide_eq_true] at H2
        refine G_val (V_move rfl rfl) rfl rfl (.yes rfl rfl rfl rfl) ?_
        refine G_val (V_fieldAddr rfl rfl (by decide)) rfl rfl (.yes rfl rfl rfl rfl) ?_
        refine G_val (V_load rfl rfl (Cell.own (.head _) rfl)) rfl rfl (.yes rfl rfl rfl rfl) ?_
        refine G_val (V_lenS rfl rfl) rfl rfl (.yes rfl rfl rfl rfl) ?_
        refine G_val (V_geq rfl rfl rfl) rfl rfl (.yes rfl rfl rfl rfl) ?_
        refine G_val (V_pick_f rfl rfl rfl) rfl rfl (.yes rfl rfl rfl rfl) ?_
        refine G_end ?_
        exact JQ_end 6 rfl rfl (by kernel_rfl)
      dsimp only [List.drop]
      refine G_val (V_pick_t rfl rfl rfl) rfl rfl (.none rfl) ?_
      refine G_end (X_then ?_)
      refine G_cond_t rfl (by simp [*]; done) ?_
      refine G_region ?_
      refine G_val (V_assign rfl rfl) rfl rfl (.none rfl) ?_
      refine G_end (X_then (G_seq (G_seq (G_region ?_))))
      refine G_val (V_move rfl rfl) rfl rfl (.none rfl) ?_
      refine G_val (V_neq rfl rfl rfl) rfl rfl (.none rfl) ?_
      refine G_end (X_then ?_)
      refine G_cond_t rfl (by kernel_rfl) ?_
      refine G_seq (G_region ?_)
      refine G_val (V_move rfl rfl) rfl rfl (.none rfl) ?_
      refine G_val (V_assign rfl rfl) rfl rfl (.none rfl) ?_
      refine G_val (V_assign rfl rfl) rfl rfl (.none rfl) ?_
      refine G_end (X_then (G_ret (X_then_ret ?_)))
      refine G_leaveS (.drop _ (.nil _)) (by exact (.cons (.tmp rfl) (.cons (.tmp rfl) (.nil)))) rfl ?_ ?_
      · exact (.refl _)
      exact ⟨_, ⟨_, ⟨rfl, ⟨(by assumption), rfl⟩⟩⟩⟩
    · have he : belowE g m = 0 := by rw [belowE, if_pos hv, if_neg hm]
      have hva := valid_of hv
      have hw := hva.wf
      have hlen : (belowM g m).length = g.names.length := reachL_len hw (by omega) (by omega)
      rw [belowL, if_pos he, he, hlen, belowM]
      refine G_seq (G_region ?_)
      (refine G_boxA rfl rfl rfl rfl (.none rfl) ?_; intro b2)
      refine G_val (V_assign rfl rfl) rfl rfl (.none rfl) ?_
      refine G_val (V_assign rfl rfl) rfl rfl (.none rfl) ?_
      refine G_end (X_then (G_seq (G_region ?_)))
      refine G_val (V_loadA rfl rfl (Cells.own (.head _)) rfl) rfl rfl (.none rfl) ?_
      refine G_callv (k := 67) (.mk rfl rfl rfl rfl) rfl rfl (.none rfl) (GCheck_call _ _ _ _ (by assumption) (by assumption)) ?_
      refine G_val (V_assign rfl rfl) rfl rfl (.none rfl) ?_
      refine G_end (X_then (G_seq (G_seq (G_region ?_))))
      refine G_val (V_move rfl rfl) rfl rfl (.none rfl) ?_
      refine G_val (V_eql rfl rfl rfl) rfl rfl (.none rfl) ?_
      refine G_val (V_move rfl rfl) rfl rfl (.none rfl) ?_
      refine G.bool_t 11 rfl (decide_eq_true (by omega)) ?_
      refine G_val (V_move rfl rfl) rfl rfl (.yes rfl rfl rfl rfl) ?_
      refine G_val (V_lss rfl rfl rfl) rfl rfl (.yes rfl rfl rfl rfl) ?_
      refine G_val (V_move rfl rfl) rfl rfl (.yes rfl rfl rfl rfl) ?_
      refine G.bool_f 14 rfl (decide_eq_false (by omega)) ?_
      refine G_val (V_move rfl rfl) rfl rfl (.yes rfl rfl rfl rfl) ?_
      refine G_val (V_fieldAddr rfl rfl (by decide)) rfl rfl (.yes rfl rfl rfl rfl) ?_
      refine G_val (V_load rfl rfl (Cell.own (.head _) rfl)) rfl rfl (.yes rfl rfl rfl rfl) ?_
      refine G_val (V_lenS rfl rfl) rfl rfl (.yes rfl rfl rfl rfl) ?_
      refine G_val (V_geq rfl rfl rfl) rfl rfl (.yes rfl rfl rfl rfl) ?_
      refine G_val (V_pick_f rfl rfl rfl) rfl rfl (.yes rfl rfl rfl rfl) ?_
      refine G_val (V_pick_t rfl rfl rfl) rfl rfl (.none rfl) ?_
      refine G_end (X_then ?_)
      refine G_cond_f rfl (decide_eq_false (by omega)) ?_
      refine G_skip (X_then (G_seq (G_seq (G_region ?_))))
      refine G_val (V_move rfl rfl) rfl rfl (.none rfl) ?_
      refine G_val (V_neq rfl rfl rfl) rfl rfl (.none rfl) ?_
      refine G_end (X_then ?_)
      refine G_cond_f rfl (decide_eq_false (by omega)) ?_
      refine G_skip (X_then (G_seq (G_region ?_)))
      refine G_val (V_loadA rfl rfl (Cells.own (.head _)) rfl) rfl rfl (.none rfl) ?_
      refine G_val (V_move rfl rfl) rfl rfl (.none rfl) ?_
      refine G_val (V_add_i64 rfl rfl rfl (by omega) (by omega)) rfl rfl (.none rfl) ?_
      refine G_call (k := 83) (.mk rfl rfl rfl rfl) rfl rfl (.none rfl) (reached_call _ _ _ _ (by assumption) (by assumption) _ (by assumption) (by omega) (by omega)) ?_
      rintro r1 E2 L3 hE4 ⟨z5, ⟨rfl, ⟨Z6, rfl⟩⟩⟩
      replace hg0 := hg0.mono hE4
      replace ht := ht.mono hE4
      replace hn := hn.mono hE4
      replace hps := hps.mono hE4
      replace hnil := hnil.mono hE4
      refine G_val (V_assign rfl rfl) rfl rfl (.none rfl) ?_
      refine G_val (V_assign rfl rfl) rfl rfl (.none rfl) ?_
      refine G_end (X_then (G_ret ?_))
      refine G_leaveS (.drop _ (.nil _)) (by exact (.cons (.tmp rfl) (.cons (.tmp rfl) (.nil)))) rfl ?_ ?_
      · exact hE4
      exact ⟨_, ⟨_, ⟨rfl, ⟨(by assumption), rfl⟩⟩⟩⟩
  · have he : belowE g m = gcheck g := by rw [belowE, if_neg hv]
    rw [belowL, if_neg (by omega), he]
    refine G_seq (G_region ?_)
    (refine G_boxA rfl rfl rfl rfl (.none rfl) ?_; intro b2)
    refine G_val (V_assign rfl rfl) rfl rfl (.none rfl) ?_
    refine G_val (V_assign rfl rfl) rfl rfl (.none rfl) ?_
    refine G_end (X_then (G_seq (G_region ?_)))
    refine G_val (V_loadA rfl rfl (Cells.own (.head _)) rfl) rfl rfl (.none rfl) ?_
    refine G_callv (k := 67) (.mk rfl rfl rfl rfl) rfl rfl (.none rfl) (GCheck_call _ _ _ _ (by assumption) (by assumption)) ?_
    refine G_val (V_assign rfl rfl) rfl rfl (.none rfl) ?_
    refine G_end (X_then (G_seq (G_seq (G_region ?_))))
    refine G_val (V_move rfl rfl) rfl rfl (.none rfl) ?_
    refine G_val (V_eql rfl rfl rfl) rfl rfl (.none rfl) ?_
    refine G_val (V_move rfl rfl) rfl rfl (.none rfl) ?_
    refine G.bool_f 11 rfl (decide_eq_false (by omega)) ?_
    refine G_stay (.no rfl rfl rfl rfl) rfl rfl ?_
    refine G_stay (.no rfl rfl rfl rfl) rfl rfl ?_
    refine G_stay (.no rfl rfl rfl rfl) rfl rfl ?_
    refine G_stay (.un rfl rfl rfl rfl) rfl rfl ?_
    refine G_stay (.un rfl rfl rfl rfl) rfl rfl ?_
    refine G_stay (.un rfl rfl rfl rfl) rfl rfl ?_
    refine G_stay (.un rfl rfl rfl rfl) rfl rfl ?_
    refine G_stay (.un rfl rfl rfl rfl) rfl rfl ?_
    refine G_stay (.no rfl rfl rfl rfl) rfl rfl ?_
    refine G_val (V_pick_f rfl rfl rfl) rfl rfl (.none rfl) ?_
    refine G_end (X_then ?_)
    refine G_cond_f rfl rfl ?_
    refine G_skip (X_then (G_seq (G_seq (G_region ?_))))
    refine G_val (V_move rfl rfl) rfl rfl (.none rfl) ?_
    refine G_val (V_neq rfl rfl rfl) rfl rfl (.none rfl) ?_
    refine G_end (X_then ?_)
    refine G_cond_t rfl (decide_eq_true (by omega)) ?_
    refine G_seq (G_region ?_)
    refine G_val (V_move rfl rfl) rfl rfl (.none rfl) ?_
    refine G_val (V_assign rfl rfl) rfl rfl (.none rfl) ?_
    refine G_val (V_assign rfl rfl) rfl rfl (.none rfl) ?_
    refine G_end (X_then (G_ret (X_then_ret ?_)))
    refine G_leaveS (.drop _ (.nil _)) (by exact (.cons (.tmp rfl) (.cons (.tmp rfl) (.nil)))) rfl ?_ ?_
    · exact (.refl _)
    exact ⟨_, ⟨_, ⟨rfl, ⟨(by assumption), rfl⟩⟩⟩⟩
theorem Reduced_call (gv : Value) (g : Gr) (hg : GrE E gv g) (hl : Light g) : CallV Try.prog 44 #[gv] E L (.tuple #[.int .i64 (redM g).1, .int .i64 (redM g).2]) := by
  have hg0 := hg
  obtain ⟨tp, tc, np, nc, pp, pc, rfl, ht, hn, ⟨rows, hrows, hps, hre⟩, k1, k2, k3⟩ := hg
  have q2 := hl.n
  refine CallS.toV (CallS.intro (l := [_]) _ Try.func44 rfl Try.ntmps44 rfl ?_)
  by_cases hv : gcheck g = 0
  · have hva := valid_of hv
    have hw := hva.wf
    have hst := hva.start
    have hy := yieldsM_len hva
    have hr := reachM_len hva
    have e := okL_pos hv (yieldsM g)
    have e2 : redM g = (match firstF (yieldsM g) with
      | some i => ((i : Int), 16)
      | none => match firstF (reachM g) with
        | some i => ((i : Int), 15)
        | none => (0, 0)) := by rw [redM, if_pos hv]
    refine G_seq (G_region ?_)
    (refine G_boxA rfl rfl rfl rfl (.none rfl) ?_; intro b1)
    refine G_val (V_assign rfl rfl) rfl rfl (.none rfl) ?_
    refine G_val (V_assign rfl rfl) rfl rfl (.none rfl) ?_
    refine G_end (X_then (G_seq (G_region ?_)))
    refine G_val (V_loadA rfl rfl (Cells.own (.head _)) rfl) rfl rfl (.none rfl) ?_
    refine G_call (k := 33) (.mk rfl rfl rfl rfl) rfl rfl (.none rfl) (Yields_call _ _ _ _ (by assumption) (by assumption)) ?_
    rintro r1 E2 L3 hE4 ⟨z5, ⟨z6, ⟨rfl, ⟨Z7, rfl⟩⟩⟩⟩
    replace hg0 := hg0.mono hE4
    replace ht := ht.mono hE4
    replace hn := hn.mono hE4
    replace hps := hps.mono hE4
    refine G_val (V_move rfl rfl) rfl rfl (.none rfl) ?_
    refine G_val (V_extract rfl rfl rfl) rfl rfl (.none rfl) ?_
    refine G_val (V_extract rfl rfl rfl) rfl rfl (.none rfl) ?_
    refine G_val (V_assign rfl rfl) rfl rfl (.none rfl) ?_
    refine G_val (V_assign rfl rfl) rfl rfl (.none rfl) ?_
    refine G_end (X_then (G_seq (G_seq (G_region ?_))))
    refine G_val (V_move rfl rfl) rfl rfl (.none rfl) ?_
    refine G_val (V_neq rfl rfl rfl) rfl rfl (.none rfl) ?_
    refine G_end (X_then ?_)
    refine G_cond_f rfl (decide_eq_false (by omega)) ?_
    refine G_skip (X_then (G_seq (G_seq (G_region ?_))))
    refine G_val (V_move rfl rfl) rfl rfl (.none rfl) ?_
    refine G_val (V_lenS rfl rfl) rfl rfl (.none rfl) ?_
    refine G_val (V_move rfl rfl) rfl rfl (.none rfl) ?_
    refine G_end (X_then (G_block ?_))
    rw [e, hy] at Z7 ⊢
    refine G_loop (α := Nat) (fun i => [(1, .pointer (some ⟨b1, 0, none⟩)), (17, .slice z5 g.names.length z6), (18, .int .i64 g.names.length), (19, .int .i64 i)]) (fun _ => E2) (fun _ => GB b1 g tp tc np nc pp pc :: L)
      (fun i => i ≤ g.names.length ∧ ∀ k, k < i → (hk : k < (yieldsM g).length) → (yieldsM g)[k] = true) (fun i => g.names.length - i) 0 ⟨Nat.zero_le _, fun k hk => by cases hk⟩ ⟨rfl, rfl, rfl, rfl, trivial⟩ rfl rfl ?_
    rintro i ⟨hi, hall⟩
    by_cases hlt : i < g.names.length
    · have hlt2 : i < (yieldsM g).length := by omega
      have hb := bools_at hlt2
      cases hc : (yieldsM g)[i] with
      | false =>
        rw [e2, firstF_some hlt2 hc hall]
        refine G_seq (G_region ?_)
        refine G_val (V_lss rfl rfl rfl) rfl rfl (.none rfl) ?_
        refine G_end (X_then (G_seq ?_))
        refine G_cond_t rfl (decide_eq_true (by omega)) ?_
        refine G_skip (X_then (G_seq (G_block (G_seq (G_region ?_)))))
        refine G_val (V_move rfl rfl) rfl rfl (.none rfl) ?_
        refine G_val (V_idxAddr rfl rfl rfl (SlE.rd (by assumption)) (by omega) (by omega)) rfl rfl (.none rfl) ?_
        refine G_val (V_loadS rfl rfl (SlE.rd (by assumption)) (by assumption) (by simp)) rfl rfl (.none rfl) ?_
        refine G_val (V_assign rfl rfl) rfl rfl (.none rfl) ?_
        refine G_val (V_assign rfl rfl) rfl rfl (.none rfl) ?_
        refine G_end (X_then (G_seq (G_region ?_)))
        refine G_val (V_move rfl rfl) rfl rfl (.none rfl) ?_
        refine G_val (V_not rfl rfl) rfl rfl (.none rfl) ?_
        refine G_end (X_then ?_)
        refine G_cond_t rfl (by simp [*]; done) ?_
        refine G_seq (G_region ?_)
        refine G_val (V_move rfl rfl) rfl rfl (.none rfl) ?_
        refine G_val (V_assign rfl rfl) rfl rfl (.none rfl) ?_
        refine G_val (V_assign rfl rfl) rfl rfl (.none rfl) ?_
        refine G_end (X_then (G_ret (X_block_ret (X_then_ret (X_then_ret (X_block_ret (X_then_ret ?_)))))))
        refine G_leaveS (.drop _ (.nil _)) (by exact (.cons (.tmp rfl) (.cons (.tmp rfl) (.nil)))) rfl ?_ ?_
        · exact hE4
        exact ⟨rfl, rfl⟩
      | true =>
        refine G_seq (G_region ?_)
        refine G_val (V_lss rfl rfl rfl) rfl rfl (.none rfl) ?_
        refine G_end (X_then (G_seq ?_))
        refine G_cond_t rfl (decide_eq_true (by omega)) ?_
        refine G_skip (X_then (G_seq (G_block (G_seq (G_region ?_)))))
        refine G_val (V_move rfl rfl) rfl rfl (.none rfl) ?_
        refine G_val (V_idxAddr rfl rfl rfl (SlE.rd (by assumption)) (by omega) (by omega)) rfl rfl (.none rfl) ?_
        refine G_val (V_loadS rfl rfl (SlE.rd (by assumption)) (by assumption) (by simp)) rfl rfl (.none rfl) ?_
        refine G_val (V_assign rfl rfl) rfl rfl (.none rfl) ?_
        refine G_val (V_assign rfl rfl) rfl rfl (.none rfl) ?_
        refine G_end (X_then (G_seq (G_region ?_)))
        refine G_val (V_move rfl rfl) rfl rfl (.none rfl) ?_
        refine G_val (V_not rfl rfl) rfl rfl (.none rfl) ?_
        refine G_end (X_then ?_)
        refine G_cond_f rfl (by simp [*]; done) ?_
        refine G_skip (X_block (X_then (G_region ?_)))
        refine G_val (V_add_i64 rfl rfl rfl (by omega) (by omega)) rfl rfl (.none rfl) ?_
        refine G_val (V_move rfl rfl) rfl rfl (.none rfl) ?_
        refine G_end (X_then ?_)
        refine G_again (i + 1) ⟨hlt, ?_⟩ (by omega) ⟨rfl, rfl, rfl, rfl, trivial⟩ rfl rfl
        intro k hk hk2
        by_cases he : k = i
        · subst he; exact hc
        · exact hall k (by omega) hk2
    · rw [firstF_none (l := yieldsM g) fun k hk hk2 => hall k (by omega) hk2] at e2
      refine G_seq (G_region ?_)
      refine G_val (V_lss rfl rfl rfl) rfl rfl (.none rfl) ?_
      refine G_end (X_then (G_seq ?_))
      refine G_cond_f rfl (decide_eq_false (by omega)) ?_
      refine G_exit (X_then_exit (X_then_exit (X_block_hit (X_then (G_seq (G_seq (G_region ?_)))))))
      refine G_val (V_loadA rfl rfl (Cells.own (.head _)) rfl) rfl rfl (.none rfl) ?_
      refine G_val (V_fieldAddr rfl rfl (by decide)) rfl rfl (.none rfl) ?_
      refine G_val (V_load rfl rfl (Cell.own (.head _) rfl)) rfl rfl (.none rfl) ?_
      refine G_call (k := 83) (.mk rfl rfl rfl rfl) rfl rfl (.none rfl) (reached_call _ _ _ _ (by assumption) (by assumption) _ (by assumption) (by omega) (by omega)) ?_
      rintro r1 E3 L4 hE5 ⟨z7, ⟨rfl, ⟨Z8, rfl⟩⟩⟩
      replace Z7 := Z7.mono hE5
      replace hg0 := hg0.mono hE5
      replace ht := ht.mono hE5
      replace hn := hn.mono hE5
      replace hps := hps.mono hE5
      refine G_val (V_lenS rfl rfl) rfl rfl (.none rfl) ?_
      refine G_val (V_move rfl rfl) rfl rfl (.none rfl) ?_
      refine G_end (X_then (G_block ?_))
      have hs2 : SlE E3 1 (some ⟨z7, 0, none⟩) g.names.length (bools (reachM g)) := by assumption
      refine G_loop (α := Nat) (fun i => [(31, .slice (some ⟨z7, 0, none⟩) g.names.length g.names.length), (32, .int .i64 g.names.length), (33, .int .i64 i)]) (fun _ => E3) (fun _ => GB b1 g tp tc np nc pp pc :: L)
        (fun i => i ≤ g.names.length ∧ ∀ k, k < i → (hk : k < (reachM g).length) → (reachM g)[k] = true) (fun i => g.names.length - i) 0 ⟨Nat.zero_le _, fun k hk => by cases hk⟩ ⟨rfl, rfl, rfl, trivial⟩ rfl rfl ?_
      rintro j ⟨hj, hjall⟩
      by_cases hjlt : j < g.names.length
      · have hlt2 : j < (reachM g).length := by omega
        have hb := bools_at hlt2
        cases hc : (reachM g)[j] with
        | false =>
          rw [e2, firstF_some hlt2 hc hjall]
          refine G_seq (G_region ?_)
          refine G_val (V_lss rfl rfl rfl) rfl rfl (.none rfl) ?_
          refine G_end (X_then (G_seq ?_))
          refine G_cond_t rfl (decide_eq_true (by omega)) ?_
          refine G_skip (X_then (G_seq (G_block (G_seq (G_region ?_)))))
          refine G_val (V_move rfl rfl) rfl rfl (.none rfl) ?_
          refine G_val (V_idxAddr rfl rfl rfl (SlE.rd (by assumption)) (by omega) (by omega)) rfl rfl (.none rfl) ?_
          refine G_val (V_loadS rfl rfl (SlE.rd (by assumption)) (by assumption) (by simp)) rfl rfl (.none rfl) ?_
          refine G_val (V_assign rfl rfl) rfl rfl (.none rfl) ?_
          refine G_val (V_assign rfl rfl) rfl rfl (.none rfl) ?_
          refine G_end (X_then (G_seq (G_region ?_)))
          refine G_val (V_move rfl rfl) rfl rfl (.none rfl) ?_
          refine G_val (V_not rfl rfl) rfl rfl (.none rfl) ?_
          refine G_end (X_then ?_)
          refine G_cond_t rfl (by simp [*]; done) ?_
          refine G_seq (G_region ?_)
          refine G_val (V_move rfl rfl) rfl rfl (.none rfl) ?_
          refine G_val (V_assign rfl rfl) rfl rfl (.none rfl) ?_
          refine G_val (V_assign rfl rfl) rfl rfl (.none rfl) ?_
          refine G_end (X_then (G_ret (X_block_ret (X_then_ret (X_then_ret (X_block_ret (X_then_ret ?_)))))))
          refine G_leaveS (.drop _ (.nil _)) (by exact (.cons (.tmp rfl) (.cons (.tmp rfl) (.nil)))) rfl ?_ ?_
          · exact (hE4.trans hE5)
          exact ⟨rfl, rfl⟩
        | true =>
          refine G_seq (G_region ?_)
          refine G_val (V_lss rfl rfl rfl) rfl rfl (.none rfl) ?_
          refine G_end (X_then (G_seq ?_))
          refine G_cond_t rfl (decide_eq_true (by omega)) ?_
          refine G_skip (X_then (G_seq (G_block (G_seq (G_region ?_)))))
          refine G_val (V_move rfl rfl) rfl rfl (.none rfl) ?_
          refine G_val (V_idxAddr rfl rfl rfl (SlE.rd (by assumption)) (by omega) (by omega)) rfl rfl (.none rfl) ?_
          refine G_val (V_loadS rfl rfl (SlE.rd (by assumption)) (by assumption) (by simp)) rfl rfl (.none rfl) ?_
          refine G_val (V_assign rfl rfl) rfl rfl (.none rfl) ?_
          refine G_val (V_assign rfl rfl) rfl rfl (.none rfl) ?_
          refine G_end (X_then (G_seq (G_region ?_)))
          refine G_val (V_move rfl rfl) rfl rfl (.none rfl) ?_
          refine G_val (V_not rfl rfl) rfl rfl (.none rfl) ?_
          refine G_end (X_then ?_)
          refine G_cond_f rfl (by simp [*]; done) ?_
          refine G_skip (X_block (X_then (G_region ?_)))
          refine G_val (V_add_i64 rfl rfl rfl (by omega) (by omega)) rfl rfl (.none rfl) ?_
          refine G_val (V_move rfl rfl) rfl rfl (.none rfl) ?_
          refine G_end (X_then ?_)
          refine G_again (j + 1) ⟨hjlt, ?_⟩ (by omega) ⟨rfl, rfl, rfl, trivial⟩ rfl rfl
          intro k hk hk2
          by_cases he : k = j
          · subst he; exact hc
          · exact hjall k (by omega) hk2
      · rw [firstF_none (l := reachM g) fun k hk hk2 => hjall k (by omega) hk2] at e2
        rw [e2]
        refine G_seq (G_region ?_)
        refine G_val (V_lss rfl rfl rfl) rfl rfl (.none rfl) ?_
        refine G_end (X_then (G_seq ?_))
        refine G_cond_f rfl (decide_eq_false (by omega)) ?_
        refine G_exit (X_then_exit (X_then_exit (X_block_hit (X_then (G_seq (G_region ?_))))))
        refine G_val (V_assign rfl rfl) rfl rfl (.none rfl) ?_
        refine G_val (V_assign rfl rfl) rfl rfl (.none rfl) ?_
        refine G_end (X_then (G_ret ?_))
        refine G_leaveS (.drop _ (.nil _)) (by exact (.cons (.tmp rfl) (.cons (.tmp rfl) (.nil)))) rfl ?_ ?_
        · exact (hE4.trans hE5)
        exact ⟨(by kernel_rfl), rfl⟩
  · have e := okL_neg hv (yieldsM g)
    rw [redM, if_neg hv]
    refine G_seq (G_region ?_)
    (refine G_boxA rfl rfl rfl rfl (.none rfl) ?_; intro b1)
    refine G_val (V_assign rfl rfl) rfl rfl (.none rfl) ?_
    refine G_val (V_assign rfl rfl) rfl rfl (.none rfl) ?_
    refine G_end (X_then (G_seq (G_region ?_)))
    refine G_val (V_loadA rfl rfl (Cells.own (.head _)) rfl) rfl rfl (.none rfl) ?_
    refine G_call (k := 33) (.mk rfl rfl rfl rfl) rfl rfl (.none rfl) (Yields_call _ _ _ _ (by assumption) (by assumption)) ?_
    rintro r1 E2 L3 hE4 ⟨z5, ⟨z6, ⟨rfl, ⟨Z7, rfl⟩⟩⟩⟩
    replace hg0 := hg0.mono hE4
    replace ht := ht.mono hE4
    replace hn := hn.mono hE4
    replace hps := hps.mono hE4
    refine G_val (V_move rfl rfl) rfl rfl (.none rfl) ?_
    refine G_val (V_extract rfl rfl rfl) rfl rfl (.none rfl) ?_
    refine G_val (V_extract rfl rfl rfl) rfl rfl (.none rfl) ?_
    refine G_val (V_assign rfl rfl) rfl rfl (.none rfl) ?_
    refine G_val (V_assign rfl rfl) rfl rfl (.none rfl) ?_
    refine G_end (X_then (G_seq (G_seq (G_region ?_))))
    refine G_val (V_move rfl rfl) rfl rfl (.none rfl) ?_
    refine G_val (V_neq rfl rfl rfl) rfl rfl (.none rfl) ?_
    refine G_end (X_then ?_)
    refine G_cond_t rfl (decide_eq_true (by omega)) ?_
    refine G_seq (G_region ?_)
    refine G_val (V_move rfl rfl) rfl rfl (.none rfl) ?_
    refine G_val (V_assign rfl rfl) rfl rfl (.none rfl) ?_
    refine G_val (V_assign rfl rfl) rfl rfl (.none rfl) ?_
    refine G_end (X_then (G_ret (X_then_ret ?_)))
    refine G_leaveS (.drop _ (.nil _)) (by exact (.cons (.tmp rfl) (.cons (.tmp rfl) (.nil)))) rfl ?_ ?_
    · exact hE4
    exact ⟨rfl, rfl⟩
end
end Go.Proofs.Ytaoinojdijbhaaa
