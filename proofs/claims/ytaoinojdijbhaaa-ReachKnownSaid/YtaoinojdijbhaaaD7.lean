import Derived.Test.YtaoinojdijbhaaaSep19
import Derived.Test.YtaoinojdijbhaaaSep20
import Derived.Test.YtaoinojdijbhaaaSep21
import Derived.Test.YtaoinojdijbhaaaSep22
import Derived.Test.YtaoinojdijbhaaaSep23
import Derived.Test.YtaoinojdijbhaaaSep24
import Derived.Test.YtaoinojdijbhaaaInst
import Derived.Test.YtaoinojdijbhaaaD6
set_option linter.unusedSimpArgs false
set_option linter.unusedVariables false
set_option maxHeartbeats 2000000
set_option maxRecDepth 20000
namespace Go.Proofs.Ytaoinojdijbhaaa
open Go.RowKit
theorem start_cells (n : Nat) : List.replicate n (Value.int .i64 9223372036854775807) = i64s ((start n).map encC) := by simp [start, i64s, encC]
theorem better_lt {t : Option Nat} {own : Nat} {f : Tab} {p : Pr} (hb : ∀ c, addO (some own) (cost t f p.2) = some c → c ≤ 1000000000000000000) (hc : ∀ c, tget f p.1 = some c → c ≤ 1000000000000000000) :
    (better t own f p = none → ¬ encC (addO (some own) (cost t f p.2)) < encC (tget f p.1)) ∧ (∀ v, better t own f p = some v → encC (addO (some own) (cost t f p.2)) < encC (tget f p.1) ∧ addO (some own) (cost t f p.2) = some v) := by
  rw [better]
  cases h1 : cost t f p.2 with
  | none =>
    refine ⟨fun _ => ?_, fun v h => (by cases h)⟩
    cases h2 : tget f p.1 with
    | none => simp [addO, encC]
    | some c' =>
      have h3 := hc c' h2
      show ¬ (9223372036854775807 : Int) < (c' : Int)
      omega
  | some c =>
    rw [h1] at hb
    have hd := hb (own + c) rfl
    have e1 : encC (addO (some own) (some c)) = ((own + c : Nat) : Int) := rfl
    cases h2 : tget f p.1 with
    | none =>
      refine ⟨fun h => (by cases h), fun v h => ⟨?_, ?_⟩⟩
      · rw [e1]; show ((own + c : Nat) : Int) < 9223372036854775807; omega
      · rw [← h]; rfl
    | some c' =>
      show ((if own + c < c' then some (own + c) else none) = none → _) ∧ ∀ v, (if own + c < c' then some (own + c) else none) = some v → _
      have e2 : encC (some c') = (c' : Int) := rfl
      rw [e1, e2]
      by_cases hlt : own + c < c'
      · rw [if_pos hlt]
        exact ⟨fun h => (by cases h), fun v h => ⟨by omega, by rw [← h]; rfl⟩⟩
      · rw [if_neg hlt]
        exact ⟨fun _ => (by omega), fun v h => (by cases h)⟩
section
variable (E : Env) (L : List Res)
theorem costs_call (gv : Value) (g : Gr) (hg : GrE E gv g) (hl : Light g) (t : Option Nat) (own : Nat) (hw : Wf g.prods g.names.length) (hs : Small t own) :
    CallS Try.prog 81 #[gv, .int .i64 own, .int .i64 (encC t)] E L (fun r E' L' => ∃ b, r = .slice (some ⟨b, 0, none⟩) g.names.length g.names.length ∧ SlE E' 1 (some ⟨b, 0, none⟩) g.names.length (i64s ((best g.prods g.names.length t own).map encC)) ∧ L' = L) := by
  have hg0 := hg
  obtain ⟨tp, tc, np, nc, pp, pc, rfl, ht, hn, ⟨rows, hrows, hps, hre⟩, k1, k2, k3⟩ := hg
  have hlen : g.prods.length = rows.length := by rw [← hrows]; simp
  have q1 := hl.t; have q2 := hl.n; have q3 := hl.p
  refine CallS.intro (l := [_, _, _]) _ Try.func81 rfl Try.ntmps81 rfl ?_
  refine G_seq (G_region ?_)
  (refine G_boxA rfl rfl rfl rfl (.none rfl) ?_; intro b3)
  (refine G_box1 rfl rfl rfl rfl rfl (.none rfl) ?_; intro b4)
  (refine G_box1 rfl rfl rfl rfl rfl (.none rfl) ?_; intro b5)
  refine G_val (V_assign rfl rfl) rfl rfl (.none rfl) ?_
  refine G_end (X_then (G_scope (G_seq (G_region ?_))))
  refine G_val (V_fieldAddr rfl rfl (by decide)) rfl rfl (.none rfl) ?_
  refine G_val (V_load rfl rfl (Cell.own (.tail _ (.tail _ (.head _))) rfl)) rfl rfl (.none rfl) ?_
  refine G_val (V_lenS rfl rfl) rfl rfl (.none rfl) ?_
  refine G_call (k := 111) (.mk rfl rfl rfl rfl) rfl rfl (.none rfl) (filledL_call _ _ _ _ (by omega)) ?_
  rintro r1 E2 L3 hE4 ⟨z5, ⟨rfl, ⟨rfl, rfl⟩⟩⟩
  replace hg0 := hg0.mono hE4
  replace ht := ht.mono hE4
  replace hn := hn.mono hE4
  replace hps := hps.mono hE4
  (refine G_alloc rfl rfl rfl (.none rfl) ?_; intro b7)
  refine G_store1 rfl rfl rfl rfl rfl rfl (.none rfl) (.head _ _ _) ?_
  refine G_end (X_then (G_seq (G_region ?_)))
  refine G_val (V_makeFunc rfl rfl rfl) rfl rfl (.none rfl) ?_
  refine G_val (V_assign rfl rfl) rfl rfl (.none rfl) ?_
  refine G_end (X_then (G_seq (G_label (X_then (G_block ?_)))))
  refine G_loop (α := Tab) (fun _ => [(3, .pointer (some ⟨b3, 0, none⟩)), (7, .pointer (some ⟨b7, 0, none⟩)), (8, .func (.func 112) #[] #[.pointer (some ⟨b4, 0, none⟩), .pointer (some ⟨b5, 0, none⟩), .pointer (some ⟨b7, 0, none⟩)])]) (fun _ => E)
    (fun f => .blk b7 (.cells #[.slice (some ⟨z5, 0, none⟩) g.names.length g.names.length] 86 (0, 0)) :: .blk z5 (.cells (i64s (f.map encC)).toArray 2 (0, 0)) :: .blk b5 (.cells #[.int .i64 (encC t)] 2 (0, 0)) :: .blk b4 (.cells #[.int .i64 (own : Int)] 2 (0, 0)) :: GB b3 g tp tc np nc pp pc :: L)
    (fun f => Inv g.prods g.names.length t own f) meas (start g.names.length) (inv_start _ _ _ _) ⟨rfl, rfl, rfl, trivial⟩ rfl (by rw [← start_cells]) ?_
  intro f hi
  have hf : ∀ s c, tget f s = some c → c ≤ 1099511627776 := fun s c h => hi.le hw h
  have hfl := hi.len
  refine G_block (G_seq (G_seq (G_region ?_)))
  refine G_val (V_fieldAddr rfl rfl (by decide)) rfl rfl (.none rfl) ?_
  refine G_val (V_load rfl rfl (Cell.own (.tail _ (.tail _ (.tail _ (.tail _ (.head _))))) rfl)) rfl rfl (.none rfl) ?_
  refine G_val (V_lenS rfl rfl) rfl rfl (.none rfl) ?_
  refine G_val (V_move rfl rfl) rfl rfl (.none rfl) ?_
  refine G_end (X_then (G_block ?_))
  refine G_loop (α := Nat) (fun i => [(3, .pointer (some ⟨b3, 0, none⟩)), (7, .pointer (some ⟨b7, 0, none⟩)), (8, .func (.func 112) #[] #[.pointer (some ⟨b4, 0, none⟩), .pointer (some ⟨b5, 0, none⟩), .pointer (some ⟨b7, 0, none⟩)]), (18, .slice pp g.prods.length pc), (19, .int .i64 g.prods.length), (20, .int .i64 i)]) (fun _ => E)
    (fun _ => .blk b7 (.cells #[.slice (some ⟨z5, 0, none⟩) g.names.length g.names.length] 86 (0, 0)) :: .blk z5 (.cells (i64s (f.map encC)).toArray 2 (0, 0)) :: .blk b5 (.cells #[.int .i64 (encC t)] 2 (0, 0)) :: .blk b4 (.cells #[.int .i64 (own : Int)] 2 (0, 0)) :: GB b3 g tp tc np nc pp pc :: L)
    (fun i => i ≤ rows.length ∧ ∀ k, k < i → (hk : k < rows.length) → better t own f rows[k].2.2 = none) (fun i => rows.length - i) 0 ⟨Nat.zero_le _, fun k hk => by cases hk⟩ ⟨rfl, rfl, rfl, rfl, rfl, rfl, trivial⟩ rfl rfl ?_
  rintro i ⟨hile, hall⟩
  by_cases hlt : i < rows.length
  · have hg1 := List.getElem?_eq_getElem hlt
    have hy := prows_get hg1
    have hre1 := hre.get hg1
    have hp : rows[i].2.2 ∈ g.prods := by rw [← hrows]; exact List.mem_map.2 ⟨rows[i], List.getElem_mem hlt, rfl⟩
    have hl1 := hw.left _ hp
    have h8 := hw.right _ hp
    have hsy := hw.syms _ hp
    have hv := tab_at (f := f) hl1.1 (by omega)
    have hbb : ∀ c, addO (some own) (cost t f rows[i].2.2.2) = some c → c ≤ 1000000000000000000 := by
      intro c hc
      obtain ⟨x, y, hx, hy, rfl⟩ := addO_some hc
      have h1 := cost_le (fun k hk => Nat.le_trans (hs.t k hk) (by decide)) hf _ _ hy
      have h3 := Nat.mul_le_mul_right 1099511627776 h8
      have h4 := Option.some.inj hx
      have h5 := hs.own
      omega
    have hbl := better_lt (p := rows[i].2.2) hbb (fun c hc => Nat.le_trans (hf _ c hc) (by decide))
    cases hbt : better t own f rows[i].2.2 with
    | none =>
      have hcond := hbl.1 hbt
      refine G_seq (G_region ?_)
      refine G_val (V_lss rfl rfl rfl) rfl rfl (.none rfl) ?_
      refine G_end (X_then (G_seq ?_))
      refine G_cond_t rfl (decide_eq_true (by omega)) ?_
      refine G_skip (X_then (G_seq (G_block (G_seq (G_region ?_)))))
      refine G_val (V_idxAddr rfl rfl rfl (SlE.rd (by assumption)) (by omega) (by omega)) rfl rfl (.none rfl) ?_
      refine G_val (V_loadAS rfl rfl (SlE.rd (by assumption)) (by assumption) (by simp) (by rfl)) rfl rfl (.none rfl) ?_
      (refine G_alloc rfl rfl rfl (.none rfl) ?_; intro b10)
      refine G_storeA rfl rfl rfl rfl (by simp [Value.oneCell']) rfl (.none rfl) (.head _ _ _) rfl ?_
      refine G_end (X_then (G_seq (G_region ?_)))
      refine G_val (V_fieldAddr rfl rfl (by decide)) rfl rfl (.none rfl) ?_
      refine G_val (V_load rfl rfl (Cell.own (.head _) rfl)) rfl rfl (.none rfl) ?_
      refine G_val (V_sub_i64 rfl rfl rfl (by omega) (by omega)) rfl rfl (.none rfl) ?_
      refine G_val (V_assign rfl rfl) rfl rfl (.none rfl) ?_
      refine G_end (X_then (G_seq ?_))
      refine G_drawX 8 [(0, 0), (1, 1), (3, 1), (4, 0), (5, 1), (6, 1), (2, 3), (7, 0)] mixed (by kernel_rfl) ?_
      refine F_pure rfl (fun _ _ => V_move rfl rfl) rfl rfl (.none rfl) ?_
      refine F_load rfl (.head _) (V_loadA rfl rfl (Cells.own (.head _)) rfl) rfl rfl (.none rfl) ?_
      refine F_load rfl (.tail _ (.head _)) (V_load rfl rfl (Cell.own1 (.head _))) rfl rfl (.none rfl) ?_
      refine F_pure rfl (fun _ _ => V_move rfl rfl) rfl rfl (.none rfl) ?_
      refine F_loadE rfl (V_idxB1 rfl rfl rfl (by omega) (by omega)) rfl rfl (.none rfl) ?_
      refine F_load rfl (.tail _ (.tail _ (.head _))) (V_load rfl rfl (Cell.own (.head _) (by assumption))) rfl rfl (.none rfl) ?_
      refine F_callvM (k := 112) rfl (.mk rfl rfl rfl rfl) rfl rfl (.none rfl) (fun M => cost_call _ _ _ _ _ _ _ _ _ _ _ _ _ _ (by exact List.mem_append_right _ (by first | assumption | exact .head _ | exact .tail _ (.head _) | exact .tail _ (.tail _ (.head _)) | exact .tail _ (.tail _ (.tail _ (.head _))) | exact .tail _ (.tail _ (.tail _ (.tail _ (.head _)))) | exact .tail _ (.tail _ (.tail _ (.tail _ (.tail _ (.head _))))))) (by exact List.mem_append_right _ (by first | assumption | exact .head _ | exact .tail _ (.head _) | exact .tail _ (.tail _ (.head _)) | exact .tail _ (.tail _ (.tail _ (.head _))) | exact .tail _ (.tail _ (.tail _ (.tail _ (.head _)))) | exact .tail _ (.tail _ (.tail _ (.tail _ (.tail _ (.head _))))))) (by exact List.mem_append_right _ (by first | assumption | exact .head _ | exact .tail _ (.head _) | exact .tail _ (.tail _ (.head _)) | exact .tail _ (.tail _ (.tail _ (.head _))) | exact .tail _ (.tail _ (.tail _ (.tail _ (.head _)))) | exact .tail _ (.tail _ (.tail _ (.tail _ (.tail _ (.head _))))))) (by exact List.mem_append_right _ (by first | assumption | exact .head _ | exact .tail _ (.head _) | exact .tail _ (.tail _ (.head _)) | exact .tail _ (.tail _ (.tail _ (.head _))) | exact .tail _ (.tail _ (.tail _ (.tail _ (.head _)))) | exact .tail _ (.tail _ (.tail _ (.tail _ (.tail _ (.head _))))))) (by assumption) (by assumption) (by assumption) (by assumption) (by assumption) (by assumption) (by assumption)) ?_
      refine F_pure rfl (fun _ _ => V_lss rfl rfl rfl) rfl rfl (.none rfl) ?_
      (refine F_end (.nil _) ?_; dsimp only [List.drop])
      refine G_end (X_then ?_)
      refine G_cond_f rfl (decide_eq_false (by omega)) ?_
      refine G_skip (X_block (X_then (G_region ?_)))
      refine G_val (V_add_i64 rfl rfl rfl (by omega) (by omega)) rfl rfl (.none rfl) ?_
      refine G_val (V_move rfl rfl) rfl rfl (.none rfl) ?_
      refine G_end (X_then ?_)
      refine G.drop ?_
      refine G_again (i + 1) ⟨hlt, ?_⟩ (by omega) ⟨rfl, rfl, rfl, rfl, rfl, rfl, trivial⟩ rfl rfl
      intro k hk hk2
      by_cases he : k = i
      · subst he; exact hbt
      · exact hall k (by omega) hk2
    | some v =>
      obtain ⟨hcond, hval⟩ := hbl.2 v hbt
      have hset : (i64s (f.map encC)).set (rows[i].2.2.1 - 16).toNat (.int .i64 (encC (addO (some own) (cost t f rows[i].2.2.2)))) = i64s ((upd f rows[i].2.2 v).map encC) := by rw [hval]; exact tab_set f _ v
      have hlen2 : (i64s (f.map encC)).length = g.names.length := by simp [i64s, hfl]
      obtain ⟨hi1, hi2, hi3⟩ := hi.upd hw hs hp hbt
      refine G_seq (G_region ?_)
      refine G_val (V_lss rfl rfl rfl) rfl rfl (.none rfl) ?_
      refine G_end (X_then (G_seq ?_))
      refine G_cond_t rfl (decide_eq_true (by omega)) ?_
      refine G_skip (X_then (G_seq (G_block (G_seq (G_region ?_)))))
      refine G_val (V_idxAddr rfl rfl rfl (SlE.rd (by assumption)) (by omega) (by omega)) rfl rfl (.none rfl) ?_
      refine G_val (V_loadAS rfl rfl (SlE.rd (by assumption)) (by assumption) (by simp) (by rfl)) rfl rfl (.none rfl) ?_
      (refine G_alloc rfl rfl rfl (.none rfl) ?_; intro b10)
      refine G_storeA rfl rfl rfl rfl (by simp [Value.oneCell']) rfl (.none rfl) (.head _ _ _) rfl ?_
      refine G_end (X_then (G_seq (G_region ?_)))
      refine G_val (V_fieldAddr rfl rfl (by decide)) rfl rfl (.none rfl) ?_
      refine G_val (V_load rfl rfl (Cell.own (.head _) rfl)) rfl rfl (.none rfl) ?_
      refine G_val (V_sub_i64 rfl rfl rfl (by omega) (by omega)) rfl rfl (.none rfl) ?_
      refine G_val (V_assign rfl rfl) rfl rfl (.none rfl) ?_
      refine G_end (X_then (G_seq ?_))
      refine G_drawX 8 [(0, 0), (1, 1), (3, 1), (4, 0), (5, 1), (6, 1), (2, 3), (7, 0)] mixed (by kernel_rfl) ?_
      refine F_pure rfl (fun _ _ => V_move rfl rfl) rfl rfl (.none rfl) ?_
      refine F_load rfl (.head _) (V_loadA rfl rfl (Cells.own (.head _)) rfl) rfl rfl (.none rfl) ?_
      refine F_load rfl (.tail _ (.head _)) (V_load rfl rfl (Cell.own1 (.head _))) rfl rfl (.none rfl) ?_
      refine F_pure rfl (fun _ _ => V_move rfl rfl) rfl rfl (.none rfl) ?_
      refine F_loadE rfl (V_idxB1 rfl rfl rfl (by omega) (by omega)) rfl rfl (.none rfl) ?_
      refine F_load rfl (.tail _ (.tail _ (.head _))) (V_load rfl rfl (Cell.own (.head _) (by assumption))) rfl rfl (.none rfl) ?_
      refine F_callvM (k := 112) rfl (.mk rfl rfl rfl rfl) rfl rfl (.none rfl) (fun M => cost_call _ _ _ _ _ _ _ _ _ _ _ _ _ _ (by exact List.mem_append_right _ (by first | assumption | exact .head _ | exact .tail _ (.head _) | exact .tail _ (.tail _ (.head _)) | exact .tail _ (.tail _ (.tail _ (.head _))) | exact .tail _ (.tail _ (.tail _ (.tail _ (.head _)))) | exact .tail _ (.tail _ (.tail _ (.tail _ (.tail _ (.head _))))))) (by exact List.mem_append_right _ (by first | assumption | exact .head _ | exact .tail _ (.head _) | exact .tail _ (.tail _ (.head _)) | exact .tail _ (.tail _ (.tail _ (.head _))) | exact .tail _ (.tail _ (.tail _ (.tail _ (.head _)))) | exact .tail _ (.tail _ (.tail _ (.tail _ (.tail _ (.head _))))))) (by exact List.mem_append_right _ (by first | assumption | exact .head _ | exact .tail _ (.head _) | exact .tail _ (.tail _ (.head _)) | exact .tail _ (.tail _ (.tail _ (.head _))) | exact .tail _ (.tail _ (.tail _ (.tail _ (.head _)))) | exact .tail _ (.tail _ (.tail _ (.tail _ (.tail _ (.head _))))))) (by exact List.mem_append_right _ (by first | assumption | exact .head _ | exact .tail _ (.head _) | exact .tail _ (.tail _ (.head _)) | exact .tail _ (.tail _ (.tail _ (.head _))) | exact .tail _ (.tail _ (.tail _ (.tail _ (.head _)))) | exact .tail _ (.tail _ (.tail _ (.tail _ (.tail _ (.head _))))))) (by assumption) (by assumption) (by assumption) (by assumption) (by assumption) (by assumption) (by assumption)) ?_
      refine F_pure rfl (fun _ _ => V_lss rfl rfl rfl) rfl rfl (.none rfl) ?_
      (refine F_end (.nil _) ?_; dsimp only [List.drop])
      refine G_end (X_then ?_)
      refine G_cond_t rfl (decide_eq_true (by omega)) ?_
      refine G_seq ?_
      refine G_drawX 6 [(0, 1), (1, 0), (2, 0), (3, 1), (4, 3), (5, 1)] mixed (by kernel_rfl) ?_
      refine F_load rfl (.tail _ (.head _)) (V_load rfl rfl (Cell.own1 (.head _))) rfl rfl (.none rfl) ?_
      refine F_pure rfl (fun _ _ => V_move rfl rfl) rfl rfl (.none rfl) ?_
      refine F_pure rfl (fun _ _ => V_move rfl rfl) rfl rfl (.none rfl) ?_
      refine F_load rfl (.head _) (V_loadA rfl rfl (Cells.own (.head _)) rfl) rfl rfl (.none rfl) ?_
      refine F_callvM (k := 112) rfl (.mk rfl rfl rfl rfl) rfl rfl (.none rfl) (fun M => cost_call _ _ _ _ _ _ _ _ _ _ _ _ _ _ (by exact List.mem_append_right _ (by first | assumption | exact .head _ | exact .tail _ (.head _) | exact .tail _ (.tail _ (.head _)) | exact .tail _ (.tail _ (.tail _ (.head _))) | exact .tail _ (.tail _ (.tail _ (.tail _ (.head _)))) | exact .tail _ (.tail _ (.tail _ (.tail _ (.tail _ (.head _))))))) (by exact List.mem_append_right _ (by first | assumption | exact .head _ | exact .tail _ (.head _) | exact .tail _ (.tail _ (.head _)) | exact .tail _ (.tail _ (.tail _ (.head _))) | exact .tail _ (.tail _ (.tail _ (.tail _ (.head _)))) | exact .tail _ (.tail _ (.tail _ (.tail _ (.tail _ (.head _))))))) (by exact List.mem_append_right _ (by first | assumption | exact .head _ | exact .tail _ (.head _) | exact .tail _ (.tail _ (.head _)) | exact .tail _ (.tail _ (.tail _ (.head _))) | exact .tail _ (.tail _ (.tail _ (.tail _ (.head _)))) | exact .tail _ (.tail _ (.tail _ (.tail _ (.tail _ (.head _))))))) (by exact List.mem_append_right _ (by first | assumption | exact .head _ | exact .tail _ (.head _) | exact .tail _ (.tail _ (.head _)) | exact .tail _ (.tail _ (.tail _ (.head _))) | exact .tail _ (.tail _ (.tail _ (.tail _ (.head _)))) | exact .tail _ (.tail _ (.tail _ (.tail _ (.tail _ (.head _))))))) (by assumption) (by assumption) (by assumption) (by assumption) (by assumption) (by assumption) (by assumption)) ?_
      refine F_loadE rfl (V_idxB1 rfl rfl rfl (by omega) (by omega)) rfl rfl (.none rfl) ?_
      (refine F_end (.nil _) ?_; dsimp only [List.drop])
      refine G_storeB rfl rfl rfl rfl rfl rfl (.none rfl) (.tail _ (.tail _ (.head _ _ _))) (by omega) ?_
      refine G_end (X_then (G_exit ?_))
      refine X_block_miss rfl ?_
      refine X_then_exit (X_then_exit ?_)
      refine X_block_miss rfl ?_
      refine X_then_exit (X_block_hit (X_then ?_))
      rw [hset]
      refine G.drop ?_
      exact G_again (upd f rows[i].2.2 v) hi1 hi2 ⟨rfl, rfl, rfl, trivial⟩ rfl rfl
  · have he : f = best g.prods g.names.length t own := by
      refine best_eq hw hs ⟨hfl, better_stable.2 fun p hp => ?_, hi.sound⟩
      rw [← hrows] at hp
      obtain ⟨x, hx, rfl⟩ := List.mem_map.1 hp
      obtain ⟨k, hk, rfl⟩ := List.getElem_of_mem hx
      exact hall k (by omega) hk
    refine G.freezeB (.tail _ (.head _ _)) (k := g.names.length) (sz := 1) (by simp [i64s, hfl]) ?_
    intro E1 hE1 hs1
    rw [he] at hs1
    refine G_seq (G_region ?_)
    refine G_val (V_lss rfl rfl rfl) rfl rfl (.none rfl) ?_
    refine G_end (X_then (G_seq ?_))
    refine G_cond_f rfl (decide_eq_false (by omega)) ?_
    refine G_exit (X_then_exit (X_then_exit (X_block_hit (X_then (G_seq (G_region ?_))))))
    refine G_val (V_load rfl rfl (Cell.own1 (.head _))) rfl rfl (.none rfl) ?_
    refine G_val (V_assign rfl rfl) rfl rfl (.none rfl) ?_
    refine G_end (X_then (G_ret (X_block_ret (X_then_ret (X_block_ret ?_)))))
    refine X_ng_ret ?_
    refine G_leaveS (.drop _ (.drop _ (.drop _ (.drop _ (.nil _))))) (by exact (.cons (.tmp rfl) (.nil))) rfl ?_ ?_
    · exact hE1
    exact ⟨_, ⟨rfl, ⟨(by assumption), rfl⟩⟩⟩
    
end
end Go.Proofs.Ytaoinojdijbhaaa
