import Derived.Test.YtaoinojdijbhaaaSep19
import Derived.Test.YtaoinojdijbhaaaSep20
import Derived.Test.YtaoinojdijbhaaaSep21
import Derived.Test.YtaoinojdijbhaaaSep22
import Derived.Test.YtaoinojdijbhaaaSep23
import Derived.Test.YtaoinojdijbhaaaSep24
import Derived.Test.YtaoinojdijbhaaaInst
import Derived.Test.YtaoinojdijbhaaaD5
set_option linter.unusedSimpArgs false
set_option linter.unusedVariables false
set_option maxHeartbeats 2000000
set_option maxRecDepth 20000
namespace Go.Proofs.Ytaoinojdijbhaaa
open Go.RowKit
theorem tab_at {f : Tab} {s : Int} (h1 : 16 ≤ s) (h2 : s < 16 + f.length) : (i64s (f.map encC))[(s - 16).toNat]? = some (.int .i64 (encC (tget f s))) := by
  have h : (s - 16).toNat < f.length := by omega
  simp [i64s, tget, h]
theorem tab_set (f : Tab) (p : Pr) (v : Nat) : (i64s (f.map encC)).set (p.1 - 16).toNat (.int .i64 v) = i64s ((upd f p v).map encC) := by
  simp [i64s, upd, List.map_set, encC]
section
variable (E : Env) (L : List Res)
theorem cost_call (t : Option Nat) (own : Nat) (n : Nat) (f : Tab) (c4 c5 c7 co : Nat) (s : Int) (rp : Option Addr) (rc : Nat) (r : List Int)
    (m4 : .blk c4 (.cells #[.int .i64 (own : Int)] 2 (0, 0)) ∈ L) (m5 : .blk c5 (.cells #[.int .i64 (encC t)] 2 (0, 0)) ∈ L) (m7 : .blk c7 (.cells #[.slice (some ⟨co, 0, none⟩) n n] 86 (0, 0)) ∈ L)
    (mo : .blk co (.cells (i64s (f.map encC)).toArray 2 (0, 0)) ∈ L) (hr : SlE E 1 rp r.length (i64s r)) (h8 : r.length ≤ 8) (hs : Small t own) (hf : ∀ s c, tget f s = some c → c ≤ 1099511627776) (hfl : f.length = n) (hn : n ≤ 10) (hy : ∀ s, s ∈ r → s < 16 + (n : Int)) :
    CallV Try.prog 112 #[.agg #[.int .i64 s, .slice rp r.length rc], .pointer (some ⟨c4, 0, none⟩), .pointer (some ⟨c5, 0, none⟩), .pointer (some ⟨c7, 0, none⟩)] E L (.int .i64 (encC (addO (some own) (cost t f r)))) := by
  subst hfl
  have ht : ∀ c, t = some c → c ≤ 1099511627776 := fun c hc => Nat.le_trans (hs.t c hc) (by decide)
  have hown := hs.own
  refine CallS.toV (CallS.intro (l := [_, _, _, _]) _ Try.func112 rfl Try.ntmps112 rfl ?_)
  refine G_seq (G_region ?_)
  (refine G_boxA rfl rfl rfl rfl (.none rfl) ?_; intro b4)
  refine G_val (V_assign rfl rfl) rfl rfl (.none rfl) ?_
  refine G_end (X_then (G_seq (G_region ?_)))
  refine G_val (V_load rfl rfl (Cell.own (.tail _ (by assumption)) rfl)) rfl rfl (.none rfl) ?_
  refine G_val (V_assign rfl rfl) rfl rfl (.none rfl) ?_
  refine G_end (X_then (G_seq (G_seq (G_region ?_))))
  refine G_val (V_fieldAddr rfl rfl (by decide)) rfl rfl (.none rfl) ?_
  refine G_val (V_load rfl rfl (Cell.own (.head _) rfl)) rfl rfl (.none rfl) ?_
  refine G_val (V_lenS rfl rfl) rfl rfl (.none rfl) ?_
  refine G_val (V_move rfl rfl) rfl rfl (.none rfl) ?_
  refine G_end (X_then (G_block ?_))
  refine G_loop (α := Nat) (fun i => [(2, .pointer (some ⟨c5, 0, none⟩)), (3, .pointer (some ⟨c7, 0, none⟩)), (6, .int .i64 (encC (addO (some own) (cost t f (r.take i))))), (11, .slice rp r.length rc), (12, .int .i64 r.length), (13, .int .i64 i)]) (fun _ => E) (fun _ => .blk b4 (.cells #[.int .i64 s, .slice rp r.length rc] 62 (0, 0)) :: L)
    (fun i => i ≤ r.length) (fun i => r.length - i) 0 (Nat.zero_le _) ⟨rfl, rfl, rfl, rfl, rfl, rfl, trivial⟩ rfl rfl ?_
  intro i hi
  have hb1 : ∀ c, addO (some own) (cost t f (r.take i)) = some c → c ≤ 1000000000000000000 := by
    intro c hc
    obtain ⟨x, y, hx, hy, rfl⟩ := addO_some hc
    have h1 := cost_le ht hf _ _ hy
    have h2 : (r.take i).length ≤ 8 := by rw [List.length_take]; omega
    have h3 := Nat.mul_le_mul_right 1099511627776 h2
    have := Option.some.inj hx
    omega
  by_cases hlt : i < r.length
  · have hx := i64s_at hlt
    have hb2 : ∀ c, t = some c → c ≤ 1000000000000000000 := fun c hc => Nat.le_trans (ht c hc) (by decide)
    have hb3 : ∀ c, tget f r[i] = some c → c ≤ 1000000000000000000 := fun c hc => Nat.le_trans (hf _ c hc) (by decide)
    have hs := hy r[i] (List.getElem_mem hlt)
    have he := cost_take t f hlt
    rw [symc] at he
    by_cases h16 : r[i] < 16
    · rw [if_pos h16] at he
      refine G_seq (G_region ?_)
      refine G_val (V_lss rfl rfl rfl) rfl rfl (.none rfl) ?_
      refine G_end (X_then (G_seq ?_))
      refine G_cond_t rfl (decide_eq_true (by omega)) ?_
      refine G_skip (X_then (G_seq (G_block (G_seq (G_region ?_)))))
      refine G_val (V_idxAddr rfl rfl rfl (SlE.rd (by assumption)) (by omega) (by omega)) rfl rfl (.none rfl) ?_
      refine G_val (V_loadS rfl rfl (SlE.rd (by assumption)) (by assumption) (by simp)) rfl rfl (.none rfl) ?_
      refine G_val (V_assign rfl rfl) rfl rfl (.none rfl) ?_
      refine G_end (X_then (G_seq (G_region ?_)))
      refine G_val (V_move rfl rfl) rfl rfl (.none rfl) ?_
      refine G_val (V_lss rfl rfl rfl) rfl rfl (.none rfl) ?_
      refine G_end (X_then ?_)
      refine G_cond_t rfl (decide_eq_true (by omega)) ?_
      refine G_region ?_
      refine G_val (V_move rfl rfl) rfl rfl (.none rfl) ?_
      refine G_val (V_load rfl rfl (Cell.own (.tail _ (by assumption)) rfl)) rfl rfl (.none rfl) ?_
      refine G_callv (k := 113) (.mk rfl rfl rfl rfl) rfl rfl (.none rfl) (sum_call _ _ _ _ (by assumption) (by assumption)) ?_
      refine G_val (V_assign rfl rfl) rfl rfl (.none rfl) ?_
      refine G_end (X_block (X_then (G_region ?_)))
      refine G_val (V_add_i64 rfl rfl rfl (by omega) (by omega)) rfl rfl (.none rfl) ?_
      refine G_val (V_move rfl rfl) rfl rfl (.none rfl) ?_
      refine G_end (X_then ?_)
      rw [addO_assoc, ← he]
      exact G_again (i + 1) hlt (by omega) ⟨rfl, rfl, rfl, rfl, rfl, rfl, trivial⟩ rfl rfl
    · rw [if_neg h16] at he
      have hv := tab_at (f := f) (by omega) hs
      refine G_seq (G_region ?_)
      refine G_val (V_lss rfl rfl rfl) rfl rfl (.none rfl) ?_
      refine G_end (X_then (G_seq ?_))
      refine G_cond_t rfl (decide_eq_true (by omega)) ?_
      refine G_skip (X_then (G_seq (G_block (G_seq (G_region ?_)))))
      refine G_val (V_idxAddr rfl rfl rfl (SlE.rd (by assumption)) (by omega) (by omega)) rfl rfl (.none rfl) ?_
      refine G_val (V_loadS rfl rfl (SlE.rd (by assumption)) (by assumption) (by simp)) rfl rfl (.none rfl) ?_
      refine G_val (V_assign rfl rfl) rfl rfl (.none rfl) ?_
      refine G_end (X_then (G_seq (G_region ?_)))
      refine G_val (V_move rfl rfl) rfl rfl (.none rfl) ?_
      refine G_val (V_lss rfl rfl rfl) rfl rfl (.none rfl) ?_
      refine G_end (X_then ?_)
      refine G_cond_f rfl (decide_eq_false (by omega)) ?_
      refine G_region ?_
      refine G_val (V_move rfl rfl) rfl rfl (.none rfl) ?_
      refine G_val (V_load rfl rfl (Cell.own (.tail _ (by assumption)) rfl)) rfl rfl (.none rfl) ?_
      refine G_val (V_move rfl rfl) rfl rfl (.none rfl) ?_
      refine G_val (V_sub_i64 rfl rfl rfl (by omega) (by omega)) rfl rfl (.none rfl) ?_
      refine G_val (V_idxB1 rfl rfl rfl (by omega) (by omega)) rfl rfl (.none rfl) ?_
      refine G_val (V_load rfl rfl (Cell.own (.tail _ (by assumption)) (by assumption))) rfl rfl (.none rfl) ?_
      refine G_callv (k := 113) (.mk rfl rfl rfl rfl) rfl rfl (.none rfl) (sum_call _ _ _ _ (by assumption) (by assumption)) ?_
      refine G_val (V_assign rfl rfl) rfl rfl (.none rfl) ?_
      refine G_end (X_block (X_then (G_region ?_)))
      refine G_val (V_add_i64 rfl rfl rfl (by omega) (by omega)) rfl rfl (.none rfl) ?_
      refine G_val (V_move rfl rfl) rfl rfl (.none rfl) ?_
      refine G_end (X_then ?_)
      rw [addO_assoc, ← he]
      exact G_again (i + 1) hlt (by omega) ⟨rfl, rfl, rfl, rfl, rfl, rfl, trivial⟩ rfl rfl
  · have e2 : i = r.length := by omega
    subst e2
    rw [List.take_length]
    refine G_seq (G_region ?_)
    refine G_val (V_lss rfl rfl rfl) rfl rfl (.none rfl) ?_
    refine G_end (X_then (G_seq ?_))
    refine G_cond_f rfl (decide_eq_false (by omega)) ?_
    refine G_exit (X_then_exit (X_then_exit (X_block_hit (X_then (G_seq (G_region ?_))))))
    refine G_val (V_move rfl rfl) rfl rfl (.none rfl) ?_
    refine G_val (V_assign rfl rfl) rfl rfl (.none rfl) ?_
    refine G_end (X_then (G_ret ?_))
    refine G_leaveS (.drop _ (.nil _)) (by exact (.cons (.tmp rfl) (.nil))) rfl ?_ ?_
    · exact (.refl _)
    exact ⟨rfl, rfl⟩
end
end Go.Proofs.Ytaoinojdijbhaaa
