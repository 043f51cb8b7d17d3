/-
  Rules and contracts, packed: A26, A32, A33, Sep33, A34, A35, A36, A37, A38, A39.
-/
import GoSem.ClaimJoined
import Derived.FnData
import Derived.Test.YthcfakmmomfcaaaDoorQ6
set_option maxHeartbeats 1000000
set_option linter.unusedSimpArgs false
set_option linter.unusedVariables false
set_option maxHeartbeats 2000000
set_option maxRecDepth 20000
namespace Go.Proofs.YthcfakmmomfcaaaDoor
open Go.RowKit
/-! FormatInt to the base 2, of 1, 2, 4, 8. A cell of the laid table of bits.TrailingZeros64 is asked for (global 5). -/
section
variable (E : Env) (L : List Res)
theorem SlE.cell0 {E : Env} {L : List Res} {b k : Nat} {v : Value} (h : SlE E 1 (some ⟨b, k, none⟩) 1 [v]) : Cell E L ⟨b, k, none⟩ v := fun w hw => by
  obtain ⟨_, h | ⟨p, h1, h2, h3⟩⟩ := h
  · cases h.1
  · cases h1
    have := Env.cell_st (h3 0 v rfl) hw
    simpa [Addr.add] using this
/-- An array in memory, from an element on. -/
theorem V_slArrFrom {P : Program} {fs : List (Nat × Value)} {E : Env} {L : List Res} {o : Oper} {t e : TypeId} {m sz szt : Nat} {ag ag' : Bool} {td : TypeDesc} [ht : Ty P t (.array m e) szt ag] [he : Ty P e td sz ag'] {x y : Operand} {p : Addr} {k : IntKind} {i : Int}
    (ho : o.op = .slice t x (some y) none none) (hx : ev fs x = some (.pointer (some p))) (hy : ev fs y = some (.int k i)) (h0 : 0 ≤ i) (h1 : i < m) : Val P o fs E L (.slice (some (p.add (i.toNat * sz))) (m - i.toNat) (m - i.toNat)) :=
  ⟨(by rw [ho]; intro c h; cases h), fun n ds a w ha _ => by
    have h2 : i.toNat ≤ m := by omega
    have h3 : ¬ m = i.toNat := by omega
    have h4 : i ≤ m := by omega
    simp [execOp, ho, ha.eval hx, ha.eval hy, Instr.sliceAt, Instr.sureAddr, Instr.sliceBounds, Instr.sliceBound, asIntOf, h0, h2, h3, h4, ht.run, he.size, Result.andThen]⟩
theorem TZ64_call (hT : SlE E 1 (some ⟨5, 1, none⟩) 1 [.int .u8 1]) : CallV Tryd.prog 93 #[.int .u64 2] E L (.int .i64 1) := by
  refine CallS.toV (CallS.intro (l := [_]) _ Tryd.func93 rfl Tryd.ntmps93 rfl ?_)
  have hc : Cell E L ⟨5, 0 + (1 : Int).toNat * 1, none⟩ (.int .u8 1) := SlE.cell0 hT
  refine G_seq (G_region ?_)
  refine G_val (V_assign rfl rfl) rfl rfl (.none rfl) ?_
  refine G_end (X_then (G_seq (G_seq (G_region ?_))))
  refine G_val (V_move rfl rfl) rfl rfl (.none rfl) ?_
  refine G_val (V_eql rfl rfl rfl) rfl rfl (.none rfl) ?_
  refine G_end (X_then ?_)
  refine G_cond_f rfl (by kernel_rfl) ?_
  refine G_skip (X_then (G_seq (G_region ?_)))
  refine G_val (V_move rfl rfl) rfl rfl (.none rfl) ?_
  refine G_val (V_move rfl rfl) rfl rfl (.none rfl) ?_
  refine G_val (V_neg rfl rfl) rfl rfl (.none rfl) ?_
  refine G_val (V_and rfl rfl rfl) rfl rfl (.none rfl) ?_
  refine G_val (V_mul rfl rfl rfl) rfl rfl (.none rfl) ?_
  refine G_val (V_shr rfl rfl rfl (by omega)) rfl rfl (.none rfl) ?_
  refine G.spell 10 (.int .u64 1) rfl (by kernel_rfl) ?_
  refine G_val (V_idxAddrArr rfl rfl rfl (by omega) (by omega)) rfl rfl (.none rfl) ?_
  refine G_val (V_load rfl rfl (by assumption)) rfl rfl (.none rfl) ?_
  refine G_val (V_conv_i64 rfl rfl (by omega) (by omega)) rfl rfl (.none rfl) ?_
  refine G_val (V_assign rfl rfl) rfl rfl (.none rfl) ?_
  refine G_end (X_then (G_ret ?_))
  refine G_leaveS (.nil _) (by exact (.cons (.tmp rfl) (.nil))) rfl ?_ ?_
  · exact (.refl _)
  exact ⟨(by kernel_rfl), rfl⟩
theorem TZ_call (hT : SlE E 1 (some ⟨5, 1, none⟩) 1 [.int .u8 1]) : CallV Tryd.prog 86 #[.int .u64 2] E L (.int .i64 1) := by
  refine CallS.toV (CallS.intro (l := [_]) _ Tryd.func86 rfl Tryd.ntmps86 rfl ?_)
  refine G_seq (G_region ?_)
  refine G_val (V_assign rfl rfl) rfl rfl (.none rfl) ?_
  refine G_end (X_then (G_seq ?_))
  refine G_cond_f rfl rfl ?_
  refine G_skip (X_then (G_seq (G_region ?_)))
  refine G_val (V_move rfl rfl) rfl rfl (.none rfl) ?_
  refine G_callv (k := 93) (.mk rfl rfl rfl rfl) rfl rfl (.none rfl) (TZ64_call _ _ (by assumption)) ?_
  refine G_val (V_assign rfl rfl) rfl rfl (.none rfl) ?_
  refine G_end (X_then (G_ret ?_))
  refine G_leaveS (.nil _) (by exact (.cons (.tmp rfl) (.nil))) rfl ?_ ?_
  · exact (.refl _)
  exact ⟨(by kernel_rfl), rfl⟩
theorem pow2_call : CallV Tryd.prog 85 #[.int .i64 2] E L (.bool true) := by
  refine CallS.toV (CallS.intro (l := [_]) _ Tryd.func85 rfl Tryd.ntmps85 rfl ?_)
  refine G_seq (G_region ?_)
  refine G_val (V_assign rfl rfl) rfl rfl (.none rfl) ?_
  refine G_end (X_then (G_seq (G_region ?_)))
  refine G_val (V_move rfl rfl) rfl rfl (.none rfl) ?_
  refine G_val (V_move rfl rfl) rfl rfl (.none rfl) ?_
  refine G_val (V_sub_i64 rfl rfl rfl (by omega) (by omega)) rfl rfl (.none rfl) ?_
  refine G_val (V_and rfl rfl rfl) rfl rfl (.none rfl) ?_
  refine G_val (V_eql rfl rfl rfl) rfl rfl (.none rfl) ?_
  refine G_val (V_assign rfl rfl) rfl rfl (.none rfl) ?_
  refine G_end (X_then (G_ret ?_))
  refine G.spell 6 (.int .i64 0) rfl (by kernel_rfl) ?_
  refine G_leaveS (.nil _) (by exact (.cons (.tmp rfl) (.nil))) rfl ?_ ?_
  · exact (.refl _)
  exact ⟨(by kernel_rfl), rfl⟩
/-- 1 and m noughts -/
abbrev bin2 (m : Nat) : List UInt8 := 49 :: List.replicate m 48
abbrev z8 (n : Nat) : List Value := List.replicate n (.int .u8 0)
abbrev d8 (n : Nat) : List Value := List.replicate n (.int .u8 48)
theorem set2 (j : Nat) (h : j < 65) (v : Value) : (z8 (65 - j) ++ d8 j).set (64 - j) v = z8 (64 - j) ++ v :: d8 j := by
  rw [show 65 - j = (64 - j) + 1 by omega, z8, List.replicate_succ', List.append_assoc, List.set_append]
  simp
theorem formatBits2_call (m : Nat) (hm : m ≤ 3) (hT : SlE E 1 (some ⟨5, 1, none⟩) 1 [.int .u8 1]) : CallV Tryd.prog 77 #[.slice none 0 0, .int .u64 (2 ^ m : Nat), .int .i64 2, .bool false, .bool false] E L (.tuple #[.slice none 0 0, .string (S (bin2 m))]) := by
  refine CallS.toV (CallS.intro (l := [_, _, _, _, _]) _ Tryd.func77 rfl Tryd.ntmps77 rfl ?_)
  have hz : Tryd.zeroCells112 = (z8 65 ++ d8 0).toArray := by kernel_rfl
  refine G_seq (G_region ?_)
  refine G_val (V_assign rfl rfl) rfl rfl (.none rfl) ?_
  refine G_val (V_assign rfl rfl) rfl rfl (.none rfl) ?_
  refine G_end (X_then (G_seq (G_seq (G_region ?_))))
  refine G_val (V_move rfl rfl) rfl rfl (.none rfl) ?_
  refine G_val (V_lss rfl rfl rfl) rfl rfl (.none rfl) ?_
  refine G_val (V_move rfl rfl) rfl rfl (.none rfl) ?_
  refine G.bool_f 21 rfl (by kernel_rfl) ?_
  refine G_val (V_move rfl rfl) rfl rfl (.yes rfl rfl rfl rfl) ?_
  refine G_val (V_eql rfl rfl rfl) rfl rfl (.yes rfl rfl rfl rfl) ?_
  refine G_val (V_pick_f rfl rfl rfl) rfl rfl (.none rfl) ?_
  refine G_val (V_move rfl rfl) rfl rfl (.none rfl) ?_
  refine G.bool_f 25 rfl (by kernel_rfl) ?_
  refine G_val (V_move rfl rfl) rfl rfl (.yes rfl rfl rfl rfl) ?_
  refine G_val (V_gtr rfl rfl rfl) rfl rfl (.yes rfl rfl rfl rfl) ?_
  refine G_val (V_pick_f rfl rfl rfl) rfl rfl (.none rfl) ?_
  refine G_end (X_then ?_)
  refine G_cond_f rfl (by kernel_rfl) ?_
  refine G_skip (X_then (G_seq (G_region ?_)))
  (refine G_alloc rfl rfl rfl (.none rfl) ?_; intro b12)
  refine G_end (X_then (G_seq (G_region ?_)))
  refine G_val (V_assign rfl rfl) rfl rfl (.none rfl) ?_
  refine G_end (X_then (G_seq (G_seq (G_region ?_))))
  refine G_val (V_move rfl rfl) rfl rfl (.none rfl) ?_
  refine G_end (X_then ?_)
  refine G_cond_f rfl rfl ?_
  refine G_skip (X_then (G_seq (G_seq (G_region ?_))))
  refine G_val (V_move rfl rfl) rfl rfl (.none rfl) ?_
  refine G_callv (k := 85) (.mk rfl rfl rfl rfl) rfl rfl (.none rfl) (pow2_call _ _) ?_
  refine G_end (X_then ?_)
  refine G_cond_t rfl rfl ?_
  refine G_seq (G_region ?_)
  refine G_val (V_move rfl rfl) rfl rfl (.none rfl) ?_
  refine G_val (V_conv_u64 rfl rfl (by omega) (by omega)) rfl rfl (.none rfl) ?_
  refine G_callv (k := 86) (.mk rfl rfl rfl rfl) rfl rfl (.none rfl) (TZ_call _ _ (by assumption)) ?_
  refine G_val (V_conv_u64 rfl rfl (by omega) (by omega)) rfl rfl (.none rfl) ?_
  refine G_val (V_assign rfl rfl) rfl rfl (.none rfl) ?_
  refine G_end (X_then (G_seq (G_region ?_)))
  refine G_val (V_move rfl rfl) rfl rfl (.none rfl) ?_
  refine G_val (V_conv_u64 rfl rfl (by omega) (by omega)) rfl rfl (.none rfl) ?_
  refine G_val (V_assign rfl rfl) rfl rfl (.none rfl) ?_
  refine G_end (X_then (G_seq (G_region ?_)))
  refine G_val (V_move rfl rfl) rfl rfl (.none rfl) ?_
  refine G_val (V_conv_u64 rfl rfl (by omega) (by omega)) rfl rfl (.none rfl) ?_
  refine G_val (V_sub_u64 rfl rfl rfl (by omega) (by omega)) rfl rfl (.none rfl) ?_
  refine G_val (V_assign rfl rfl) rfl rfl (.none rfl) ?_
  refine G_end (X_then (G_seq (G_block ?_)))
  rw [hz]
  refine G_loop (α := Nat) (fun j => [(10, .slice none 0 0), (0, .slice none 0 0), (3, .bool false), (4, .bool false), (1, .int .u64 (2 ^ (m - j) : Nat)), (12, .pointer (some ⟨b12, 0, none⟩)), (13, .int .i64 (65 - (j : Nat))), (14, .int .u64 1), (15, .int .u64 2), (16, .int .u64 1)]) (fun _ => E) (fun j => .blk b12 (.cells (z8 (65 - j) ++ d8 j).toArray 112 (0, 0)) :: L)
    (fun j => j ≤ m) (fun j => m - j) 0 (Nat.zero_le _) ⟨rfl, rfl, rfl, rfl, rfl, rfl, rfl, rfl, rfl, rfl, trivial⟩ rfl rfl ?_
  rintro j hj
  by_cases hlt : j < m
  · obtain ⟨hge, ha, hs⟩ : 2 ≤ 2 ^ (m - j) ∧ andI .u64 (2 ^ (m - j) : Nat) 1 = 0 ∧ shrI .u64 (2 ^ (m - j) : Nat) 1 = (2 ^ (m - (j + 1)) : Nat) := by
      have : m - j = 1 ∨ m - j = 2 ∨ m - j = 3 := by omega
      have e : m - (j + 1) = m - j - 1 := by omega
      rw [e]
      rcases this with e1 | e1 | e1 <;> rw [e1] <;> exact ⟨by decide, by kernel_rfl, by kernel_rfl⟩
    generalize hx : 2 ^ (m - j) = x at hge ha hs
    have ej : ((65 : Int) - j - 1).toNat = 64 - j := by omega
    refine G_seq (G_seq (G_region ?_))
    refine G_val (V_move rfl rfl) rfl rfl (.none rfl) ?_
    refine G_val (V_move rfl rfl) rfl rfl (.none rfl) ?_
    refine G_val (V_geq rfl rfl rfl) rfl rfl (.none rfl) ?_
    refine G_end (X_then ?_)
    refine G_cond_t rfl (decide_eq_true (by omega)) ?_
    refine G_skip (X_then (G_block (G_seq (G_region ?_))))
    refine G_val (V_move rfl rfl) rfl rfl (.none rfl) ?_
    refine G_val (V_sub_i64 rfl rfl rfl (by omega) (by omega)) rfl rfl (.none rfl) ?_
    refine G_val (V_assign rfl rfl) rfl rfl (.none rfl) ?_
    refine G_end (X_then (G_seq (G_region ?_)))
    refine G_val (V_move rfl rfl) rfl rfl (.none rfl) ?_
    refine G_val (V_move rfl rfl) rfl rfl (.none rfl) ?_
    refine G_val (V_move rfl rfl) rfl rfl (.none rfl) ?_
    refine G_val (V_and rfl rfl rfl) rfl rfl (.none rfl) ?_
    refine G.spell 52 (.int .u64 0) rfl (by rw [ha]) ?_
    refine G_val (V_sidx (c := 48) rfl rfl rfl (by decide) rfl) rfl rfl (.none rfl) ?_
    refine G_val (V_idxAddrArr rfl rfl rfl (by omega) (by omega)) rfl rfl (.none rfl) ?_
    refine G_storeB rfl rfl rfl rfl rfl rfl (.none rfl) (.head _ _ _) (by simp only [List.length_append, List.length_replicate]; omega) ?_
    rw [Nat.zero_add, Nat.mul_one, ej, set2 j (by omega)]
    refine G_end (X_then (G_region ?_))
    refine G_val (V_move rfl rfl) rfl rfl (.none rfl) ?_
    refine G_val (V_move rfl rfl) rfl rfl (.none rfl) ?_
    refine G_val (V_shr rfl rfl rfl (by omega)) rfl rfl (.none rfl) ?_
    refine G_val (V_assign rfl rfl) rfl rfl (.none rfl) ?_
    refine G_end (X_block (X_then ?_))
    rw [hs, show (65 : Int) - j - 1 = 65 - ((j + 1 : Nat) : Int) by omega, show 64 - j = 65 - (j + 1) by omega]
    exact G_again (j + 1) hlt (by omega) ⟨rfl, rfl, rfl, rfl, rfl, rfl, rfl, rfl, rfl, rfl, trivial⟩ rfl rfl
  · obtain rfl : j = m := by omega
    rw [Nat.sub_self]
    have ej : ((65 : Int) - j - 1).toNat = 64 - j := by omega
    refine G_seq (G_seq (G_region ?_))
    refine G_val (V_move rfl rfl) rfl rfl (.none rfl) ?_
    refine G_val (V_move rfl rfl) rfl rfl (.none rfl) ?_
    refine G_val (V_geq rfl rfl rfl) rfl rfl (.none rfl) ?_
    refine G_end (X_then ?_)
    refine G_cond_f rfl (by kernel_rfl) ?_
    refine G_exit (X_then_exit (X_then_exit (X_block_hit (X_then (G_seq (G_region ?_))))))
    refine G_val (V_move rfl rfl) rfl rfl (.none rfl) ?_
    refine G_val (V_sub_i64 rfl rfl rfl (by omega) (by omega)) rfl rfl (.none rfl) ?_
    refine G_val (V_assign rfl rfl) rfl rfl (.none rfl) ?_
    refine G_end (X_then (G_region ?_))
    refine G_val (V_move rfl rfl) rfl rfl (.none rfl) ?_
    refine G_val (V_move rfl rfl) rfl rfl (.none rfl) ?_
    refine G_val (V_sidx (c := 49) rfl rfl rfl (by decide) rfl) rfl rfl (.none rfl) ?_
    refine G_val (V_idxAddrArr rfl rfl rfl (by omega) (by omega)) rfl rfl (.none rfl) ?_
    refine G_storeB rfl rfl rfl rfl rfl rfl (.none rfl) (.head _ _ _) (by simp only [List.length_append, List.length_replicate]; omega) ?_
    rw [Nat.zero_add, Nat.mul_one, ej, set2 j (by omega)]
    refine G_end (X_then (G_seq (G_seq (G_region ?_))))
    refine G_val (V_move rfl rfl) rfl rfl (.none rfl) ?_
    refine G_end (X_then ?_)
    refine G_cond_f rfl rfl ?_
    refine G_skip (X_then (G_seq (G_seq (G_region ?_))))
    refine G_val (V_move rfl rfl) rfl rfl (.none rfl) ?_
    refine G_end (X_then ?_)
    refine G_cond_f rfl rfl ?_
    refine G_skip (X_then (G_seq (G_region ?_)))
    refine G_val (V_move rfl rfl) rfl rfl (.none rfl) ?_
    refine G_val (V_slArrFrom rfl rfl rfl (by omega) (by omega)) rfl rfl (.none rfl) ?_
    rw [ej, show (⟨b12, 0, none⟩ : Addr).add ((64 - j) * 1) = ⟨b12, 64 - j, none⟩ by simp [Addr.add]; omega]
    refine G_val (V_b2s (l := bin2 j) rfl rfl (Rd.blk (.head _) ?_ ?_)) rfl rfl (.none rfl) ?_
    · simp only [List.length_map, List.length_cons, List.length_replicate]; omega
    · intro i v hv
      rw [List.getElem?_toArray, List.getElem?_append_right (by simp)]
      simp only [List.length_replicate, Nat.zero_add, Nat.mul_one, Nat.add_sub_cancel_left]
      simpa [bin2, d8] using hv
    refine G_val (V_assign rfl rfl) rfl rfl (.none rfl) ?_
    refine G_end (X_then (G_ret ?_))
    refine G_leaveS (.drop _ (.nil _)) (by exact (.cons (.tmp rfl) (.cons (.tmp rfl) (.nil)))) rfl ?_ ?_
    · exact (.refl _)
    exact ⟨rfl, rfl⟩
end
end Go.Proofs.YthcfakmmomfcaaaDoor
set_option linter.unusedSimpArgs false
set_option linter.unusedVariables false
set_option maxHeartbeats 2000000
set_option maxRecDepth 20000
namespace Go.Proofs.YthcfakmmomfcaaaDoor
open Go.RowKit
/-! below: how many looks begin so. -/
def sumP (t : Nat) : Nat → Nat
  | 0 => 0
  | k + 1 => sumP t k + t ^ k
theorem sumP_succ (t k : Nat) : sumP t (k + 1) = sumP t k + t ^ k := rfl
theorem sumP_horner (t : Nat) : ∀ k, sumP t (k + 1) = 1 + t * sumP t k := by
  intro k
  induction k with
  | zero => simp [sumP]
  | succ k ih =>
    rw [sumP_succ t (k + 1)]
    conv => rhs; rw [sumP_succ t k, Nat.mul_add]
    rw [ih, Nat.pow_succ, Nat.mul_comm (t ^ k) t]
    omega
theorem lenT_sum (t : Nat) : ∀ f, lenT t f = sumP t (f + 1) := by
  intro f
  induction f with
  | zero => simp [lenT, sumP]
  | succ f ih => rw [lenT, ih, sumP_horner t (f + 1)]
theorem pow_le8 {t : Nat} (ht : t ≤ 8) (k : Nat) (hk : k ≤ 5) : t ^ k ≤ 32768 := by
  have h1 : t ^ k ≤ 8 ^ k := Nat.pow_le_pow_left ht k
  have h2 : 8 ^ k ≤ 8 ^ 5 := Nat.pow_le_pow_right (by decide) hk
  exact Nat.le_trans h1 (Nat.le_trans h2 (by decide))
theorem sumP_le8 {t : Nat} (ht : t ≤ 8) : ∀ k, k ≤ 5 → sumP t k ≤ 32768 * k := by
  intro k
  induction k with
  | zero => intro _; simp [sumP]
  | succ k ih =>
    intro hk
    have := ih (by omega)
    have := pow_le8 ht k (by omega)
    rw [sumP_succ]
    omega
section
variable (E : Env) (L : List Res)
theorem IFormat2_call (m : Nat) (hm : m ≤ 3) (hT : SlE E 1 (some ⟨5, 1, none⟩) 1 [.int .u8 1]) : CallV Tryd.prog 67 #[.int .i64 (2 ^ m : Nat), .int .i64 2] E L (.string (S (bin2 m))) := by
  have hp : 2 ^ m ≤ 8 := Nat.pow_le_pow_right (n := 2) (by decide) hm
  have hc := formatBits2_call E L m hm hT
  generalize 2 ^ m = x at hp hc ⊢
  refine CallS.toV (CallS.intro (l := [_, _]) _ Tryd.func67 rfl Tryd.ntmps67 rfl ?_)
  refine G_seq (G_region ?_)
  refine G_val (V_assign rfl rfl) rfl rfl (.none rfl) ?_
  refine G_end (X_then (G_seq (G_seq (G_region ?_))))
  refine G_val (V_move rfl rfl) rfl rfl (.none rfl) ?_
  refine G_val (V_eql rfl rfl rfl) rfl rfl (.none rfl) ?_
  refine G_end (X_then ?_)
  refine G_cond_f rfl (by kernel_rfl) ?_
  refine G_skip (X_then (G_seq (G_region ?_)))
  refine G_val (V_move rfl rfl) rfl rfl (.none rfl) ?_
  refine G_val (V_conv_u64 rfl rfl (by omega) (by omega)) rfl rfl (.none rfl) ?_
  refine G_val (V_move rfl rfl) rfl rfl (.none rfl) ?_
  refine G_val (V_move rfl rfl) rfl rfl (.none rfl) ?_
  refine G_val (V_lss rfl rfl rfl) rfl rfl (.none rfl) ?_
  refine G.spell 49 (.bool false) rfl (by rw [decide_eq_false (by omega)]) ?_
  refine G_callv (k := 77) (.mk rfl rfl rfl rfl) rfl rfl (.none rfl) hc ?_
  refine G_val (V_move rfl rfl) rfl rfl (.none rfl) ?_
  refine G_val (V_extract rfl rfl rfl) rfl rfl (.none rfl) ?_
  refine G_val (V_extract rfl rfl rfl) rfl rfl (.none rfl) ?_
  refine G_val (V_assign rfl rfl) rfl rfl (.none rfl) ?_
  refine G_val (V_assign rfl rfl) rfl rfl (.none rfl) ?_
  refine G_end (X_then (G_seq (G_region ?_)))
  refine G_val (V_move rfl rfl) rfl rfl (.none rfl) ?_
  refine G_val (V_assign rfl rfl) rfl rfl (.none rfl) ?_
  refine G_end (X_then (G_ret ?_))
  refine G_leaveS (.nil _) (by exact (.cons (.tmp rfl) (.nil))) rfl ?_ ?_
  · exact (.refl _)
  exact ⟨rfl, rfl⟩
theorem Format2_call (m : Nat) (hm : m ≤ 3) (hT : SlE E 1 (some ⟨5, 1, none⟩) 1 [.int .u8 1]) : CallV Tryd.prog 65 #[.int .i64 (2 ^ m : Nat), .int .i64 2] E L (.string (S (bin2 m))) := by
  have hp : 2 ^ m ≤ 8 := Nat.pow_le_pow_right (n := 2) (by decide) hm
  have hc := IFormat2_call E L m hm hT
  generalize 2 ^ m = x at hp hc ⊢
  refine CallS.toV (CallS.intro (l := [_, _]) _ Tryd.func65 rfl Tryd.ntmps65 rfl ?_)
  refine G_seq (G_region ?_)
  refine G_val (V_assign rfl rfl) rfl rfl (.none rfl) ?_
  refine G_end (X_then (G_seq (G_region ?_)))
  refine G_val (V_move rfl rfl) rfl rfl (.none rfl) ?_
  refine G_val (V_move rfl rfl) rfl rfl (.none rfl) ?_
  refine G_callv (k := 67) (.mk rfl rfl rfl rfl) rfl rfl (.none rfl) hc ?_
  refine G_val (V_assign rfl rfl) rfl rfl (.none rfl) ?_
  refine G_end (X_then (G_ret ?_))
  refine G_leaveS (.nil _) (by exact (.cons (.tmp rfl) (.nil))) rfl ?_ ?_
  · exact (.refl _)
  exact ⟨rfl, rfl⟩
theorem count_bin2 (m : Nat) : (bin2 m).count 48 = m := by
  rw [bin2, List.count_cons, List.count_replicate_self]
  rfl
theorem below_call (n t : Nat) (hn : n ≤ 5) (ht1 : 1 ≤ t) (ht : t ≤ 8) (hT : SlE E 1 (some ⟨5, 1, none⟩) 1 [.int .u8 1]) : CallV Tryd.prog 56 #[.int .i64 (n : Nat), .int .i64 (t : Nat)] E L (.int .i64 (sumP t (5 - n) : Nat)) := by
  refine CallS.toV (CallS.intro (l := [_, _]) _ Tryd.func56 rfl Tryd.ntmps56 rfl ?_)
  refine G_seq (G_region ?_)
  refine G_val (V_assign rfl rfl) rfl rfl (.none rfl) ?_
  refine G_end (X_then (G_seq (G_region ?_)))
  refine G_val (V_assign rfl rfl) rfl rfl (.none rfl) ?_
  refine G_val (V_assign rfl rfl) rfl rfl (.none rfl) ?_
  refine G_end (X_then (G_seq (G_seq (G_region ?_))))
  refine G_val (V_move rfl rfl) rfl rfl (.none rfl) ?_
  refine G_val (V_sub_i64 rfl rfl rfl (by omega) (by omega)) rfl rfl (.none rfl) ?_
  refine G_val (V_add_i64 rfl rfl rfl (by omega) (by omega)) rfl rfl (.none rfl) ?_
  refine G_val (V_move rfl rfl) rfl rfl (.none rfl) ?_
  refine G_end (X_then (G_block ?_))
  refine G_loop (α := Nat) (fun i => [(1, .int .i64 (t : Nat)), (5, .int .i64 (sumP t i : Nat)), (6, .int .i64 (t ^ i : Nat)), (9, .int .i64 (4 - (n : Int) + 1)), (10, .int .i64 (i : Nat))]) (fun _ => E) (fun _ => L)
    (fun i => i ≤ 5 - n) (fun i => 5 - n - i) 0 (Nat.zero_le _) ⟨rfl, rfl, rfl, rfl, rfl, trivial⟩ rfl rfl ?_
  rintro i hi
  by_cases hlt : i < 5 - n
  · have h1 := pow_le8 ht i (by omega)
    have h2 := sumP_le8 ht i (by omega)
    have h3 : sumP t (i + 1) = sumP t i + t ^ i := rfl
    have h4 : t ^ (i + 1) = t ^ i * t := Nat.pow_succ ..
    generalize hP : t ^ i = p at h1 h3 h4 ⊢
    generalize hS : sumP t i = s at h2 h3 ⊢
    by_cases hpow : t = 1 ∨ t = 2 ∨ t = 4 ∨ t = 8
    · obtain ⟨m, hm, rfl⟩ : ∃ m, m ≤ 3 ∧ t = 2 ^ m := by
        rcases hpow with rfl | rfl | rfl | rfl
        · exact ⟨0, by omega, rfl⟩
        · exact ⟨1, by omega, rfl⟩
        · exact ⟨2, by omega, rfl⟩
        · exact ⟨3, by omega, rfl⟩
      have hand : andI .i64 (2 ^ m : Nat) ((2 ^ m : Nat) - 1) = 0 := by
        have : m = 0 ∨ m = 1 ∨ m = 2 ∨ m = 3 := by omega
        rcases this with rfl | rfl | rfl | rfl
        · exact show andI .i64 ((2 ^ 0 : Nat) : Int) (((2 ^ 0 : Nat) : Int) - 1) = 0 by kernel_rfl
        · exact show andI .i64 ((2 ^ 1 : Nat) : Int) (((2 ^ 1 : Nat) : Int) - 1) = 0 by kernel_rfl
        · exact show andI .i64 ((2 ^ 2 : Nat) : Int) (((2 ^ 2 : Nat) : Int) - 1) = 0 by kernel_rfl
        · exact show andI .i64 ((2 ^ 3 : Nat) : Int) (((2 ^ 3 : Nat) : Int) - 1) = 0 by kernel_rfl
      have hsh : shlI .i64 (p : Nat) (m : Nat) = (p * 2 ^ m : Nat) := shlI_nat (k := .i64) (n := p) (s := m) (by simp [IntKind.bits]; omega) (by
        have : p * 2 ^ m ≤ 32768 * 8 := Nat.mul_le_mul h1 ht
        show ((p * 2 ^ m : Nat) : Int) ≤ (9223372036854775807 : Int)
        exact Int.ofNat_le.2 (Nat.le_trans this (by decide)))
      have hcnt := count_bin2 m
      have hc := Format2_call E L m hm hT
      have hbl : (bin2 m).length ≤ 10 := by simp; omega
      have hcc := Count1_call E L (bin2 m) 48 (by omega)
      rw [hcnt] at hcc
      generalize hx : 2 ^ m = x at *
      refine G_seq (G_region ?_)
      refine G_val (V_lss rfl rfl rfl) rfl rfl (.none rfl) ?_
      refine G_end (X_then (G_seq ?_))
      refine G_cond_t rfl (decide_eq_true (by omega)) ?_
      refine G_skip (X_then (G_seq (G_block (G_seq (G_region ?_)))))
      refine G_val (V_move rfl rfl) rfl rfl (.none rfl) ?_
      refine G_val (V_move rfl rfl) rfl rfl (.none rfl) ?_
      refine G_val (V_add_i64 rfl rfl rfl (by omega) (by omega)) rfl rfl (.none rfl) ?_
      refine G_val (V_assign rfl rfl) rfl rfl (.none rfl) ?_
      refine G_end (X_then (G_seq (G_region ?_)))
      refine G_val (V_move rfl rfl) rfl rfl (.none rfl) ?_
      refine G_val (V_move rfl rfl) rfl rfl (.none rfl) ?_
      refine G_val (V_sub_i64 rfl rfl rfl (by omega) (by omega)) rfl rfl (.none rfl) ?_
      refine G_val (V_and rfl rfl rfl) rfl rfl (.none rfl) ?_
      refine G_val (V_eql rfl rfl rfl) rfl rfl (.none rfl) ?_
      refine G_end (X_then ?_)
      refine G_cond_t rfl (decide_eq_true (by omega)) ?_
      refine G_region ?_
      refine G_val (V_move rfl rfl) rfl rfl (.none rfl) ?_
      refine G_val (V_move rfl rfl) rfl rfl (.none rfl) ?_
      refine G.spell 18 (.int .i64 0) rfl (by rw [hand]) ?_
      skip
      refine G_callv (k := 65) (.mk rfl rfl rfl rfl) rfl rfl (.none rfl) hc ?_
      skip
      refine G_callv (k := 64) (.mk rfl rfl rfl rfl) rfl rfl (.none rfl) hcc ?_
      refine G_val (V_conv_u64 rfl rfl (by omega) (by omega)) rfl rfl (.none rfl) ?_
      refine G_val (V_shl rfl rfl rfl (by omega)) rfl rfl (.none rfl) ?_
      refine G_val (V_assign rfl rfl) rfl rfl (.none rfl) ?_
      refine G_end (X_block (X_then (G_region ?_)))
      refine G_val (V_add_i64 rfl rfl rfl (by omega) (by omega)) rfl rfl (.none rfl) ?_
      refine G_val (V_move rfl rfl) rfl rfl (.none rfl) ?_
      refine G_end (X_then ?_)
      rw [hsh, ← h4, show (s : Int) + p = ((sumP x (i + 1) : Nat) : Int) by omega, show (i : Int) + 1 = ((i + 1 : Nat) : Int) by omega]
      exact G_again (i + 1) hlt (by omega) ⟨rfl, rfl, rfl, rfl, rfl, trivial⟩ rfl rfl
    · have hand : andI .i64 (t : Nat) ((t : Nat) - 1) ≠ 0 := by
        have : t = 3 ∨ t = 5 ∨ t = 6 ∨ t = 7 := by omega
        rcases this with rfl | rfl | rfl | rfl
        · rw [show andI .i64 ((3 : Nat) : Int) ((3 : Nat) - 1) = 2 by kernel_rfl]; decide
        · rw [show andI .i64 ((5 : Nat) : Int) ((5 : Nat) - 1) = 4 by kernel_rfl]; decide
        · rw [show andI .i64 ((6 : Nat) : Int) ((6 : Nat) - 1) = 4 by kernel_rfl]; decide
        · rw [show andI .i64 ((7 : Nat) : Int) ((7 : Nat) - 1) = 6 by kernel_rfl]; decide
      have hmul : (p : Int) * t = (p * t : Nat) := by omega
      have hb : p * t ≤ 32768 * 8 := Nat.mul_le_mul h1 ht
      refine G_seq (G_region ?_)
      refine G_val (V_lss rfl rfl rfl) rfl rfl (.none rfl) ?_
      refine G_end (X_then (G_seq ?_))
      refine G_cond_t rfl (decide_eq_true (by omega)) ?_
      refine G_skip (X_then (G_seq (G_block (G_seq (G_region ?_)))))
      refine G_val (V_move rfl rfl) rfl rfl (.none rfl) ?_
      refine G_val (V_move rfl rfl) rfl rfl (.none rfl) ?_
      refine G_val (V_add_i64 rfl rfl rfl (by omega) (by omega)) rfl rfl (.none rfl) ?_
      refine G_val (V_assign rfl rfl) rfl rfl (.none rfl) ?_
      refine G_end (X_then (G_seq (G_region ?_)))
      refine G_val (V_move rfl rfl) rfl rfl (.none rfl) ?_
      refine G_val (V_move rfl rfl) rfl rfl (.none rfl) ?_
      refine G_val (V_sub_i64 rfl rfl rfl (by omega) (by omega)) rfl rfl (.none rfl) ?_
      refine G_val (V_and rfl rfl rfl) rfl rfl (.none rfl) ?_
      refine G_val (V_eql rfl rfl rfl) rfl rfl (.none rfl) ?_
      refine G_end (X_then ?_)
      refine G_cond_f rfl (decide_eq_false (by omega)) ?_
      refine G_region ?_
      refine G_val (V_move rfl rfl) rfl rfl (.none rfl) ?_
      refine G_val (V_move rfl rfl) rfl rfl (.none rfl) ?_
      refine G_val (V_mul_i64 rfl rfl rfl (by omega) (by omega)) rfl rfl (.none rfl) ?_
      refine G_val (V_assign rfl rfl) rfl rfl (.none rfl) ?_
      refine G_end (X_block (X_then (G_region ?_)))
      refine G_val (V_add_i64 rfl rfl rfl (by omega) (by omega)) rfl rfl (.none rfl) ?_
      refine G_val (V_move rfl rfl) rfl rfl (.none rfl) ?_
      refine G_end (X_then ?_)
      rw [hmul, ← h4, show (s : Int) + p = ((sumP t (i + 1) : Nat) : Int) by omega, show (i : Int) + 1 = ((i + 1 : Nat) : Int) by omega]
      exact G_again (i + 1) hlt (by omega) ⟨rfl, rfl, rfl, rfl, rfl, trivial⟩ rfl rfl
  · obtain rfl : i = 5 - n := by omega
    refine G_seq (G_region ?_)
    refine G_val (V_lss rfl rfl rfl) rfl rfl (.none rfl) ?_
    refine G_end (X_then (G_seq ?_))
    refine G_cond_f rfl (decide_eq_false (by omega)) ?_
    refine G_exit (X_then_exit (X_then_exit (X_block_hit (X_then (G_seq (G_region ?_))))))
    refine G_val (V_move rfl rfl) rfl rfl (.none rfl) ?_
    refine G_val (V_assign rfl rfl) rfl rfl (.none rfl) ?_
    refine G_end (X_then (G_ret ?_))
    refine G_leaveS (.nil _) (by exact (.cons (.tmp rfl) (.nil))) rfl ?_ ?_
    · exact (.refl _)
    exact ⟨rfl, rfl⟩
end
end Go.Proofs.YthcfakmmomfcaaaDoor
set_option linter.unusedSimpArgs false
set_option linter.unusedVariables false
set_option maxHeartbeats 2000000
set_option maxRecDepth 20000
namespace Go.Proofs.YthcfakmmomfcaaaDoor
open Go.RowKit
/-! Number. -/
theorem numT_cons (t f : Nat) (x : Int) (l : List Int) : numT t (f + 1) (x :: l) = 1 + x.toNat * lenT t f + numT t f l := rfl
theorem numT_nil (t f : Nat) : numT t f [] = 0 := by cases f <;> rfl
def nmM (n a b c d terms : Int) : Int × Int := if ckL n a b c d terms ≠ 0 then (0, ckL n a b c d terms) else ((numT terms.toNat 4 ([a, b, c, d].take n.toNat) : Nat), 0)
theorem ckL_t {n a b c d t : Int} (h : ckL n a b c d t = 0) : 1 ≤ t ∧ t ≤ 8 := by
  unfold ckL at h
  split at h
  · omega
  · omega
theorem ckL_ok {m : Nat} {a b c d : Int} {t : Nat} (h : ckL m a b c d t = 0) (hm : m ≤ 4) : okT t 4 ([a, b, c, d].take m) := by
  have hs := ckL_S h
  refine ⟨by rw [take4_len m a b c d hm]; exact hm, fun x hx => ?_⟩
  obtain ⟨j, hj⟩ := List.mem_iff_getElem?.1 hx
  have hlt := (List.getElem?_eq_some_iff.1 hj).1
  rw [take4_len m a b c d hm] at hlt
  have := hs j hlt
  rw [List.getElem?_take_of_lt hlt] at hj
  rw [gd, List.getD, hj] at this
  exact this
section
variable (E : Env) (L : List Res)
theorem Number_call (hT : SlE E 1 (some ⟨5, 1, none⟩) 1 [.int .u8 1]) (n a b c d terms : Int) : CallS Tryd.prog 31 #[lk n a b c d, .int .i64 terms] E L (fun r E' L' => r = .tuple #[.int .i64 (nmM n a b c d terms).1, .int .i64 (nmM n a b c d terms).2] ∧ L = L') := by
  unfold nmM
  generalize hr : ckL n a b c d terms = r
  by_cases h : r ≠ 0
  · rw [if_pos h]
    refine CallS.intro (l := [_, _]) _ Tryd.func31 rfl Tryd.ntmps31 rfl ?_
    refine G_seq (G_region ?_)
    (refine G_boxA rfl rfl rfl rfl (.none rfl) ?_; intro b2)
    refine G_val (V_assign rfl rfl) rfl rfl (.none rfl) ?_
    refine G_val (V_assign rfl rfl) rfl rfl (.none rfl) ?_
    refine G_end (X_then (G_seq (G_seq (G_region ?_))))
    refine G_val (V_loadA rfl rfl (Cells.own (.head _)) rfl) rfl rfl (.none rfl) ?_
    refine G_val (V_move rfl rfl) rfl rfl (.none rfl) ?_
    refine G_callv (k := 18) (.mk rfl rfl rfl rfl) rfl rfl (.none rfl) (Check_call _ _ _ _ _ _ _ _) ?_
    refine G_val (V_assign rfl rfl) rfl rfl (.none rfl) ?_
    refine G_end (X_then (G_seq (G_region ?_)))
    refine G_val (V_move rfl rfl) rfl rfl (.none rfl) ?_
    refine G_val (V_neq rfl rfl rfl) rfl rfl (.none rfl) ?_
    refine G_end (X_then ?_)
    refine G_cond_t rfl (decide_eq_true (by omega)) ?_
    refine G_seq (G_region ?_)
    refine G_val (V_move rfl rfl) rfl rfl (.none rfl) ?_
    refine G_val (V_assign rfl rfl) rfl rfl (.none rfl) ?_
    refine G_val (V_assign rfl rfl) rfl rfl (.none rfl) ?_
    refine G_end (X_then (G_ret (X_then_ret ?_)))
    refine G_leaveS (.drop _ (.nil _)) (by exact (.cons (.tmp rfl) (.cons (.tmp rfl) (.nil)))) rfl ?_ ?_
    · exact (.refl _)
    exact ⟨(by (simp (discharger := omega) only [resVal, hr, if_pos, if_neg]; first | done | rfl)), (by rfl)⟩
  rw [if_neg h]
  have h0 : ckL n a b c d terms = 0 := by omega
  have hn := ckL_n h0
  have ht := ckL_t h0
  obtain ⟨m, rfl⟩ : ∃ m : Nat, n = m := ⟨n.toNat, by omega⟩
  obtain ⟨t, rfl⟩ : ∃ t : Nat, terms = t := ⟨terms.toNat, by omega⟩
  have hl := take4_len m a b c d (by omega)
  have hok := ckL_ok h0 (by omega)
  have hlt := numT_lt t 4 _ hok
  have hle := lenT_le (t := t) (by omega) (f := 4) (by omega)
  simp only [Int.toNat_natCast]
  generalize hxs : [a, b, c, d].take m = xs at *
  generalize hN : numT t 4 xs = N at *
  refine CallS.intro (l := [_, _]) _ Tryd.func31 rfl Tryd.ntmps31 rfl ?_
  refine G_seq (G_region ?_)
  (refine G_boxA rfl rfl rfl rfl (.none rfl) ?_; intro b2)
  refine G_val (V_assign rfl rfl) rfl rfl (.none rfl) ?_
  refine G_val (V_assign rfl rfl) rfl rfl (.none rfl) ?_
  refine G_end (X_then (G_seq (G_seq (G_region ?_))))
  refine G_val (V_loadA rfl rfl (Cells.own (.head _)) rfl) rfl rfl (.none rfl) ?_
  refine G_val (V_move rfl rfl) rfl rfl (.none rfl) ?_
  refine G_callv (k := 18) (.mk rfl rfl rfl rfl) rfl rfl (.none rfl) (Check_call _ _ _ _ _ _ _ _) ?_
  refine G_val (V_assign rfl rfl) rfl rfl (.none rfl) ?_
  refine G_end (X_then (G_seq (G_region ?_)))
  refine G_val (V_move rfl rfl) rfl rfl (.none rfl) ?_
  refine G_val (V_neq rfl rfl rfl) rfl rfl (.none rfl) ?_
  refine G_end (X_then ?_)
  refine G_cond_f rfl (decide_eq_false (by omega)) ?_
  refine G_skip (X_then (G_seq (G_region ?_)))
  refine G_val (V_assign rfl rfl) rfl rfl (.none rfl) ?_
  refine G_end (X_then (G_seq (G_seq (G_region ?_))))
  refine G_val (V_loadA rfl rfl (Cells.own (.head _)) rfl) rfl rfl (.none rfl) ?_
  refine G_call (k := 48) (.mk rfl rfl rfl rfl) rfl rfl (.none rfl) (list_call'' _ _ _ _ _ _ _ (by omega)) ?_
  rintro r1 E2 L3 hE4 ⟨z5, ⟨⟨z6, ⟨z7, ⟨rfl, ⟨rfl, rfl⟩⟩⟩⟩, rfl⟩⟩
  replace hT := hT.mono hE4
  refine G_val (V_lenS rfl rfl) rfl rfl (.none rfl) ?_
  refine G_val (V_move rfl rfl) rfl rfl (.none rfl) ?_
  refine G_end (X_then (G_block ?_))
  rw [hxs]
  refine G.freezeSl (.head _ _) ?_
  intro E1 hE1 hs1 _
  replace hT := hT.mono hE1
  refine G_loop (α := Nat × Nat) (fun i => [(1, .int .i64 (t : Nat)), (7, .int .i64 (i.2 : Nat)), (17, .slice (some ⟨z6, 0, none⟩) m z7), (18, .int .i64 (m : Nat)), (19, .int .i64 (i.1 : Nat))]) (fun _ => E1) (fun _ => .blk b2 (.cells (lkC m a b c d) 25 (0, 0)) :: L)
    (fun i => i.1 ≤ m ∧ i.2 + numT t (4 - i.1) (xs.drop i.1) = N) (fun i => m - i.1) (0, 0) ⟨Nat.zero_le _, by rw [← hN]; exact Nat.zero_add _⟩ ⟨rfl, rfl, rfl, rfl, rfl, trivial⟩ rfl rfl ?_
  rintro ⟨i, o⟩ ⟨hi, ho⟩
  simp only at hi ho ⊢
  by_cases hlm : i < m
  · have hx := i64s_get (List.getElem?_eq_getElem (l := xs) (i := i) (by omega))
    have hxo := hok.2 _ (List.getElem_mem (l := xs) (n := i) (by omega))
    rw [List.drop_eq_getElem_cons (by omega), show 4 - i = (4 - (i + 1)) + 1 by omega, numT_cons] at ho
    have hsum : lenT t (4 - (i + 1)) = sumP t (5 - (i + 1)) := by rw [lenT_sum]; congr 1; omega
    have hlb := lenT_le (t := t) (by omega) (f := 4 - (i + 1)) (by omega)
    have hbc := below_call E1 (.blk b2 (.cells (lkC m a b c d) 25 (0, 0)) :: L) (i + 1) t (by omega) (by omega) (by omega) hT
    rw [← hsum] at hbc
    generalize hy : xs[i] = y at *
    generalize lenT t (4 - (i + 1)) = q at *
    generalize hw : numT t (4 - (i + 1)) (xs.drop (i + 1)) = w at *
    obtain ⟨k, rfl⟩ : ∃ k : Nat, y = k := ⟨y.toNat, by omega⟩
    have hk : k < 8 := by omega
    have hkq : k * q ≤ 8 * 4681 := Nat.mul_le_mul (by omega) hlb
    have hmul : (k : Int) * q = (k * q : Nat) := by omega
    rw [Int.toNat_natCast] at ho
    refine G_seq (G_region ?_)
    refine G_val (V_lss rfl rfl rfl) rfl rfl (.none rfl) ?_
    refine G_end (X_then (G_seq ?_))
    refine G_cond_t rfl (decide_eq_true (by omega)) ?_
    refine G_skip (X_then (G_seq (G_block (G_seq (G_region ?_)))))
    refine G_val (V_move rfl rfl) rfl rfl (.none rfl) ?_
    refine G_val (V_idxAddr rfl rfl rfl (SlE.rd (by assumption)) (by omega) (by omega)) rfl rfl (.none rfl) ?_
    refine G_val (V_loadS rfl rfl (SlE.rd (by assumption)) (by assumption) (by simp)) rfl rfl (.none rfl) ?_
    refine G_val (V_assign rfl rfl) rfl rfl (.none rfl) ?_
    refine G_val (V_assign rfl rfl) rfl rfl (.none rfl) ?_
    refine G_end (X_then (G_region ?_))
    refine G_val (V_move rfl rfl) rfl rfl (.none rfl) ?_
    refine G_val (V_move rfl rfl) rfl rfl (.none rfl) ?_
    refine G_val (V_move rfl rfl) rfl rfl (.none rfl) ?_
    refine G_val (V_add_i64 rfl rfl rfl (by omega) (by omega)) rfl rfl (.none rfl) ?_
    refine G_val (V_move rfl rfl) rfl rfl (.none rfl) ?_
    refine G_callv (k := 56) (.mk rfl rfl rfl rfl) rfl rfl (.none rfl) hbc ?_
    refine G_val (V_mul_i64 rfl rfl rfl (by omega) (by omega)) rfl rfl (.none rfl) ?_
    refine G_val (V_add_i64 rfl rfl rfl (by omega) (by omega)) rfl rfl (.none rfl) ?_
    refine G_val (V_add_i64 rfl rfl rfl (by omega) (by omega)) rfl rfl (.none rfl) ?_
    refine G_val (V_assign rfl rfl) rfl rfl (.none rfl) ?_
    refine G_end (X_block (X_then (G_region ?_)))
    refine G_val (V_add_i64 rfl rfl rfl (by omega) (by omega)) rfl rfl (.none rfl) ?_
    refine G_val (V_move rfl rfl) rfl rfl (.none rfl) ?_
    refine G_end (X_then ?_)
    rw [hmul, show (o : Int) + (1 + (k * q : Nat)) = ((o + (1 + k * q) : Nat) : Int) by omega, show (i : Int) + 1 = ((i + 1 : Nat) : Int) by omega]
    exact G_again (i + 1, o + (1 + k * q)) ⟨hlm, by simp only; rw [hw]; omega⟩ (by simp only; omega) ⟨rfl, rfl, rfl, rfl, rfl, trivial⟩ rfl rfl
  · obtain rfl : i = m := by omega
    rw [List.drop_of_length_le (by omega), numT_nil, Nat.add_zero] at ho
    subst ho
    refine G_seq (G_region ?_)
    refine G_val (V_lss rfl rfl rfl) rfl rfl (.none rfl) ?_
    refine G_end (X_then (G_seq ?_))
    refine G_cond_f rfl (decide_eq_false (by omega)) ?_
    refine G_exit (X_then_exit (X_then_exit (X_block_hit (X_then (G_seq (G_region ?_))))))
    refine G_val (V_move rfl rfl) rfl rfl (.none rfl) ?_
    refine G_val (V_assign rfl rfl) rfl rfl (.none rfl) ?_
    refine G_val (V_assign rfl rfl) rfl rfl (.none rfl) ?_
    refine G_end (X_then (G_ret ?_))
    refine G_leaveS (.drop _ (.nil _)) (by exact (.cons (.tmp rfl) (.cons (.tmp rfl) (.nil)))) rfl ?_ ?_
    · exact hE1
    exact ⟨rfl, rfl⟩
end
end Go.Proofs.YthcfakmmomfcaaaDoor
set_option linter.unusedSimpArgs false
set_option linter.unusedVariables false
namespace Go.Proofs.YthcfakmmomfcaaaDoor
open Go.RowKit
section
variable {P : Program} {ops : Array Oper} {ro : Option Nat}
def walkR (ops : Array Oper) (g m : Nat) (π2 : List (Nat × Nat)) : List (Nat × Nat) → Array Bool → Bool
  | [], listed => walkB ops g m π2 listed
  | (i, k) :: π, listed => (match ops[i]? with
    | some x => (let D := descs ops i; (π ++ π2).all fun p => D.contains p.1 || (match ops[p.1]? with | some y => x.apart ops y | none => false))
    | none => false) && (k == 0 || k == 1) && (Region.ready .any ops listed).contains i && decide (i < m) && walkR ops g m π2 π (listed.setIfInBounds i true)
structure At0 (ops : Array Oper) (g m : Nat) (π1 π2 : List (Nat × Nat)) (listed : Array Bool) : Prop where
  chk : walkR ops g m π2 π1 listed = true
  inv : HeadInv .any ops m listed
  size : listed.size = ops.size
  left : ∀ i, i < m → (listed.getD i true = false ↔ ∃ k, (i, k) ∈ π1 ++ π2)
  nodup : ((π1 ++ π2).map Prod.fst).Nodup
  ct : ∀ t, m ≤ t → t < ops.size → listed.getD t true = false
theorem At0.at {g m : Nat} {π2 : List (Nat × Nat)} {listed : Array Bool} (h : At0 ops g m [] π2 listed) : At ops g m π2 [] listed listed :=
  ⟨h.chk, h.inv, fun _ h => h, h.size, fun i hi => (by rw [h.left i hi]; exact ⟨fun h => ⟨h, fun e he => (by cases he)⟩, fun h => h.1⟩), h.nodup, fun e he => (by cases he), (by simp), h.left, h.ct⟩
theorem At0.step {g m i k : Nat} {π1 π2 : List (Nat × Nat)} {listed : Array Bool} (h : At0 ops g m ((i, k) :: π1) π2 listed) :
    ∃ x, ops[i]? = some x ∧ (∀ p, p ∈ π1 ++ π2 → p.1 ∈ descs ops i ∨ ∃ y, ops[p.1]? = some y ∧ x.apart ops y = true) ∧ (k = 0 ∨ k = 1) ∧ i ∈ Region.ready .any ops listed ∧ i < m ∧ At0 ops g m π1 π2 (listed.setIfInBounds i true) := by
  have hc := h.chk
  simp only [walkR, Bool.and_eq_true, Bool.or_eq_true, decide_eq_true_eq, List.contains_iff_mem, beq_iff_eq] at hc
  obtain ⟨⟨⟨⟨h1, h2⟩, h3⟩, h4⟩, h5⟩ := hc
  split at h1
  · rename_i x hx
    simp only [List.all_eq_true, Bool.or_eq_true, List.contains_iff_mem] at h1
    refine ⟨x, hx, fun p hp => ?_, h2, h3, h4, h5, h.inv.set h3 h4, by simp [h.size], fun j hj => ?_, ?_, fun t ht ht' => ?_⟩
    · rcases h1 p hp with h6 | h6
      · exact .inl h6
      · split at h6
        · rename_i y hy
          exact .inr ⟨y, hy, h6⟩
        · cases h6
    · have hni : ∀ k', (i, k') ∉ π1 ++ π2 := fun k' hm => by
        have hnd := h.nodup
        simp only [List.cons_append, List.map_cons, List.nodup_cons] at hnd
        exact hnd.1 (List.mem_map.2 ⟨_, hm, rfl⟩)
      by_cases e : i = j
      · subst e
        have hlt : i < listed.size := by rw [h.size]; exact (Array.getElem?_eq_some_iff.1 hx).1
        rw [getD_set_self _ hlt]
        constructor
        · intro hh; cases hh
        · rintro ⟨k', hk'⟩; exact absurd hk' (hni k')
      · rw [getD_set_ne true e, h.left j hj]
        constructor
        · rintro ⟨k', hk'⟩
          rcases List.mem_cons.1 hk' with h6 | h6
          · cases h6; exact absurd rfl e
          · exact ⟨k', h6⟩
        · rintro ⟨k', hk'⟩; exact ⟨k', .tail _ hk'⟩
    · have hnd := h.nodup
      simp only [List.cons_append, List.map_cons, List.nodup_cons] at hnd
      exact hnd.2
    · rw [getD_set_ne true (by omega)]; exact h.ct t ht ht'
  · cases h1
theorem orders_pre {T : Act → Fam → Prop} {TT : Array Bool → Act → World → Prop} {g m : Nat} (hsel : ∀ (j : Nat) (o : Oper) cs b, ops[j]? = some o → o.op ≠ .select cs b)
    (hjm : ∀ listed, HeadInv .any ops m listed → Jm ops m listed) (hdone : ∀ listed a w, TT listed a w → ∀ j, j ∈ Region.ready .any ops listed → m ≤ j)
    (hT : ∀ listed a Φ M w, Region.seqB .any ops g m listed = true → T a Φ → Φ.ok M w → TT listed a w) (π2 : List (Nat × Nat)) :
    ∀ (π1 : List (Nat × Nat)) (J : World → Prop) (f : Nat) (a : Act) (Φ : Fam) (M : List Res) (w : World) (listed : Array Bool), f = (π1 ++ π2).length →
      (∀ w, Φ.J w → J w) → wpF P ops T J (π1 ++ π2) a Φ → At0 ops g m π1 π2 listed → Φ.ok M w → WJ P ops m TT J f listed a w := by
  intro π1
  induction π1 with
  | nil =>
    intro J f a Φ M w listed hf hJ hwp hat hok
    exact orders hsel hjm hdone hT π2 J f a Φ [] M w listed listed a (by simpa using hf) hJ hwp hat.at ⟨rfl, rfl, fun _ _ => rfl, fun e he => (by cases he)⟩ (fun e he => (by cases he)) (by simpa [blocks] using hok)
  | cons p π1 ih =>
    obtain ⟨i, k⟩ := p
    intro J f a Φ M w listed hf hJ hwp hat hok
    obtain ⟨x, hx, hpair, hk, hr, him, hat'⟩ := hat.step
    obtain ⟨o, ho, hwp⟩ := hwp
    have : o = x := Option.some.inj (ho.symm.trans hx)
    subst this
    obtain ⟨f, rfl⟩ : ∃ f', f = f' + 1 := ⟨(π1 ++ π2).length, by simpa using hf⟩
    have hf' : f = (π1 ++ π2).length := by simp only [List.cons_append, List.length_cons] at hf; omega
    have quiet : ∀ (J' : World → Prop) (u : Value), (∀ w, Φ.J w → J' w) → YJ P ops J' o u a → wpF P ops T J' (π1 ++ π2) (a.put o.dst u) Φ → WJ P ops m TT J' (f + 1) listed a w := by
      intro J' u hJ' hy h1
      refine WJ.first ho hsel hjm him hdone f listed a w hat.inv (fun j oj hj hji hjm' hju => ?_) hr hy (ih J' f _ Φ M w _ hf' hJ' h1 hat' hok)
      obtain ⟨kj, hkj⟩ := (hat.left j hjm').1 hju
      rcases List.mem_cons.1 hkj with h4 | h4
      · cases h4; exact absurd rfl hji
      · rcases hpair _ h4 with h5 | ⟨y, hy', h5⟩
        · exact .inl h5
        · have : y = oj := Option.some.inj (hy'.symm.trans hj)
          subst this
          exact .inr h5
    split at hwp
    · rename_i hw
      match k, hk, hwp with
      | 0, _, ⟨v, h1, h2⟩ => exact quiet J v hJ (.inl ⟨hw, fun w _ => h1 w⟩) h2
      | 1, _, ⟨v, J1, h1, h3, h2⟩ => exact WJ.mono (fun w h => h.1) _ _ _ _ (quiet (fun w => J w ∧ J1 w) v (fun w h => ⟨hJ w h, h3 w h⟩) (.inl ⟨hw, fun w hw => h1 w hw.2⟩) h2)
      | n + 2, hk, _ => exact absurd hk (by omega)
    · rename_i hw
      exact quiet J undef hJ (.inr ⟨by simpa using hw, rfl⟩) hwp
end
def drawR (l : List Oper) (m : Nat) (π1 π2 : List (Nat × Nat)) : Bool :=
  Region.noSelect l.toArray && noDefer l && ((decide (m < l.length) && Region.sinkB .any l.toArray m && Region.chainB .any l.toArray m) || decide (m = l.length)) &&
  decide ((π1 ++ π2).length = m) && nodupB ((π1 ++ π2).map Prod.fst) && ((List.range m).all fun i => ((π1 ++ π2).map Prod.fst).contains i) && walkR l.toArray (l.length - m) m π2 π1 (Array.replicate l.length false)
section draw
variable {P : Program} {ro : Option Nat} {n : Nat} {ds : List Deferred} {fs : List (Nat × Value)} {E : Env} {L L' : List Res} {Q : Exit → Act → World → Prop}
theorem G_drawR {id : Nat} {l : List Oper} (m : Nat) (π1 π2 : List (Nat × Nat)) (hm : P.follows .mixedOrders = true) (hB : drawR l m π1 π2 = true)
    (h : GF n ds fs E L (wpF P l.toArray (fun a Φ => ∀ M w, Φ.ok M w → wpListIn (Wd ro) 0 P l.toArray Q (l.drop m) a w) (JL []) (π1 ++ π2))) : G n ds fs E L ((Code.region id l.toArray true).wpIn (Wd ro) 0 P Q) := by
  intro a w ha hw
  simp only [drawR, Bool.and_eq_true, Bool.or_eq_true, decide_eq_true_eq, List.all_eq_true] at hB
  obtain ⟨⟨⟨⟨⟨⟨hsel, hnd⟩, hmm⟩, hlen⟩, hnodup⟩, hall⟩, hwalk⟩ := hB
  have hnd' : ∀ (i : Nat) (o : Oper) c, l.toArray[i]? = some o → o.op ≠ .defer c := by
    intro i o c ho hc'
    have hmem : o ∈ l := List.mem_of_getElem? (by simpa using ho)
    have := (List.all_eq_true.1 hnd) o hmem
    rw [hc'] at this; cases this
  have hml : m ≤ l.length := by rcases hmm with ⟨⟨h1, _⟩, _⟩ | h1 <;> omega
  have inv0 : HeadInv .any l.toArray m (Array.replicate l.length false) :=
    ⟨by simp, fun j oj _ hl => (by rw [getD_replicate_false] at hl; cases hl), fun t _ ht => getD_in (by simpa using ht) (getD_replicate_false _ _)⟩
  have hjm : ∀ listed, HeadInv .any l.toArray m listed → Jm l.toArray m listed := by
    intro listed inv i him hun t ht hr
    rcases hmm with ⟨⟨h1, hs⟩, hc⟩ | h1
    · exact tail_waits hs hc (by simpa using h1) inv (m - i) i rfl him hun t ht hr
    · obtain ⟨_, o, ho, _⟩ := mem_ready.1 hr
      have := (Array.getElem?_eq_some_iff.1 ho).1
      simp at this
      omega
  refine wpIn_region_any hm ?_
  have key := orders_pre (P := P) (T := fun a Φ => ∀ M w, Φ.ok M w → wpListIn (Wd ro) 0 P l.toArray Q (l.drop m) a w)
    (TT := fun listed a w => Region.seqB .any l.toArray (l.length - m) m listed = true ∧ wpListIn (Wd ro) 0 P l.toArray Q (l.drop m) a w) (Region.noSelect_spec hsel) hjm
    (fun listed a w hT => seqB_ready hT.1) (fun listed a Φ M w h1 h2 h3 => ⟨h1, h2 M w h3⟩) π2 π1 (JL []) m a (Fam.st E L) [] { w with drawn := w.drawn + 1 } (Array.replicate l.length false)
    hlen.symm (fun w hw p hp => (by cases hp)) (h a ha)
    ⟨hwalk, inv0, by simp, fun i him => ⟨fun _ => by
        obtain ⟨p, hp, he⟩ := List.mem_map.1 (List.contains_iff_mem.1 (hall i (List.mem_range.2 him)))
        exact ⟨p.2, by rw [← he]; exact hp⟩, fun _ => getD_in (by simp; omega) (getD_replicate_false _ _)⟩, nodupB_spec _ hnodup, fun t _ ht => getD_in (by simpa using ht) (getD_replicate_false _ _)⟩
    (show St E ([] ++ L) _ from hw.drew (w.drawn + 1))
  have := WJ.wp (ro := ro) (Q' := Q) (g := l.length - m) hnd' (fun listed a' w' hT => by
    have := seqIn (ro := ro) (P := P) (Q' := Q) (l.drop m) m listed a' w' (fun j => by simp) (by simpa using hT.1) hT.2
    simpa using this) _ _ _ _ key
  rw [show m + (l.length - m) = l.toArray.size by simp; omega] at this
  simpa using this
end draw
end Go.Proofs.YthcfakmmomfcaaaDoor
set_option linter.unusedSimpArgs false
set_option linter.unusedVariables false
set_option maxHeartbeats 2000000
set_option maxRecDepth 20000
namespace Go.Proofs.YthcfakmmomfcaaaDoor
open Go.RowKit
/-! Numbered. -/
theorem G.slWhich {n : Nat} {ds : List Deferred} {fs : List (Nat × Value)} {E : Env} {L : List Res} {X : Act → World → Prop} {e : TypeId} {sz k cap : Nat} {a : Option Addr} {xs : List Value} (h1 : a = none → cap = 0 → k = 0 → G n ds fs E (.sl e sz a k cap xs :: L) X)
    (h2 : ∀ g, a = some ⟨g, 0, none⟩ → G n ds fs E (.sl e sz a k cap xs :: L) X) : G n ds fs E (.sl e sz a k cap xs :: L) X := fun ac w ha hw => by
  have hok : slOk e sz a k cap xs (fun b => w.heap[b]?) := hw.own _ (.head _)
  rcases hok.2 with ⟨q1, q2, q3⟩ | ⟨g, cur, q1, _⟩
  · exact h1 q1 q2 q3 ac w ha hw
  · exact h2 g q1 ac w ha hw
def nbM (n terms : Int) : List Int × Int := if terms < 1 ∨ 8 < terms ∨ n < 0 ∨ (lenT terms.toNat 4 : Nat) ≤ n then ([], 2) else (((lookT terms.toNat 4)[n.toNat]?).getD [], 0)
theorem lookT_step {t f n : Nat} {r : List Int} (h : (lookT t f)[n]? = some r) (hn : 0 < n) : ∃ f' r', f = f' + 1 ∧ n - 1 < t * lenT t f' ∧ (lookT t f')[(n - 1) % lenT t f']? = some r' ∧ r = (((n - 1) / lenT t f' : Nat) : Int) :: r' := by
  rcases f with _ | f
  · rcases n with _ | n
    · omega
    · simp [lookT] at h
  · obtain ⟨i, rfl⟩ : ∃ i, n = i + 1 := ⟨n - 1, by omega⟩
    have hlt : i < t * lenT t f := by
      have := (List.getElem?_eq_some_iff.1 h).1
      rw [lookT_len, lenT] at this
      omega
    rw [lookT_succ _ _ _ hlt, Option.map_eq_some_iff] at h
    obtain ⟨r', h1, h2⟩ := h
    exact ⟨f, r', rfl, hlt, h1, h2.symm⟩
section
variable (E : Env) (L : List Res)
theorem Numbered_call (hT : SlE E 1 (some ⟨5, 1, none⟩) 1 [.int .u8 1]) (n terms : Int) : CallS Tryd.prog 33 #[.int .i64 n, .int .i64 terms] E L (fun r E' L' => r = .tuple #[lkP (nbM n terms).1, .int .i64 (nbM n terms).2] ∧ L = L') := by
  unfold nbM
  by_cases ht : terms < 1 ∨ 8 < terms ∨ n < 0
  · rw [if_pos (by omega)]
    by_cases h1 : terms < 1
    · refine CallS.intro (l := [_, _]) _ Tryd.func33 rfl Tryd.ntmps33 rfl ?_
      refine G_seq (G_region ?_)
      (refine G_alloc rfl rfl rfl (.none rfl) ?_; intro b4)
      refine G_val (V_assign rfl rfl) rfl rfl (.none rfl) ?_
      refine G_end (X_then (G_seq (G_seq (G_region ?_))))
      refine G_val (V_move rfl rfl) rfl rfl (.none rfl) ?_
      refine G_val (V_lss rfl rfl rfl) rfl rfl (.none rfl) ?_
      refine G_val (V_move rfl rfl) rfl rfl (.none rfl) ?_
      refine G.bool_t 10 rfl (decide_eq_true (by omega)) ?_
      refine G_stay (.no rfl rfl rfl rfl) rfl rfl ?_
      refine G_stay (.no rfl rfl rfl rfl) rfl rfl ?_
      refine G_val (V_pick_t rfl rfl rfl) rfl rfl (.none rfl) ?_
      refine G_val (V_move rfl rfl) rfl rfl (.none rfl) ?_
      refine G_stay (.no rfl rfl rfl rfl) rfl rfl ?_
      refine G_stay (.no rfl rfl rfl rfl) rfl rfl ?_
      refine G_val (V_pick_t rfl rfl rfl) rfl rfl (.none rfl) ?_
      refine G_val (V_move rfl rfl) rfl rfl (.none rfl) ?_
      refine G_stay (.no rfl rfl rfl rfl) rfl rfl ?_
      refine G_stay (.no rfl rfl rfl rfl) rfl rfl ?_
      refine G_stay (.no rfl rfl rfl rfl) rfl rfl ?_
      refine G_stay (.no rfl rfl rfl rfl) rfl rfl ?_
      refine G_val (V_pick_t rfl rfl rfl) rfl rfl (.none rfl) ?_
      refine G_end (X_then ?_)
      refine G_cond_t rfl rfl ?_
      refine G_seq (G_region ?_)
      refine G_val (V_build rfl rfl (by simp [fillV, setLs, setL, Value.cells]; rfl)) rfl rfl (.none rfl) ?_
      refine G_storeA rfl rfl rfl rfl (by simp [Value.oneCell']) rfl (.none rfl) (.head _ _ _) rfl ?_
      refine G_val (V_assign rfl rfl) rfl rfl (.none rfl) ?_
      refine G_end (X_then (G_ret (X_then_ret ?_)))
      refine G_leaveS (.drop _ (.nil _)) (by exact (.cons (.cellA rfl (Cells.own (.head _)) rfl) (.cons (.tmp rfl) (.nil)))) rfl ?_ ?_
      · exact (.refl _)
      exact ⟨(by kernel_rfl), rfl⟩
    by_cases h2 : 8 < terms
    · refine CallS.intro (l := [_, _]) _ Tryd.func33 rfl Tryd.ntmps33 rfl ?_
      refine G_seq (G_region ?_)
      (refine G_alloc rfl rfl rfl (.none rfl) ?_; intro b4)
      refine G_val (V_assign rfl rfl) rfl rfl (.none rfl) ?_
      refine G_end (X_then (G_seq (G_seq (G_region ?_))))
      refine G_val (V_move rfl rfl) rfl rfl (.none rfl) ?_
      refine G_val (V_lss rfl rfl rfl) rfl rfl (.none rfl) ?_
      refine G_val (V_move rfl rfl) rfl rfl (.none rfl) ?_
      refine G.bool_f 10 rfl (decide_eq_false (by omega)) ?_
      refine G_val (V_move rfl rfl) rfl rfl (.yes rfl rfl rfl rfl) ?_
      refine G_val (V_gtr rfl rfl rfl) rfl rfl (.yes rfl rfl rfl rfl) ?_
      refine G_val (V_pick_f rfl rfl rfl) rfl rfl (.none rfl) ?_
      refine G_val (V_move rfl rfl) rfl rfl (.none rfl) ?_
      refine G.bool_t 14 rfl (decide_eq_true (by omega)) ?_
      refine G_stay (.no rfl rfl rfl rfl) rfl rfl ?_
      refine G_stay (.no rfl rfl rfl rfl) rfl rfl ?_
      refine G_val (V_pick_t rfl rfl rfl) rfl rfl (.none rfl) ?_
      refine G_val (V_move rfl rfl) rfl rfl (.none rfl) ?_
      refine G_stay (.no rfl rfl rfl rfl) rfl rfl ?_
      refine G_stay (.no rfl rfl rfl rfl) rfl rfl ?_
      refine G_stay (.no rfl rfl rfl rfl) rfl rfl ?_
      refine G_stay (.no rfl rfl rfl rfl) rfl rfl ?_
      refine G_val (V_pick_t rfl rfl rfl) rfl rfl (.none rfl) ?_
      refine G_end (X_then ?_)
      refine G_cond_t rfl rfl ?_
      refine G_seq (G_region ?_)
      refine G_val (V_build rfl rfl (by simp [fillV, setLs, setL, Value.cells]; rfl)) rfl rfl (.none rfl) ?_
      refine G_storeA rfl rfl rfl rfl (by simp [Value.oneCell']) rfl (.none rfl) (.head _ _ _) rfl ?_
      refine G_val (V_assign rfl rfl) rfl rfl (.none rfl) ?_
      refine G_end (X_then (G_ret (X_then_ret ?_)))
      refine G_leaveS (.drop _ (.nil _)) (by exact (.cons (.cellA rfl (Cells.own (.head _)) rfl) (.cons (.tmp rfl) (.nil)))) rfl ?_ ?_
      · exact (.refl _)
      exact ⟨(by kernel_rfl), rfl⟩
    have h3 : n < 0 := by omega
    refine CallS.intro (l := [_, _]) _ Tryd.func33 rfl Tryd.ntmps33 rfl ?_
    refine G_seq (G_region ?_)
    (refine G_alloc rfl rfl rfl (.none rfl) ?_; intro b4)
    refine G_val (V_assign rfl rfl) rfl rfl (.none rfl) ?_
    refine G_end (X_then (G_seq (G_seq (G_region ?_))))
    refine G_val (V_move rfl rfl) rfl rfl (.none rfl) ?_
    refine G_val (V_lss rfl rfl rfl) rfl rfl (.none rfl) ?_
    refine G_val (V_move rfl rfl) rfl rfl (.none rfl) ?_
    refine G.bool_f 10 rfl (decide_eq_false (by omega)) ?_
    refine G_val (V_move rfl rfl) rfl rfl (.yes rfl rfl rfl rfl) ?_
    refine G_val (V_gtr rfl rfl rfl) rfl rfl (.yes rfl rfl rfl rfl) ?_
    refine G_val (V_pick_f rfl rfl rfl) rfl rfl (.none rfl) ?_
    refine G_val (V_move rfl rfl) rfl rfl (.none rfl) ?_
    refine G.bool_f 14 rfl (decide_eq_false (by omega)) ?_
    refine G_val (V_move rfl rfl) rfl rfl (.yes rfl rfl rfl rfl) ?_
    refine G_val (V_lss rfl rfl rfl) rfl rfl (.yes rfl rfl rfl rfl) ?_
    refine G_val (V_pick_f rfl rfl rfl) rfl rfl (.none rfl) ?_
    refine G_val (V_move rfl rfl) rfl rfl (.none rfl) ?_
    refine G.bool_t 18 rfl (decide_eq_true (by omega)) ?_
    refine G_stay (.no rfl rfl rfl rfl) rfl rfl ?_
    refine G_stay (.no rfl rfl rfl rfl) rfl rfl ?_
    refine G_stay (.no rfl rfl rfl rfl) rfl rfl ?_
    refine G_stay (.no rfl rfl rfl rfl) rfl rfl ?_
    refine G_val (V_pick_t rfl rfl rfl) rfl rfl (.none rfl) ?_
    refine G_end (X_then ?_)
    refine G_cond_t rfl rfl ?_
    refine G_seq (G_region ?_)
    refine G_val (V_build rfl rfl (by simp [fillV, setLs, setL, Value.cells]; rfl)) rfl rfl (.none rfl) ?_
    refine G_storeA rfl rfl rfl rfl (by simp [Value.oneCell']) rfl (.none rfl) (.head _ _ _) rfl ?_
    refine G_val (V_assign rfl rfl) rfl rfl (.none rfl) ?_
    refine G_end (X_then (G_ret (X_then_ret ?_)))
    refine G_leaveS (.drop _ (.nil _)) (by exact (.cons (.cellA rfl (Cells.own (.head _)) rfl) (.cons (.tmp rfl) (.nil)))) rfl ?_ ?_
    · exact (.refl _)
    exact ⟨(by kernel_rfl), rfl⟩
  obtain ⟨t, rfl⟩ : ∃ t : Nat, terms = t := ⟨terms.toNat, by omega⟩
  obtain ⟨m, rfl⟩ : ∃ m : Nat, n = m := ⟨n.toNat, by omega⟩
  simp only [Int.toNat_natCast]
  have hsum : lenT t 4 = sumP t (5 - 0) := lenT_sum t 4
  have hle := lenT_le (t := t) (by omega) (f := 4) (by omega)
  have hb0 := fun L1 => below_call E L1 0 t (by omega) (by omega) (by omega) hT
  rw [← hsum] at hb0
  by_cases hm : lenT t 4 ≤ m
  · rw [if_pos (by omega)]
    generalize lenT t 4 = q at *
    refine CallS.intro (l := [_, _]) _ Tryd.func33 rfl Tryd.ntmps33 rfl ?_
    refine G_seq (G_region ?_)
    (refine G_alloc rfl rfl rfl (.none rfl) ?_; intro b4)
    refine G_val (V_assign rfl rfl) rfl rfl (.none rfl) ?_
    refine G_end (X_then (G_seq (G_seq (G_region ?_))))
    refine G_val (V_move rfl rfl) rfl rfl (.none rfl) ?_
    refine G_val (V_lss rfl rfl rfl) rfl rfl (.none rfl) ?_
    refine G_val (V_move rfl rfl) rfl rfl (.none rfl) ?_
    refine G.bool_f 10 rfl (decide_eq_false (by omega)) ?_
    refine G_val (V_move rfl rfl) rfl rfl (.yes rfl rfl rfl rfl) ?_
    refine G_val (V_gtr rfl rfl rfl) rfl rfl (.yes rfl rfl rfl rfl) ?_
    refine G_val (V_pick_f rfl rfl rfl) rfl rfl (.none rfl) ?_
    refine G_val (V_move rfl rfl) rfl rfl (.none rfl) ?_
    refine G.bool_f 14 rfl (decide_eq_false (by omega)) ?_
    refine G_val (V_move rfl rfl) rfl rfl (.yes rfl rfl rfl rfl) ?_
    refine G_val (V_lss rfl rfl rfl) rfl rfl (.yes rfl rfl rfl rfl) ?_
    refine G_val (V_pick_f rfl rfl rfl) rfl rfl (.none rfl) ?_
    refine G_val (V_move rfl rfl) rfl rfl (.none rfl) ?_
    refine G.bool_f 18 rfl (decide_eq_false (by omega)) ?_
    refine G_val (V_move rfl rfl) rfl rfl (.yes rfl rfl rfl rfl) ?_
    refine G_val (V_move rfl rfl) rfl rfl (.yes rfl rfl rfl rfl) ?_
    refine G_callv (k := 56) (.mk rfl rfl rfl rfl) rfl rfl (.yes rfl rfl rfl rfl) (hb0 _) ?_
    refine G_val (V_geq rfl rfl rfl) rfl rfl (.yes rfl rfl rfl rfl) ?_
    refine G_val (V_pick_f rfl rfl rfl) rfl rfl (.none rfl) ?_
    refine G_end (X_then ?_)
    refine G_cond_t rfl (decide_eq_true (by omega)) ?_
    refine G_seq (G_region ?_)
    refine G_val (V_build rfl rfl (by simp [fillV, setLs, setL, Value.cells]; rfl)) rfl rfl (.none rfl) ?_
    refine G_storeA rfl rfl rfl rfl (by simp [Value.oneCell']) rfl (.none rfl) (.head _ _ _) rfl ?_
    refine G_val (V_assign rfl rfl) rfl rfl (.none rfl) ?_
    refine G_end (X_then (G_ret (X_then_ret ?_)))
    refine G_leaveS (.drop _ (.nil _)) (by exact (.cons (.cellA rfl (Cells.own (.head _)) rfl) (.cons (.tmp rfl) (.nil)))) rfl ?_ ?_
    · exact (.refl _)
    exact ⟨(by kernel_rfl), rfl⟩
  · rw [if_neg (by omega)]
    obtain ⟨res, hres⟩ : ∃ res, (lookT t 4)[m]? = some res := ⟨_, List.getElem?_eq_getElem (by rw [lookT_len]; omega)⟩
    rw [hres, Option.getD_some]
    generalize lenT t 4 = q at *
    refine CallS.intro (l := [_, _]) _ Tryd.func33 rfl Tryd.ntmps33 rfl ?_
    refine G_seq (G_region ?_)
    (refine G_alloc rfl rfl rfl (.none rfl) ?_; intro b4)
    refine G_val (V_assign rfl rfl) rfl rfl (.none rfl) ?_
    refine G_end (X_then (G_seq (G_seq (G_region ?_))))
    refine G_val (V_move rfl rfl) rfl rfl (.none rfl) ?_
    refine G_val (V_lss rfl rfl rfl) rfl rfl (.none rfl) ?_
    refine G_val (V_move rfl rfl) rfl rfl (.none rfl) ?_
    refine G.bool_f 10 rfl (decide_eq_false (by omega)) ?_
    refine G_val (V_move rfl rfl) rfl rfl (.yes rfl rfl rfl rfl) ?_
    refine G_val (V_gtr rfl rfl rfl) rfl rfl (.yes rfl rfl rfl rfl) ?_
    refine G_val (V_pick_f rfl rfl rfl) rfl rfl (.none rfl) ?_
    refine G_val (V_move rfl rfl) rfl rfl (.none rfl) ?_
    refine G.bool_f 14 rfl (decide_eq_false (by omega)) ?_
    refine G_val (V_move rfl rfl) rfl rfl (.yes rfl rfl rfl rfl) ?_
    refine G_val (V_lss rfl rfl rfl) rfl rfl (.yes rfl rfl rfl rfl) ?_
    refine G_val (V_pick_f rfl rfl rfl) rfl rfl (.none rfl) ?_
    refine G_val (V_move rfl rfl) rfl rfl (.none rfl) ?_
    refine G.bool_f 18 rfl (decide_eq_false (by omega)) ?_
    refine G_val (V_move rfl rfl) rfl rfl (.yes rfl rfl rfl rfl) ?_
    refine G_val (V_move rfl rfl) rfl rfl (.yes rfl rfl rfl rfl) ?_
    refine G_callv (k := 56) (.mk rfl rfl rfl rfl) rfl rfl (.yes rfl rfl rfl rfl) (hb0 _) ?_
    refine G_val (V_geq rfl rfl rfl) rfl rfl (.yes rfl rfl rfl rfl) ?_
    refine G_val (V_pick_f rfl rfl rfl) rfl rfl (.none rfl) ?_
    refine G_end (X_then ?_)
    refine G_cond_f rfl (decide_eq_false (by omega)) ?_
    refine G_skip (X_then (G_seq (G_region ?_)))
    refine G_val (V_assign rfl rfl) rfl rfl (.none rfl) ?_
    refine G_end (X_then (G_seq (G_block ?_)))
    refine G.nilSl 3 1 ?_
    refine G_loop (α := Nat × List Int × Option Addr × Nat × Env) (fun x => [(0, .int .i64 (x.1 : Nat)), (1, .int .i64 (t : Nat)), (4, .pointer (some ⟨b4, 0, none⟩)), (5, .int .i64 0), (6, .slice x.2.2.1 x.2.1.length x.2.2.2.1)]) (fun x => x.2.2.2.2)
      (fun x => .sl 3 1 x.2.2.1 x.2.1.length x.2.2.2.1 (i64s x.2.1) :: .blk b4 (.cells (lkC 0 0 0 0 0) 25 (0, 0)) :: L)
      (fun x => x.1 ≤ 4681 ∧ E.Le x.2.2.2.2 ∧ x.2.1.length ≤ 4 ∧ ∃ r, (lookT t (4 - x.2.1.length))[x.1]? = some r ∧ x.2.1 ++ r = res) (fun x => 4 - x.2.1.length) (m, [], none, 0, E) ⟨by simp only; omega, .refl _, by simp, res, hres, rfl⟩ ⟨rfl, rfl, rfl, rfl, rfl, trivial⟩ rfl rfl ?_
    rintro ⟨k, l, p, c, E1⟩ ⟨hk, hE1, hl4, r, hr, hlr⟩
    simp only at hk hE1 hl4 hr hlr ⊢
    by_cases hk0 : 0 < k
    · obtain ⟨f', r', hf, hlt, hr', rfl⟩ := lookT_step hr hk0
      have hf2 : f' = 4 - (l.length + 1) := by omega
      have hsum2 : lenT t f' = sumP t (5 - (l.length + 1)) := by rw [lenT_sum]; congr 1; omega
      have hbc := fun L1 => below_call E1 L1 (l.length + 1) t (by omega) (by omega) (by omega) (hT.mono hE1)
      have hpos := lenT_pos t f'
      rw [← hsum2] at hbc
      have hqb := lenT_le (t := t) (by omega) (f := f') (by omega)
      generalize hq : lenT t f' = w at *
      have hdiv : ((k : Int) - 1).tdiv w = (((k - 1) / w : Nat) : Int) := by
        rw [show (k : Int) - 1 = ((k - 1 : Nat) : Int) by omega]; rfl
      have hmod : ((k : Int) - 1).tmod w = (((k - 1) % w : Nat) : Int) := by
        rw [show (k : Int) - 1 = ((k - 1 : Nat) : Int) by omega]; rfl
      refine G_seq (G_seq (G_region ?_))
      refine G_val (V_move rfl rfl) rfl rfl (.none rfl) ?_
      refine G_val (V_gtr rfl rfl rfl) rfl rfl (.none rfl) ?_
      refine G_end (X_then ?_)
      refine G_cond_t rfl (decide_eq_true (by omega)) ?_
      refine G_skip (X_then (G_block (G_seq (G_region ?_))))
      refine G_val (V_move rfl rfl) rfl rfl (.none rfl) ?_
      refine G_val (V_sub_i64 rfl rfl rfl (by omega) (by omega)) rfl rfl (.none rfl) ?_
      refine G_val (V_assign rfl rfl) rfl rfl (.none rfl) ?_
      refine G_end (X_then (G_seq (G_region ?_)))
      refine G_val (V_move rfl rfl) rfl rfl (.none rfl) ?_
      refine G_val (V_lenS rfl rfl) rfl rfl (.none rfl) ?_
      refine G_val (V_add_i64 rfl rfl rfl (by omega) (by omega)) rfl rfl (.none rfl) ?_
      refine G_val (V_move rfl rfl) rfl rfl (.none rfl) ?_
      refine G_callv (k := 56) (.mk rfl rfl rfl rfl) rfl rfl (.none rfl) (hbc _) ?_
      refine G_val (V_assign rfl rfl) rfl rfl (.none rfl) ?_
      refine G_end (X_then ?_)
      have hsn : i64s l ++ [.int .i64 (((k - 1) / w : Nat) : Int)] = i64s (l ++ [(((k - 1) / w : Nat) : Int)]) := by simp [i64s]
      have hdv : ((k : Int) - 1) / w = (((k - 1) / w : Nat) : Int) := by
        rw [show (k : Int) - 1 = ((k - 1 : Nat) : Int) by omega]; rfl
      have hmd : ((k : Int) - 1) % w = (((k - 1) % w : Nat) : Int) := by
        rw [show (k : Int) - 1 = ((k - 1 : Nat) : Int) by omega]; rfl
      have hll : l.length + 1 = (l ++ [(((k - 1) / w : Nat) : Int)]).length := by simp
      have hmlt : (k - 1) % w < w := Nat.mod_lt _ hpos
      refine G.slWhich ?_ ?_
      · rintro rfl rfl hl0
        obtain rfl := List.eq_nil_of_length_eq_zero hl0
        refine G_drawR 10 [(0, 0), (1, 0), (2, 0), (3, 0), (6, 0), (7, 0), (8, 0)] [(4, 2), (5, 3), (9, 0)] mixed (by kernel_rfl) ?_
        dsimp only [List.cons_append, List.nil_append]
        refine F_pure rfl (fun _ _ => V_move rfl rfl) rfl rfl (.none rfl) ?_
        refine F_pure rfl (fun _ _ => V_move rfl rfl) rfl rfl (.none rfl) ?_
        refine F_pure rfl (fun _ _ => V_move rfl rfl) rfl rfl (.none rfl) ?_
        refine F_pure rfl (fun _ _ => V_quo_n rfl rfl rfl (by omega) (by omega) (by simp [IntKind.max, IntKind.signed, IntKind.bits]; omega)) rfl rfl (.none rfl) ?_
        refine F_pure rfl (fun _ _ => V_move rfl rfl) rfl rfl (.none rfl) ?_
        refine F_pure rfl (fun _ _ => V_move rfl rfl) rfl rfl (.none rfl) ?_
        refine F_pure rfl (fun _ _ => V_rem_n rfl rfl rfl (by omega) (by omega)) rfl rfl (.none rfl) ?_
        (refine F_litZ rfl rfl rfl (by decide) (by simp [fillS, zeros, setLs, setL, Value.cells, List.range, List.range.loop]; rfl) (by rfl) rfl rfl (.none rfl) ?_; intro b38 E38 hE38 hs38)
        refine F_appendO rfl rfl rfl rfl (SlE.nil (sz := 1)) hs38 (by omega) (by omega) (by omega) rfl rfl (.none rfl) ?_
        intro b39 c39
        refine F_pure rfl (fun _ _ => V_assign rfl rfl) rfl rfl (.none rfl) ?_
        (refine F_end (.nil _) ?_; dsimp only [List.drop])
        refine G_val (V_assign rfl rfl) rfl rfl (.none rfl) ?_
        refine G_end (X_block (X_then ?_))
        rw [hdv, hmd]
        refine G.perm _ (List.Perm.swap _ _ _) (G.drop ?_)
        exact G_again ((k - 1) % w, [(((k - 1) / w : Nat) : Int)], some ⟨b39, 0, none⟩, c39, E38) ⟨by simp only; omega, hE1.trans hE38, by simp, r', by rw [← hr', hf2]; rfl, hlr⟩ (by simp only [List.length_cons, List.length_nil]; omega) ⟨rfl, rfl, rfl, rfl, rfl, trivial⟩ rfl rfl
      · rintro g rfl
        refine G_drawR 10 [(0, 0), (1, 0), (2, 0), (3, 0), (6, 0), (7, 0), (8, 0)] [(4, 2), (5, 3), (9, 0)] mixed (by kernel_rfl) ?_
        dsimp only [List.cons_append, List.nil_append]
        refine F_pure rfl (fun _ _ => V_move rfl rfl) rfl rfl (.none rfl) ?_
        refine F_pure rfl (fun _ _ => V_move rfl rfl) rfl rfl (.none rfl) ?_
        refine F_pure rfl (fun _ _ => V_move rfl rfl) rfl rfl (.none rfl) ?_
        refine F_pure rfl (fun _ _ => V_quo_n rfl rfl rfl (by omega) (by omega) (by simp [IntKind.max, IntKind.signed, IntKind.bits]; omega)) rfl rfl (.none rfl) ?_
        refine F_pure rfl (fun _ _ => V_move rfl rfl) rfl rfl (.none rfl) ?_
        refine F_pure rfl (fun _ _ => V_move rfl rfl) rfl rfl (.none rfl) ?_
        refine F_pure rfl (fun _ _ => V_rem_n rfl rfl rfl (by omega) (by omega)) rfl rfl (.none rfl) ?_
        (refine F_litZ rfl rfl rfl (by decide) (by simp [fillS, zeros, setLs, setL, Value.cells, List.range, List.range.loop]; rfl) (by rfl) rfl rfl (.none rfl) ?_; intro b38 E38 hE38 hs38)
        (refine F_append2 rfl rfl rfl rfl (by assumption) (by simp [Value.oneCell', strs, i64s]) (by omega) (by omega) rfl rfl (.none rfl) (fun _ _ => (.head _ _ _)) ?_; intro b39 c39 N39; dsimp only [List.cons_append])
        refine F_pure rfl (fun _ _ => V_assign rfl rfl) rfl rfl (.none rfl) ?_
        (refine F_end (.keep _ (.keep _ (.suf _ (.nil _)))) ?_; dsimp only [List.drop])
        refine G_val (V_assign rfl rfl) rfl rfl (.none rfl) ?_
        refine G_end (X_block (X_then ?_))
        rw [hdv, hmd, hsn, hll]
        exact G_again ((k - 1) % w, l ++ [(((k - 1) / w : Nat) : Int)], some ⟨b39, 0, none⟩, c39, E38) ⟨by simp only; omega, hE1.trans hE38, by simp only [List.length_append, List.length_singleton]; omega, r', by simp only; rw [← hll, ← hf2]; exact hr', by simp only [List.append_assoc, List.singleton_append]; exact hlr⟩ (by simp only [List.length_append, List.length_singleton]; omega) ⟨rfl, rfl, rfl, rfl, rfl, trivial⟩ rfl rfl
    · obtain rfl : k = 0 := by omega
      rw [lookT_zero] at hr
      obtain rfl := Option.some.inj hr
      rw [List.append_nil] at hlr
      subst hlr
      refine G_seq (G_seq (G_region ?_))
      refine G_val (V_move rfl rfl) rfl rfl (.none rfl) ?_
      refine G_val (V_gtr rfl rfl rfl) rfl rfl (.none rfl) ?_
      refine G_end (X_then ?_)
      refine G_cond_f rfl (by kernel_rfl) ?_
      refine G_exit (X_then_exit (X_then_exit (X_block_hit (X_then (G_seq (G_region ?_))))))
      refine G_val (V_move rfl rfl) rfl rfl (.none rfl) ?_
      refine G.freezeSl (.head _ _) ?_
      intro E2 hE2 hs2 _
      refine G_callv (k := 46) (.mk rfl rfl rfl rfl) rfl rfl (.none rfl) (of_call _ _ p _ c l (SlE.rd hs2)) ?_
      rw [lkP_eq _ hl4]
      refine G_storeA rfl rfl rfl rfl (by simp [Value.oneCell']) rfl (.none rfl) (.head _ _ _) rfl ?_
      refine G_val (V_assign rfl rfl) rfl rfl (.none rfl) ?_
      refine G_end (X_then (G_ret ?_))
      refine G_leaveS (.drop _ (.nil _)) (by exact (.cons (.cellA rfl (Cells.own (.head _)) rfl) (.cons (.tmp rfl) (.nil)))) rfl ?_ ?_
      · exact (hE1.trans hE2)
      exact ⟨rfl, rfl⟩
end
end Go.Proofs.YthcfakmmomfcaaaDoor
set_option linter.unusedSimpArgs false
set_option linter.unusedVariables false
set_option maxHeartbeats 2000000
set_option maxRecDepth 20000
namespace Go.Proofs.YthcfakmmomfcaaaDoor
open Go.RowKit
/-! The references All, Number, Numbered. -/
section
variable (E : Env) (L : List Res)
theorem Rall_call' (t f : Nat) (ht : t ≤ 8) (hf : f ≤ 4) : CallS Tryd.prog 57 #[.int .i64 (t : Nat), .int .i64 (f : Nat), lk 0 0 0 0 0] E L (fun r E' L' => ∃ q c, r = .slice q (lookT t f).length c ∧ SlE E' 5 q (lookT t f).length (lksC (lookT t f)) ∧ L = L') := by
  have h := Rall_call t ht f [] (by simpa using hf) E L
  have hmap : (lookT t f).map (([] : List Int) ++ ·) = lookT t f := by simp
  rw [hmap, show ([] : List Int).length + f = f from Nat.zero_add f] at h
  exact h
theorem RAll_call (terms k : Int) : CallS Tryd.prog 36 #[.int .i64 terms, .int .i64 k] E L (fun r E' L' => ∃ p c, r = .tuple #[.slice p (allM terms k).1.length c, .int .i64 (allM terms k).2] ∧ SlE E' 5 p (allM terms k).1.length (lksC (allM terms k).1) ∧ L = L') := by
  unfold allM
  by_cases h : terms < 1 ∨ 8 < terms ∨ k < 0 ∨ 4 < k
  · rw [if_pos h]
    have hnil : SlE E 5 none 0 (lksC []) := SlE.nil
    refine CallS.intro (l := [_, _]) _ Tryd.func36 rfl Tryd.ntmps36 rfl ?_
    refine G_seq (G_region ?_)
    refine G_val (V_assign rfl rfl) rfl rfl (.none rfl) ?_
    refine G_val (V_assign rfl rfl) rfl rfl (.none rfl) ?_
    refine G_end (X_then (G_seq (G_seq (G_region ?_))))
    refine G_val (V_move rfl rfl) rfl rfl (.none rfl) ?_
    refine G_val (V_lss rfl rfl rfl) rfl rfl (.none rfl) ?_
    refine G_val (V_move rfl rfl) rfl rfl (.none rfl) ?_
    apply G_joinOr 3 8 11 rfl
    · intro H1
      dsimp only [List.take]
      simp only [Bool.and_eq_true, Bool.or_eq_true, Bool.not_eq_true', Bool.not_eq_false', Bool.and_eq_false_iff, Bool.or_eq_false_iff, Bool.not_not, decide_eq_true_eq, decide_eq_false_iff_not, ne_eq, Decidable.not_not, Bool.decide_eq_true] at H1
      refine G_stay (.no rfl rfl rfl rfl) rfl rfl ?_
      refine G_stay (.no rfl rfl rfl rfl) rfl rfl ?_
      refine G_val (V_pick_t rfl rfl rfl) rfl rfl (.none rfl) ?_
      refine G_end ?_
      exact JQ_end 3 rfl rfl (by kernel_rfl)
    · intro H2
      dsimp only [List.take]
      simp only [Bool.and_eq_true, Bool.or_eq_true, Bool.not_eq_true', Bool.not_eq_false', Bool.and_eq_false_iff, Bool.or_eq_false_iff, Bool.not_not, decide_eq_true_eq, decide_eq_false_iff_not, ne_eq, Decidable.not_not, Bool.decide_eq_true] at H2
      refine G_val (V_move rfl rfl) rfl rfl (.yes rfl rfl rfl rfl) ?_
      refine G_val (V_gtr rfl rfl rfl) rfl rfl (.yes rfl rfl rfl rfl) ?_
      refine G_val (V_pick_f rfl rfl rfl) rfl rfl (.none rfl) ?_
      refine G_end ?_
      exact JQ_end 3 rfl rfl (by kernel_rfl)
    dsimp only [List.drop]
    refine G_val (V_move rfl rfl) rfl rfl (.none rfl) ?_
    apply G_joinOr 3 12 15 rfl
    · intro H3
      dsimp only [List.take]
      simp only [Bool.and_eq_true, Bool.or_eq_true, Bool.not_eq_true', Bool.not_eq_false', Bool.and_eq_false_iff, Bool.or_eq_false_iff, Bool.not_not, decide_eq_true_eq, decide_eq_false_iff_not, ne_eq, Decidable.not_not, Bool.decide_eq_true] at H3
      refine G_stay (.no rfl rfl rfl rfl) rfl rfl ?_
      refine G_stay (.no rfl rfl rfl rfl) rfl rfl ?_
      refine G_val (V_pick_t rfl rfl rfl) rfl rfl (.none rfl) ?_
      refine G_end ?_
      exact JQ_end 3 rfl rfl (by kernel_rfl)
    · intro H4
      dsimp only [List.take]
      simp only [Bool.and_eq_true, Bool.or_eq_true, Bool.not_eq_true', Bool.not_eq_false', Bool.and_eq_false_iff, Bool.or_eq_false_iff, Bool.not_not, decide_eq_true_eq, decide_eq_false_iff_not, ne_eq, Decidable.not_not, Bool.decide_eq_true] at H4
      refine G_val (V_move rfl rfl) rfl rfl (.yes rfl rfl rfl rfl) ?_
      refine G_val (V_lss rfl rfl rfl) rfl rfl (.yes rfl rfl rfl rfl) ?_
      refine G_val (V_pick_f rfl rfl rfl) rfl rfl (.none rfl) ?_
      refine G_end ?_
      exact JQ_end 3 rfl rfl (by kernel_rfl)
    dsimp only [List.drop]
    refine G_val (V_move rfl rfl) rfl rfl (.none rfl) ?_
    apply G_joinOr 3 16 19 rfl
    · intro H5
      dsimp only [List.take]
      simp only [Bool.and_eq_true, Bool.or_eq_true, Bool.not_eq_true', Bool.not_eq_false', Bool.and_eq_false_iff, Bool.or_eq_false_iff, Bool.not_not, decide_eq_true_eq, decide_eq_false_iff_not, ne_eq, Decidable.not_not, Bool.decide_eq_true] at H5
      refine G_stay (.no rfl rfl rfl rfl) rfl rfl ?_
      refine G_stay (.no rfl rfl rfl rfl) rfl rfl ?_
      refine G_val (V_pick_t rfl rfl rfl) rfl rfl (.none rfl) ?_
      refine G_end ?_
      exact JQ_end 3 rfl rfl (by kernel_rfl)
    · intro H6
      dsimp only [List.take]
      simp only [Bool.and_eq_true, Bool.or_eq_true, Bool.not_eq_true', Bool.not_eq_false', Bool.and_eq_false_iff, Bool.or_eq_false_iff, Bool.not_not, decide_eq_true_eq, decide_eq_false_iff_not, ne_eq, Decidable.not_not, Bool.decide_eq_true] at H6
      refine G_val (V_move rfl rfl) rfl rfl (.yes rfl rfl rfl rfl) ?_
      refine G_val (V_gtr rfl rfl rfl) rfl rfl (.yes rfl rfl rfl rfl) ?_
      refine G_val (V_pick_f rfl rfl rfl) rfl rfl (.none rfl) ?_
      refine G_end ?_
      exact JQ_end 3 rfl rfl (by kernel_rfl)
    dsimp only [List.drop]
    refine G_end (X_then ?_)
    refine G_cond rfl (fun H7 => ?_) (fun H7 => ?_)
    · simp only [Bool.and_eq_true, Bool.or_eq_true, Bool.not_eq_true', Bool.not_eq_false', Bool.and_eq_false_iff, Bool.or_eq_false_iff, Bool.not_not, decide_eq_true_eq, decide_eq_false_iff_not, ne_eq, Decidable.not_not, Bool.decide_eq_true] at H7
      refine G_seq (G_region ?_)
      refine G_val (V_assign rfl rfl) rfl rfl (.none rfl) ?_
      refine G_val (V_assign rfl rfl) rfl rfl (.none rfl) ?_
      refine G_end (X_then (G_ret (X_then_ret ?_)))
      refine G_leaveS (.nil _) (by exact (.cons (.tmp rfl) (.cons (.tmp rfl) (.nil)))) rfl ?_ ?_
      · exact (.refl _)
      exact ⟨_, ⟨_, ⟨rfl, ⟨(by assumption), rfl⟩⟩⟩⟩
    simp only [Bool.and_eq_true, Bool.or_eq_true, Bool.not_eq_true', Bool.not_eq_false', Bool.and_eq_false_iff, Bool.or_eq_false_iff, Bool.not_not, decide_eq_true_eq, decide_eq_false_iff_not, ne_eq, Decidable.not_not, Bool.decide_eq_true] at H7
    (exfalso; omega)
  rw [if_neg h]
  obtain ⟨t, rfl⟩ : ∃ t : Nat, terms = t := ⟨terms.toNat, by omega⟩
  obtain ⟨f, rfl⟩ : ∃ f : Nat, k = f := ⟨k.toNat, by omega⟩
  simp only [Int.toNat_natCast]
  have ht : t ≤ 8 := by omega
  have hf : f ≤ 4 := by omega
  refine CallS.intro (l := [_, _]) _ Tryd.func36 rfl Tryd.ntmps36 rfl ?_
  refine G_seq (G_region ?_)
  refine G_val (V_assign rfl rfl) rfl rfl (.none rfl) ?_
  refine G_val (V_assign rfl rfl) rfl rfl (.none rfl) ?_
  refine G_end (X_then (G_seq (G_seq (G_region ?_))))
  refine G_val (V_move rfl rfl) rfl rfl (.none rfl) ?_
  refine G_val (V_lss rfl rfl rfl) rfl rfl (.none rfl) ?_
  refine G_val (V_move rfl rfl) rfl rfl (.none rfl) ?_
  refine G.bool_f 8 rfl (decide_eq_false (by omega)) ?_
  refine G_val (V_move rfl rfl) rfl rfl (.yes rfl rfl rfl rfl) ?_
  refine G_val (V_gtr rfl rfl rfl) rfl rfl (.yes rfl rfl rfl rfl) ?_
  refine G_val (V_pick_f rfl rfl rfl) rfl rfl (.none rfl) ?_
  refine G_val (V_move rfl rfl) rfl rfl (.none rfl) ?_
  refine G.bool_f 12 rfl (decide_eq_false (by omega)) ?_
  refine G_val (V_move rfl rfl) rfl rfl (.yes rfl rfl rfl rfl) ?_
  refine G_val (V_lss rfl rfl rfl) rfl rfl (.yes rfl rfl rfl rfl) ?_
  refine G_val (V_pick_f rfl rfl rfl) rfl rfl (.none rfl) ?_
  refine G_val (V_move rfl rfl) rfl rfl (.none rfl) ?_
  refine G.bool_f 16 rfl (decide_eq_false (by omega)) ?_
  refine G_val (V_move rfl rfl) rfl rfl (.yes rfl rfl rfl rfl) ?_
  refine G_val (V_gtr rfl rfl rfl) rfl rfl (.yes rfl rfl rfl rfl) ?_
  refine G_val (V_pick_f rfl rfl rfl) rfl rfl (.none rfl) ?_
  refine G_end (X_then ?_)
  refine G_cond_f rfl (decide_eq_false (by omega)) ?_
  refine G_skip (X_then (G_seq (G_region ?_)))
  refine G_val (V_move rfl rfl) rfl rfl (.none rfl) ?_
  refine G_val (V_move rfl rfl) rfl rfl (.none rfl) ?_
  refine G_val (V_build rfl rfl (by simp [fillV, setLs, setL, Value.cells]; rfl)) rfl rfl (.none rfl) ?_
  refine G_call (k := 57) (.mk rfl rfl rfl rfl) rfl rfl (.none rfl) (Rall_call' _ _ t f ht hf) ?_
  rintro r1 E1 L1 hE1 ⟨q, c, rfl, hs, rfl⟩
  refine G_val (V_assign rfl rfl) rfl rfl (.none rfl) ?_
  refine G_val (V_assign rfl rfl) rfl rfl (.none rfl) ?_
  refine G_end (X_then (G_ret ?_))
  refine G_leaveS (.nil _) (by exact (.cons (.tmp rfl) (.cons (.tmp rfl) (.nil)))) rfl ?_ ?_
  · exact hE1
  exact ⟨_, ⟨_, ⟨rfl, ⟨(by assumption), rfl⟩⟩⟩⟩
theorem Rall4_call (t : Nat) (ht : t ≤ 8) : CallS Tryd.prog 57 #[.int .i64 (t : Nat), .int .i64 4, lk 0 0 0 0 0] E L (fun r E' L' => ∃ q c, r = .slice q (lookT t 4).length c ∧ SlE E' 5 q (lookT t 4).length (lksC (lookT t 4)) ∧ L = L') := Rall_call' E L t 4 ht (by omega)
end
end Go.Proofs.YthcfakmmomfcaaaDoor
set_option linter.unusedSimpArgs false
set_option linter.unusedVariables false
set_option maxHeartbeats 2000000
set_option maxRecDepth 20000
namespace Go.Proofs.YthcfakmmomfcaaaDoor
open Go.RowKit
/-! The references Number, Numbered. -/
theorem lksC_drop : ∀ (ls : List (List Int)) (k : Nat), (lksC ls).drop (k * 5) = lksC (ls.drop k) := by
  intro ls
  induction ls with
  | nil => intro k; simp [lksC]
  | cons t l ih =>
    intro k
    cases k with
    | zero => simp
    | succ k =>
      have e : (k + 1) * 5 = k * 5 + 1 + 1 + 1 + 1 + 1 := by omega
      rw [e]
      show (Value.int .i64 (t.length : Nat) :: .int .i64 (gd t 0) :: .int .i64 (gd t 1) :: .int .i64 (gd t 2) :: .int .i64 (gd t 3) :: lksC l : List Value).drop (k * 5 + 1 + 1 + 1 + 1 + 1) = _
      simp only [List.drop_succ_cons, ih k]
theorem lksC_get {ls : List (List Int)} {k : Nat} {y : List Int} (h : ls[k]? = some y) : ((lksC ls).drop (k * 5)).take 5 = [.int .i64 (y.length : Nat), .int .i64 (gd y 0), .int .i64 (gd y 1), .int .i64 (gd y 2), .int .i64 (gd y 3)] := by
  rw [lksC_drop, List.drop_eq_getElem_cons (List.getElem?_eq_some_iff.1 h).1]
  have := (List.getElem?_eq_some_iff.1 h).2
  rw [this]
  simp [lksC]
/-- a right look is the look of its list -/
theorem lk_of {m : Nat} {a b c d t : Int} (h : ckL m a b c d t = 0) (hm : m ≤ 4) : a = gd ([a, b, c, d].take m) 0 ∧ b = gd ([a, b, c, d].take m) 1 ∧ c = gd ([a, b, c, d].take m) 2 ∧ d = gd ([a, b, c, d].take m) 3 := by
  have := (ckF_iff m a b c d hm).2 (ckL_F h)
  exact ⟨this.2.1.symm, this.2.2.1.symm, this.2.2.2.1.symm, this.2.2.2.2.symm⟩
theorem lk_same {xs ys : List Int} (hx : xs.length ≤ 4) (hy : ys.length ≤ 4) : (((ys.length : Nat) : Int) = ((xs.length : Nat) : Int) ∧ gd ys 0 = gd xs 0 ∧ gd ys 1 = gd xs 1 ∧ gd ys 2 = gd xs 2 ∧ gd ys 3 = gd xs 3) ↔ ys = xs := by
  constructor
  · rintro ⟨h0, h1, h2, h3, h4⟩
    exact toLk_inj hy hx (by simp only [toLk, Prod.mk.injEq]; exact ⟨h0, h1, h2, h3, h4⟩)
  · rintro rfl; exact ⟨rfl, rfl, rfl, rfl, rfl⟩
section
variable (E : Env) (L : List Res)
theorem RNumber_call (n a b c d terms : Int) : CallS Tryd.prog 32 #[lk n a b c d, .int .i64 terms] E L (fun r E' L' => r = .tuple #[.int .i64 (nmM n a b c d terms).1, .int .i64 (nmM n a b c d terms).2] ∧ L = L') := by
  unfold nmM
  generalize hr : ckL n a b c d terms = r
  by_cases h : r ≠ 0
  · rw [if_pos h]
    refine CallS.intro (l := [_, _]) _ Tryd.func32 rfl Tryd.ntmps32 rfl ?_
    refine G_seq (G_region ?_)
    (refine G_boxA rfl rfl rfl rfl (.none rfl) ?_; intro b2)
    refine G_val (V_assign rfl rfl) rfl rfl (.none rfl) ?_
    refine G_val (V_assign rfl rfl) rfl rfl (.none rfl) ?_
    refine G_end (X_then (G_seq (G_region ?_)))
    refine G_val (V_loadA rfl rfl (Cells.own (.head _)) rfl) rfl rfl (.none rfl) ?_
    refine G_val (V_move rfl rfl) rfl rfl (.none rfl) ?_
    refine G_callv (k := 19) (.mk rfl rfl rfl rfl) rfl rfl (.none rfl) (RCheck_call _ _ _ _ _ _ _ _) ?_
    refine G_val (V_assign rfl rfl) rfl rfl (.none rfl) ?_
    refine G_end (X_then (G_seq (G_seq (G_region ?_))))
    refine G_val (V_move rfl rfl) rfl rfl (.none rfl) ?_
    refine G_val (V_neq rfl rfl rfl) rfl rfl (.none rfl) ?_
    refine G_end (X_then ?_)
    refine G_cond_t rfl (decide_eq_true (by omega)) ?_
    refine G_seq (G_region ?_)
    refine G_val (V_move rfl rfl) rfl rfl (.none rfl) ?_
    refine G_val (V_assign rfl rfl) rfl rfl (.none rfl) ?_
    refine G_val (V_assign rfl rfl) rfl rfl (.none rfl) ?_
    refine G_end (X_then (G_ret (X_then_ret ?_)))
    refine G_leaveS (.drop _ (.nil _)) (by exact (.cons (.tmp rfl) (.cons (.tmp rfl) (.nil)))) rfl ?_ ?_
    · exact (.refl _)
    exact ⟨(by (simp (discharger := omega) only [resVal, hr, if_pos, if_neg]; first | done | rfl)), (by rfl)⟩
  rw [if_neg h]
  have h0 : ckL n a b c d terms = 0 := by omega
  have hn := ckL_n h0
  have ht := ckL_t h0
  obtain ⟨m, rfl⟩ : ∃ m : Nat, n = m := ⟨n.toNat, by omega⟩
  obtain ⟨t, rfl⟩ : ∃ t : Nat, terms = t := ⟨terms.toNat, by omega⟩
  have hl := take4_len m a b c d (by omega)
  have hok := ckL_ok h0 (by omega)
  obtain ⟨ha, hb, hc, hd⟩ := lk_of h0 (by omega)
  have hlt := numT_lt t 4 _ hok
  have hget := lookT_num t 4 _ hok
  have hle := lenT_le (t := t) (by omega) (f := 4) (by omega)
  simp only [Int.toNat_natCast]
  generalize [a, b, c, d].take m = xs at *
  subst ha hb hc hd
  subst hl
  generalize hN : numT t 4 xs = N at *
  refine CallS.intro (l := [_, _]) _ Tryd.func32 rfl Tryd.ntmps32 rfl ?_
  refine G_seq (G_region ?_)
  (refine G_boxA rfl rfl rfl rfl (.none rfl) ?_; intro b2)
  refine G_val (V_assign rfl rfl) rfl rfl (.none rfl) ?_
  refine G_val (V_assign rfl rfl) rfl rfl (.none rfl) ?_
  refine G_end (X_then (G_seq (G_region ?_)))
  refine G_val (V_loadA rfl rfl (Cells.own (.head _)) rfl) rfl rfl (.none rfl) ?_
  refine G_val (V_move rfl rfl) rfl rfl (.none rfl) ?_
  refine G_callv (k := 19) (.mk rfl rfl rfl rfl) rfl rfl (.none rfl) (RCheck_call _ _ _ _ _ _ _ _) ?_
  rw [h0]
  refine G_val (V_assign rfl rfl) rfl rfl (.none rfl) ?_
  refine G_end (X_then (G_seq (G_seq (G_region ?_))))
  refine G_val (V_move rfl rfl) rfl rfl (.none rfl) ?_
  refine G_val (V_neq rfl rfl rfl) rfl rfl (.none rfl) ?_
  refine G_end (X_then ?_)
  refine G_cond_f rfl (by kernel_rfl) ?_
  refine G_skip (X_then (G_seq (G_region ?_)))
  refine G_val (V_move rfl rfl) rfl rfl (.none rfl) ?_
  refine G_val (V_build rfl rfl (by simp [fillV, setLs, setL, Value.cells]; rfl)) rfl rfl (.none rfl) ?_
  refine G_call (k := 57) (.mk rfl rfl rfl rfl) rfl rfl (.none rfl) (Rall4_call _ _ t (by omega)) ?_
  rintro r1 E1 L1 hE1 ⟨q, k, rfl, hs, rfl⟩
  have hll := lookT_len t 4
  refine G_val (V_assign rfl rfl) rfl rfl (.none rfl) ?_
  refine G_end (X_then (G_seq (G_seq (G_region ?_))))
  refine G_val (V_assign rfl rfl) rfl rfl (.none rfl) ?_
  refine G_end (X_then (G_block ?_))
  refine G_loop (α := Nat) (fun i => [(2, .pointer (some ⟨b2, 0, none⟩)), (7, .slice q (lookT t 4).length k), (8, .int .i64 (i : Nat))]) (fun _ => E1) (fun _ => .blk b2 (.cells (lkC (xs.length : Nat) (gd xs 0) (gd xs 1) (gd xs 2) (gd xs 3)) 25 (0, 0)) :: L)
    (fun i => i ≤ N) (fun i => N - i) 0 (Nat.zero_le _) ⟨rfl, rfl, rfl, trivial⟩ rfl rfl ?_
  rintro i hi
  have hil : i < (lookT t 4).length := by omega
  have hy := List.getElem?_eq_getElem hil
  have hyl := lookT_at t 4 _ _ hy
  have hcell := lksC_get hy
  have hsame := lk_same (xs := xs) (ys := (lookT t 4)[i]) hok.1 hyl.1.1
  by_cases hiN : i = N
  · subst hiN
    have hyx : (lookT t 4)[i] = xs := by rw [hget] at hy; exact (Option.some.inj hy).symm
    rw [hyx] at hcell hsame
    have htrue := hsame.2 rfl
    refine G_seq (G_seq (G_region ?_))
    refine G_val (V_move rfl rfl) rfl rfl (.none rfl) ?_
    refine G_val (V_move rfl rfl) rfl rfl (.none rfl) ?_
    refine G_val (V_lenS rfl rfl) rfl rfl (.none rfl) ?_
    refine G_val (V_lss rfl rfl rfl) rfl rfl (.none rfl) ?_
    refine G_end (X_then ?_)
    refine G_cond_t rfl (decide_eq_true (by omega)) ?_
    refine G_skip (X_then (G_seq (G_block (G_seq ?_))))
    refine G_draw mixed (by kernel_rfl) ?_
    refine Q_val (V_move rfl rfl) rfl rfl (.none rfl) ?_
    refine Q_val (V_move rfl rfl) rfl rfl (.none rfl) ?_
    refine Q_val (V_idxAddr rfl rfl rfl (SlE.rd (by assumption)) (by omega) (by omega)) rfl rfl (.none rfl) ?_
    refine Q_val (V_loadAS rfl rfl (SlE.rd (by assumption)) (by assumption) (by simp) (by rfl)) rfl rfl (.none rfl) ?_
    refine Q_val (V_loadA rfl rfl (Cells.own (.head _)) rfl) rfl rfl (.none rfl) ?_
    refine Q_val (V_aeql_25 rfl rfl rfl) rfl rfl (.none rfl) ?_
    refine Q_end ?_
    refine X_then ?_
    refine G_cond_t rfl (decide_eq_true (by omega)) ?_
    refine G_seq (G_region ?_)
    refine G_val (V_move rfl rfl) rfl rfl (.none rfl) ?_
    refine G_val (V_assign rfl rfl) rfl rfl (.none rfl) ?_
    refine G_val (V_assign rfl rfl) rfl rfl (.none rfl) ?_
    refine G_end (X_then (G_ret (X_block_ret (X_then_ret (X_then_ret (X_block_ret (X_then_ret ?_)))))))
    refine G_leaveS (.drop _ (.nil _)) (by exact (.cons (.tmp rfl) (.cons (.tmp rfl) (.nil)))) rfl ?_ ?_
    · exact hE1
    exact ⟨rfl, rfl⟩
  · have hne : (lookT t 4)[i] ≠ xs := fun e => hiN (by rw [← hyl.2, e, hN])
    have hno := fun q => hne (hsame.1 q)
    generalize (lookT t 4)[i] = y at *
    refine G_seq (G_seq (G_region ?_))
    refine G_val (V_move rfl rfl) rfl rfl (.none rfl) ?_
    refine G_val (V_move rfl rfl) rfl rfl (.none rfl) ?_
    refine G_val (V_lenS rfl rfl) rfl rfl (.none rfl) ?_
    refine G_val (V_lss rfl rfl rfl) rfl rfl (.none rfl) ?_
    refine G_end (X_then ?_)
    refine G_cond_t rfl (decide_eq_true (by omega)) ?_
    refine G_skip (X_then (G_seq (G_block (G_seq ?_))))
    refine G_draw mixed (by kernel_rfl) ?_
    refine Q_val (V_move rfl rfl) rfl rfl (.none rfl) ?_
    refine Q_val (V_move rfl rfl) rfl rfl (.none rfl) ?_
    refine Q_val (V_idxAddr rfl rfl rfl (SlE.rd (by assumption)) (by omega) (by omega)) rfl rfl (.none rfl) ?_
    refine Q_val (V_loadAS rfl rfl (SlE.rd (by assumption)) (by assumption) (by simp) (by rfl)) rfl rfl (.none rfl) ?_
    refine Q_val (V_loadA rfl rfl (Cells.own (.head _)) rfl) rfl rfl (.none rfl) ?_
    refine Q_val (V_aeql_25 rfl rfl rfl) rfl rfl (.none rfl) ?_
    refine Q_end ?_
    refine X_then ?_
    refine G_cond_f rfl (decide_eq_false (by omega)) ?_
    refine G_skip (X_block (X_then (G_region ?_)))
    refine G_val (V_move rfl rfl) rfl rfl (.none rfl) ?_
    refine G_val (V_add_i64 rfl rfl rfl (by omega) (by omega)) rfl rfl (.none rfl) ?_
    refine G_val (V_assign rfl rfl) rfl rfl (.none rfl) ?_
    refine G_end (X_then ?_)
    exact G_again (i + 1) (by omega) (by omega) ⟨rfl, rfl, rfl, trivial⟩ rfl rfl
theorem RNumbered_call (n terms : Int) : CallS Tryd.prog 34 #[.int .i64 n, .int .i64 terms] E L (fun r E' L' => r = .tuple #[lkP (nbM n terms).1, .int .i64 (nbM n terms).2] ∧ L = L') := by
  unfold nbM
  by_cases h1 : terms < 1
  · rw [if_pos (by omega)]
    refine CallS.intro (l := [_, _]) _ Tryd.func34 rfl Tryd.ntmps34 rfl ?_
    refine G_seq (G_region ?_)
    (refine G_alloc rfl rfl rfl (.none rfl) ?_; intro b4)
    refine G_val (V_assign rfl rfl) rfl rfl (.none rfl) ?_
    refine G_end (X_then (G_seq (G_seq (G_region ?_))))
    refine G_val (V_move rfl rfl) rfl rfl (.none rfl) ?_
    refine G_val (V_lss rfl rfl rfl) rfl rfl (.none rfl) ?_
    refine G_val (V_move rfl rfl) rfl rfl (.none rfl) ?_
    refine G.bool_t 9 rfl (decide_eq_true (by omega)) ?_
    refine G_stay (.no rfl rfl rfl rfl) rfl rfl ?_
    refine G_stay (.no rfl rfl rfl rfl) rfl rfl ?_
    refine G_val (V_pick_t rfl rfl rfl) rfl rfl (.none rfl) ?_
    refine G_end (X_then ?_)
    refine G_cond_t rfl rfl ?_
    refine G_seq (G_region ?_)
    refine G_val (V_build rfl rfl (by simp [fillV, setLs, setL, Value.cells]; rfl)) rfl rfl (.none rfl) ?_
    refine G_storeA rfl rfl rfl rfl (by simp [Value.oneCell']) rfl (.none rfl) (.head _ _ _) rfl ?_
    refine G_val (V_assign rfl rfl) rfl rfl (.none rfl) ?_
    refine G_end (X_then (G_ret (X_then_ret ?_)))
    refine G_leaveS (.drop _ (.nil _)) (by exact (.cons (.cellA rfl (Cells.own (.head _)) rfl) (.cons (.tmp rfl) (.nil)))) rfl ?_ ?_
    · exact (.refl _)
    exact ⟨(by kernel_rfl), rfl⟩
  by_cases h2 : 8 < terms
  · rw [if_pos (by omega)]
    refine CallS.intro (l := [_, _]) _ Tryd.func34 rfl Tryd.ntmps34 rfl ?_
    refine G_seq (G_region ?_)
    (refine G_alloc rfl rfl rfl (.none rfl) ?_; intro b4)
    refine G_val (V_assign rfl rfl) rfl rfl (.none rfl) ?_
    refine G_end (X_then (G_seq (G_seq (G_region ?_))))
    refine G_val (V_move rfl rfl) rfl rfl (.none rfl) ?_
    refine G_val (V_lss rfl rfl rfl) rfl rfl (.none rfl) ?_
    refine G_val (V_move rfl rfl) rfl rfl (.none rfl) ?_
    refine G.bool_f 9 rfl (decide_eq_false (by omega)) ?_
    refine G_val (V_move rfl rfl) rfl rfl (.yes rfl rfl rfl rfl) ?_
    refine G_val (V_gtr rfl rfl rfl) rfl rfl (.yes rfl rfl rfl rfl) ?_
    refine G_val (V_pick_f rfl rfl rfl) rfl rfl (.none rfl) ?_
    refine G_end (X_then ?_)
    refine G_cond_t rfl (decide_eq_true (by omega)) ?_
    refine G_seq (G_region ?_)
    refine G_val (V_build rfl rfl (by simp [fillV, setLs, setL, Value.cells]; rfl)) rfl rfl (.none rfl) ?_
    refine G_storeA rfl rfl rfl rfl (by simp [Value.oneCell']) rfl (.none rfl) (.head _ _ _) rfl ?_
    refine G_val (V_assign rfl rfl) rfl rfl (.none rfl) ?_
    refine G_end (X_then (G_ret (X_then_ret ?_)))
    refine G_leaveS (.drop _ (.nil _)) (by exact (.cons (.cellA rfl (Cells.own (.head _)) rfl) (.cons (.tmp rfl) (.nil)))) rfl ?_ ?_
    · exact (.refl _)
    exact ⟨(by kernel_rfl), rfl⟩
  obtain ⟨t, rfl⟩ : ∃ t : Nat, terms = t := ⟨terms.toNat, by omega⟩
  simp only [Int.toNat_natCast]
  have hll := lookT_len t 4
  have hle := lenT_le (t := t) (by omega) (f := 4) (by omega)
  by_cases h3 : n < 0
  · rw [if_pos (by omega)]
    refine CallS.intro (l := [_, _]) _ Tryd.func34 rfl Tryd.ntmps34 rfl ?_
    refine G_seq (G_region ?_)
    (refine G_alloc rfl rfl rfl (.none rfl) ?_; intro b4)
    refine G_val (V_assign rfl rfl) rfl rfl (.none rfl) ?_
    refine G_end (X_then (G_seq (G_seq (G_region ?_))))
    refine G_val (V_move rfl rfl) rfl rfl (.none rfl) ?_
    refine G_val (V_lss rfl rfl rfl) rfl rfl (.none rfl) ?_
    refine G_val (V_move rfl rfl) rfl rfl (.none rfl) ?_
    refine G.bool_f 9 rfl (decide_eq_false (by omega)) ?_
    refine G_val (V_move rfl rfl) rfl rfl (.yes rfl rfl rfl rfl) ?_
    refine G_val (V_gtr rfl rfl rfl) rfl rfl (.yes rfl rfl rfl rfl) ?_
    refine G_val (V_pick_f rfl rfl rfl) rfl rfl (.none rfl) ?_
    refine G_end (X_then ?_)
    refine G_cond_f rfl (decide_eq_false (by omega)) ?_
    refine G_skip (X_then (G_seq (G_region ?_)))
    refine G_val (V_move rfl rfl) rfl rfl (.none rfl) ?_
    refine G_val (V_build rfl rfl (by simp [fillV, setLs, setL, Value.cells]; rfl)) rfl rfl (.none rfl) ?_
    refine G_call (k := 57) (.mk rfl rfl rfl rfl) rfl rfl (.none rfl) (Rall4_call _ _ t (by omega)) ?_
    rintro r1 E1 L1 hE1 ⟨q, k, rfl, hs, rfl⟩
    refine G_val (V_assign rfl rfl) rfl rfl (.none rfl) ?_
    refine G_end (X_then (G_seq (G_seq (G_region ?_))))
    refine G_val (V_move rfl rfl) rfl rfl (.none rfl) ?_
    refine G_val (V_lss rfl rfl rfl) rfl rfl (.none rfl) ?_
    refine G_val (V_move rfl rfl) rfl rfl (.none rfl) ?_
    refine G.bool_t 19 rfl (decide_eq_true (by omega)) ?_
    refine G_stay (.no rfl rfl rfl rfl) rfl rfl ?_
    refine G_stay (.no rfl rfl rfl rfl) rfl rfl ?_
    refine G_stay (.no rfl rfl rfl rfl) rfl rfl ?_
    refine G_stay (.no rfl rfl rfl rfl) rfl rfl ?_
    refine G_val (V_pick_t rfl rfl rfl) rfl rfl (.none rfl) ?_
    refine G_end (X_then ?_)
    refine G_cond_t rfl rfl ?_
    refine G_seq (G_region ?_)
    refine G_val (V_build rfl rfl (by simp [fillV, setLs, setL, Value.cells]; rfl)) rfl rfl (.none rfl) ?_
    refine G_storeA rfl rfl rfl rfl (by simp [Value.oneCell']) rfl (.none rfl) (.head _ _ _) rfl ?_
    refine G_val (V_assign rfl rfl) rfl rfl (.none rfl) ?_
    refine G_end (X_then (G_ret (X_then_ret ?_)))
    refine G_leaveS (.drop _ (.nil _)) (by exact (.cons (.cellA rfl (Cells.own (.head _)) rfl) (.cons (.tmp rfl) (.nil)))) rfl ?_ ?_
    · exact hE1
    exact ⟨(by kernel_rfl), rfl⟩
  obtain ⟨m, rfl⟩ : ∃ m : Nat, n = m := ⟨n.toNat, by omega⟩
  simp only [Int.toNat_natCast]
  by_cases h4 : lenT t 4 ≤ m
  · rw [if_pos (by omega)]
    refine CallS.intro (l := [_, _]) _ Tryd.func34 rfl Tryd.ntmps34 rfl ?_
    refine G_seq (G_region ?_)
    (refine G_alloc rfl rfl rfl (.none rfl) ?_; intro b4)
    refine G_val (V_assign rfl rfl) rfl rfl (.none rfl) ?_
    refine G_end (X_then (G_seq (G_seq (G_region ?_))))
    refine G_val (V_move rfl rfl) rfl rfl (.none rfl) ?_
    refine G_val (V_lss rfl rfl rfl) rfl rfl (.none rfl) ?_
    refine G_val (V_move rfl rfl) rfl rfl (.none rfl) ?_
    refine G.bool_f 9 rfl (decide_eq_false (by omega)) ?_
    refine G_val (V_move rfl rfl) rfl rfl (.yes rfl rfl rfl rfl) ?_
    refine G_val (V_gtr rfl rfl rfl) rfl rfl (.yes rfl rfl rfl rfl) ?_
    refine G_val (V_pick_f rfl rfl rfl) rfl rfl (.none rfl) ?_
    refine G_end (X_then ?_)
    refine G_cond_f rfl (decide_eq_false (by omega)) ?_
    refine G_skip (X_then (G_seq (G_region ?_)))
    refine G_val (V_move rfl rfl) rfl rfl (.none rfl) ?_
    refine G_val (V_build rfl rfl (by simp [fillV, setLs, setL, Value.cells]; rfl)) rfl rfl (.none rfl) ?_
    refine G_call (k := 57) (.mk rfl rfl rfl rfl) rfl rfl (.none rfl) (Rall4_call _ _ t (by omega)) ?_
    rintro r1 E1 L1 hE1 ⟨q, k, rfl, hs, rfl⟩
    refine G_val (V_assign rfl rfl) rfl rfl (.none rfl) ?_
    refine G_end (X_then (G_seq (G_seq (G_region ?_))))
    refine G_val (V_move rfl rfl) rfl rfl (.none rfl) ?_
    refine G_val (V_lss rfl rfl rfl) rfl rfl (.none rfl) ?_
    refine G_val (V_move rfl rfl) rfl rfl (.none rfl) ?_
    refine G.bool_f 19 rfl (decide_eq_false (by omega)) ?_
    refine G_val (V_move rfl rfl) rfl rfl (.yes rfl rfl rfl rfl) ?_
    refine G_val (V_move rfl rfl) rfl rfl (.yes rfl rfl rfl rfl) ?_
    refine G_val (V_lenS rfl rfl) rfl rfl (.yes rfl rfl rfl rfl) ?_
    refine G_val (V_geq rfl rfl rfl) rfl rfl (.yes rfl rfl rfl rfl) ?_
    refine G_val (V_pick_f rfl rfl rfl) rfl rfl (.none rfl) ?_
    refine G_end (X_then ?_)
    refine G_cond_t rfl (decide_eq_true (by omega)) ?_
    refine G_seq (G_region ?_)
    refine G_val (V_build rfl rfl (by simp [fillV, setLs, setL, Value.cells]; rfl)) rfl rfl (.none rfl) ?_
    refine G_storeA rfl rfl rfl rfl (by simp [Value.oneCell']) rfl (.none rfl) (.head _ _ _) rfl ?_
    refine G_val (V_assign rfl rfl) rfl rfl (.none rfl) ?_
    refine G_end (X_then (G_ret (X_then_ret ?_)))
    refine G_leaveS (.drop _ (.nil _)) (by exact (.cons (.cellA rfl (Cells.own (.head _)) rfl) (.cons (.tmp rfl) (.nil)))) rfl ?_ ?_
    · exact hE1
    exact ⟨(by kernel_rfl), rfl⟩
  rw [if_neg (by omega)]
  have hy := List.getElem?_eq_getElem (l := lookT t 4) (i := m) (by omega)
  have hcell := lksC_get hy
  rw [hy, Option.getD_some]
  generalize (lookT t 4)[m] = y at *
  refine CallS.intro (l := [_, _]) _ Tryd.func34 rfl Tryd.ntmps34 rfl ?_
  refine G_seq (G_region ?_)
  (refine G_alloc rfl rfl rfl (.none rfl) ?_; intro b4)
  refine G_val (V_assign rfl rfl) rfl rfl (.none rfl) ?_
  refine G_end (X_then (G_seq (G_seq (G_region ?_))))
  refine G_val (V_move rfl rfl) rfl rfl (.none rfl) ?_
  refine G_val (V_lss rfl rfl rfl) rfl rfl (.none rfl) ?_
  refine G_val (V_move rfl rfl) rfl rfl (.none rfl) ?_
  refine G.bool_f 9 rfl (decide_eq_false (by omega)) ?_
  refine G_val (V_move rfl rfl) rfl rfl (.yes rfl rfl rfl rfl) ?_
  refine G_val (V_gtr rfl rfl rfl) rfl rfl (.yes rfl rfl rfl rfl) ?_
  refine G_val (V_pick_f rfl rfl rfl) rfl rfl (.none rfl) ?_
  refine G_end (X_then ?_)
  refine G_cond_f rfl (decide_eq_false (by omega)) ?_
  refine G_skip (X_then (G_seq (G_region ?_)))
  refine G_val (V_move rfl rfl) rfl rfl (.none rfl) ?_
  refine G_val (V_build rfl rfl (by simp [fillV, setLs, setL, Value.cells]; rfl)) rfl rfl (.none rfl) ?_
  refine G_call (k := 57) (.mk rfl rfl rfl rfl) rfl rfl (.none rfl) (Rall4_call _ _ t (by omega)) ?_
  rintro r1 E1 L1 hE1 ⟨q, k, rfl, hs, rfl⟩
  refine G_val (V_assign rfl rfl) rfl rfl (.none rfl) ?_
  refine G_end (X_then (G_seq (G_seq (G_region ?_))))
  refine G_val (V_move rfl rfl) rfl rfl (.none rfl) ?_
  refine G_val (V_lss rfl rfl rfl) rfl rfl (.none rfl) ?_
  refine G_val (V_move rfl rfl) rfl rfl (.none rfl) ?_
  refine G.bool_f 19 rfl (decide_eq_false (by omega)) ?_
  refine G_val (V_move rfl rfl) rfl rfl (.yes rfl rfl rfl rfl) ?_
  refine G_val (V_move rfl rfl) rfl rfl (.yes rfl rfl rfl rfl) ?_
  refine G_val (V_lenS rfl rfl) rfl rfl (.yes rfl rfl rfl rfl) ?_
  refine G_val (V_geq rfl rfl rfl) rfl rfl (.yes rfl rfl rfl rfl) ?_
  refine G_val (V_pick_f rfl rfl rfl) rfl rfl (.none rfl) ?_
  refine G_end (X_then ?_)
  refine G_cond_f rfl (decide_eq_false (by omega)) ?_
  refine G_skip (X_then (G_seq (G_region ?_)))
  refine G_val (V_move rfl rfl) rfl rfl (.none rfl) ?_
  refine G_val (V_move rfl rfl) rfl rfl (.none rfl) ?_
  refine G_val (V_idxAddr rfl rfl rfl (SlE.rd (by assumption)) (by omega) (by omega)) rfl rfl (.none rfl) ?_
  refine G_val (V_loadAS rfl rfl (SlE.rd (by assumption)) (by assumption) (by simp) (by rfl)) rfl rfl (.none rfl) ?_
  refine G_storeA rfl rfl rfl rfl (by simp [Value.oneCell']) rfl (.none rfl) (.head _ _ _) rfl ?_
  refine G_val (V_assign rfl rfl) rfl rfl (.none rfl) ?_
  refine G_end (X_then (G_ret ?_))
  refine G_leaveS (.drop _ (.nil _)) (by exact (.cons (.cellA rfl (Cells.own (.head _)) rfl) (.cons (.tmp rfl) (.nil)))) rfl ?_ ?_
  · exact hE1
  exact ⟨rfl, rfl⟩
end
end Go.Proofs.YthcfakmmomfcaaaDoor
set_option linter.unusedSimpArgs false
set_option linter.unusedVariables false
set_option maxHeartbeats 2000000
set_option maxRecDepth 20000
namespace Go.Proofs.YthcfakmmomfcaaaDoor
open Go.RowKit
/-! The law LookReads. -/
theorem parseP_lk (s : List UInt8) : ∃ o1 o2 o3 o4 o5 e, parseP s = (lk o1 o2 o3 o4 o5, e) := by
  unfold parseP
  split
  · exact ⟨_, _, _, _, _, _, rfl⟩
  · split
    · obtain ⟨o1, o2, o3, o4, o5, ho⟩ := ofM_lk ((splitB 32 s).map dgOf)
      exact ⟨o1, o2, o3, o4, o5, (ofM ((splitB 32 s).map dgOf)).2, by rw [← ho]⟩
    · exact ⟨_, _, _, _, _, _, rfl⟩
theorem allM_len (terms k : Int) : (allM terms k).1.length ≤ 4681 := by
  unfold allM
  split
  · simp
  · rw [lookT_len]
    exact lenT_le (by omega) (by omega)
section
variable (E : Env) (L : List Res)
theorem Parse_call' (s : List UInt8) (o1 o2 o3 o4 o5 e : Int) (hs : s.length ≤ 1000) (ho : parseP s = (lk o1 o2 o3 o4 o5, e)) : CallS Tryd.prog 29 #[.string (S s)] E L (fun r E' L' => r = .tuple #[lk o1 o2 o3 o4 o5, .int .i64 e] ∧ L = L') := by
  have := Parse_call E L s hs
  rwa [ho] at this
theorem RParse_call' (s : List UInt8) (o1 o2 o3 o4 o5 e : Int) (hs : s.length ≤ 1000) (ho : parseP s = (lk o1 o2 o3 o4 o5, e)) : CallS Tryd.prog 30 #[.string (S s)] E L (fun r E' L' => r = .tuple #[lk o1 o2 o3 o4 o5, .int .i64 e] ∧ L = L') := by
  have := RParse_call E L s hs
  rwa [ho] at this
theorem LookReads_call (hT : SlE E 1 (some ⟨5, 1, none⟩) 1 [.int .u8 1]) (s : List UInt8) (hs : s.length ≤ 9223372036854775807) (terms k n m a b c d : Int) : CallS Tryd.prog 5 #[.string (S s), .int .i64 terms, .int .i64 k, .int .i64 n, lk m a b c d] E L (fun r E' L' => r = .bool true ∧ L = L') := by
  by_cases h40 : 40 < s.length
  · refine CallS.intro (l := [_, _, _, _, _]) _ Tryd.func5 rfl Tryd.ntmps5 rfl ?_
    refine G_seq (G_region ?_)
    (refine G_boxA rfl rfl rfl rfl (.none rfl) ?_; intro b9)
    refine G_val (V_assign rfl rfl) rfl rfl (.none rfl) ?_
    refine G_end (X_then (G_seq (G_seq (G_region ?_))))
    refine G_val (V_move rfl rfl) rfl rfl (.none rfl) ?_
    refine G_val (V_len rfl rfl) rfl rfl (.none rfl) ?_
    refine G_val (V_gtr rfl rfl rfl) rfl rfl (.none rfl) ?_
    refine G_end (X_then ?_)
    refine G_cond_t rfl (decide_eq_true (by omega)) ?_
    refine G_seq (G_region ?_)
    refine G_call (k := 10) (.mk rfl rfl rfl rfl) rfl rfl (.none rfl) (awake_call _ _) ?_
    rintro r1 E2 L3 hE4 ⟨rfl, rfl⟩
    replace hT := hT.mono hE4
    refine G_val (V_assign rfl rfl) rfl rfl (.none rfl) ?_
    refine G_end (X_then (G_ret (X_then_ret ?_)))
    refine G_leaveS (.drop _ (.nil _)) (by exact (.cons (.tmp rfl) (.nil))) rfl ?_ ?_
    · exact hE4
    exact ⟨(by kernel_rfl), rfl⟩
  obtain ⟨o1, o2, o3, o4, o5, e, ho⟩ := parseP_lk s
  have hal := allM_len terms k
  refine CallS.intro (l := [_, _, _, _, _]) _ Tryd.func5 rfl Tryd.ntmps5 rfl ?_
  refine G_seq (G_region ?_)
  (refine G_boxA rfl rfl rfl rfl (.none rfl) ?_; intro b9)
  refine G_val (V_assign rfl rfl) rfl rfl (.none rfl) ?_
  refine G_end (X_then (G_seq (G_seq (G_region ?_))))
  refine G_val (V_move rfl rfl) rfl rfl (.none rfl) ?_
  refine G_val (V_len rfl rfl) rfl rfl (.none rfl) ?_
  refine G_val (V_gtr rfl rfl rfl) rfl rfl (.none rfl) ?_
  refine G_end (X_then ?_)
  refine G_cond_f rfl (decide_eq_false (by omega)) ?_
  refine G_skip (X_then (G_seq (G_region ?_)))
  refine G_val (V_move rfl rfl) rfl rfl (.none rfl) ?_
  refine G_call (k := 29) (.mk rfl rfl rfl rfl) rfl rfl (.none rfl) (Parse_call' _ _ _ _ _ _ _ _ _ (by omega) (by assumption)) ?_
  rintro r1 E2 L3 hE4 ⟨rfl, rfl⟩
  replace hT := hT.mono hE4
  refine G_val (V_move rfl rfl) rfl rfl (.none rfl) ?_
  refine G_val (V_extract rfl rfl rfl) rfl rfl (.none rfl) ?_
  refine G_val (V_extract rfl rfl rfl) rfl rfl (.none rfl) ?_
  (refine G_alloc rfl rfl rfl (.none rfl) ?_; intro b11)
  refine G_storeA rfl rfl rfl rfl (by simp [Value.oneCell']) rfl (.none rfl) (.head _ _ _) rfl ?_
  refine G_val (V_assign rfl rfl) rfl rfl (.none rfl) ?_
  refine G_end (X_then (G_seq (G_region ?_)))
  refine G_val (V_move rfl rfl) rfl rfl (.none rfl) ?_
  refine G_call (k := 30) (.mk rfl rfl rfl rfl) rfl rfl (.none rfl) (RParse_call' _ _ _ _ _ _ _ _ _ (by omega) (by assumption)) ?_
  rintro r5 E6 L7 hE8 ⟨rfl, rfl⟩
  replace hT := hT.mono hE8
  refine G_val (V_move rfl rfl) rfl rfl (.none rfl) ?_
  refine G_val (V_extract rfl rfl rfl) rfl rfl (.none rfl) ?_
  refine G_val (V_extract rfl rfl rfl) rfl rfl (.none rfl) ?_
  (refine G_alloc rfl rfl rfl (.none rfl) ?_; intro b13)
  refine G_storeA rfl rfl rfl rfl (by simp [Value.oneCell']) rfl (.none rfl) (.head _ _ _) rfl ?_
  refine G_val (V_assign rfl rfl) rfl rfl (.none rfl) ?_
  refine G_end (X_then (G_seq (G_region ?_)))
  refine G_val (V_loadA rfl rfl (Cells.own (.tail _ (.tail _ (.head _)))) rfl) rfl rfl (.none rfl) ?_
  refine G_val (V_move rfl rfl) rfl rfl (.none rfl) ?_
  refine G_call (k := 31) (.mk rfl rfl rfl rfl) rfl rfl (.none rfl) (Number_call _ _ (by assumption) _ _ _ _ _ _) ?_
  rintro r9 E10 L11 hE12 ⟨rfl, rfl⟩
  replace hT := hT.mono hE12
  refine G_val (V_move rfl rfl) rfl rfl (.none rfl) ?_
  refine G_val (V_extract rfl rfl rfl) rfl rfl (.none rfl) ?_
  refine G_val (V_extract rfl rfl rfl) rfl rfl (.none rfl) ?_
  refine G_val (V_assign rfl rfl) rfl rfl (.none rfl) ?_
  refine G_val (V_assign rfl rfl) rfl rfl (.none rfl) ?_
  refine G_end (X_then (G_seq (G_region ?_)))
  refine G_val (V_loadA rfl rfl (Cells.own (.tail _ (.tail _ (.head _)))) rfl) rfl rfl (.none rfl) ?_
  refine G_val (V_move rfl rfl) rfl rfl (.none rfl) ?_
  refine G_call (k := 32) (.mk rfl rfl rfl rfl) rfl rfl (.none rfl) (RNumber_call _ _ _ _ _ _ _ _) ?_
  rintro r13 E14 L15 hE16 ⟨rfl, rfl⟩
  replace hT := hT.mono hE16
  refine G_val (V_move rfl rfl) rfl rfl (.none rfl) ?_
  refine G_val (V_extract rfl rfl rfl) rfl rfl (.none rfl) ?_
  refine G_val (V_extract rfl rfl rfl) rfl rfl (.none rfl) ?_
  refine G_val (V_assign rfl rfl) rfl rfl (.none rfl) ?_
  refine G_val (V_assign rfl rfl) rfl rfl (.none rfl) ?_
  refine G_end (X_then (G_seq (G_seq (G_region ?_))))
  refine G_val (V_loadA rfl rfl (Cells.own (.tail _ (.head _))) rfl) rfl rfl (.none rfl) ?_
  refine G_val (V_loadA rfl rfl (Cells.own (.head _)) rfl) rfl rfl (.none rfl) ?_
  refine G_val (V_aneq_25 rfl rfl rfl) rfl rfl (.none rfl) ?_
  refine G_val (V_move rfl rfl) rfl rfl (.none rfl) ?_
  refine G.bool_f 53 rfl (decide_eq_false (by omega)) ?_
  refine G_val (V_move rfl rfl) rfl rfl (.yes rfl rfl rfl rfl) ?_
  refine G_val (V_move rfl rfl) rfl rfl (.yes rfl rfl rfl rfl) ?_
  refine G_val (V_neq rfl rfl rfl) rfl rfl (.yes rfl rfl rfl rfl) ?_
  refine G_val (V_pick_f rfl rfl rfl) rfl rfl (.none rfl) ?_
  refine G_val (V_move rfl rfl) rfl rfl (.none rfl) ?_
  refine G.bool_f 58 rfl (decide_eq_false (by omega)) ?_
  refine G_val (V_move rfl rfl) rfl rfl (.yes rfl rfl rfl rfl) ?_
  refine G_val (V_move rfl rfl) rfl rfl (.yes rfl rfl rfl rfl) ?_
  refine G_val (V_neq rfl rfl rfl) rfl rfl (.yes rfl rfl rfl rfl) ?_
  refine G_val (V_pick_f rfl rfl rfl) rfl rfl (.none rfl) ?_
  refine G_val (V_move rfl rfl) rfl rfl (.none rfl) ?_
  refine G.bool_f 63 rfl (decide_eq_false (by omega)) ?_
  refine G_val (V_move rfl rfl) rfl rfl (.yes rfl rfl rfl rfl) ?_
  refine G_val (V_move rfl rfl) rfl rfl (.yes rfl rfl rfl rfl) ?_
  refine G_val (V_neq rfl rfl rfl) rfl rfl (.yes rfl rfl rfl rfl) ?_
  refine G_val (V_pick_f rfl rfl rfl) rfl rfl (.none rfl) ?_
  refine G_end (X_then ?_)
  refine G_cond_f rfl (decide_eq_false (by omega)) ?_
  refine G_skip (X_then (G_seq (G_region ?_)))
  refine G_val (V_move rfl rfl) rfl rfl (.none rfl) ?_
  refine G_val (V_move rfl rfl) rfl rfl (.none rfl) ?_
  refine G_call (k := 33) (.mk rfl rfl rfl rfl) rfl rfl (.none rfl) (Numbered_call _ _ (by assumption) _ _) ?_
  rintro r17 E18 L19 hE20 ⟨rfl, rfl⟩
  replace hT := hT.mono hE20
  refine G_val (V_move rfl rfl) rfl rfl (.none rfl) ?_
  refine G_val (V_extract rfl rfl rfl) rfl rfl (.none rfl) ?_
  refine G_val (V_extract rfl rfl rfl) rfl rfl (.none rfl) ?_
  (refine G_alloc rfl rfl rfl (.none rfl) ?_; intro b19)
  refine G_storeA rfl rfl rfl rfl (by simp [Value.oneCell']) rfl (.none rfl) (.head _ _ _) rfl ?_
  refine G_val (V_assign rfl rfl) rfl rfl (.none rfl) ?_
  refine G_end (X_then (G_seq (G_region ?_)))
  refine G_val (V_move rfl rfl) rfl rfl (.none rfl) ?_
  refine G_val (V_move rfl rfl) rfl rfl (.none rfl) ?_
  refine G_call (k := 34) (.mk rfl rfl rfl rfl) rfl rfl (.none rfl) (RNumbered_call _ _ _ _) ?_
  rintro r21 E22 L23 hE24 ⟨rfl, rfl⟩
  replace hT := hT.mono hE24
  refine G_val (V_move rfl rfl) rfl rfl (.none rfl) ?_
  refine G_val (V_extract rfl rfl rfl) rfl rfl (.none rfl) ?_
  refine G_val (V_extract rfl rfl rfl) rfl rfl (.none rfl) ?_
  (refine G_alloc rfl rfl rfl (.none rfl) ?_; intro b20)
  refine G_storeA rfl rfl rfl rfl (by simp [Value.oneCell']) rfl (.none rfl) (.head _ _ _) rfl ?_
  refine G_val (V_assign rfl rfl) rfl rfl (.none rfl) ?_
  refine G_end (X_then (G_seq (G_seq (G_region ?_))))
  refine G_val (V_loadA rfl rfl (Cells.own (.tail _ (.head _))) rfl) rfl rfl (.none rfl) ?_
  refine G_val (V_loadA rfl rfl (Cells.own (.head _)) rfl) rfl rfl (.none rfl) ?_
  refine G_val (V_aneq_25 rfl rfl rfl) rfl rfl (.none rfl) ?_
  refine G_val (V_move rfl rfl) rfl rfl (.none rfl) ?_
  refine G.bool_f 83 rfl (decide_eq_false (by omega)) ?_
  refine G_val (V_move rfl rfl) rfl rfl (.yes rfl rfl rfl rfl) ?_
  refine G_val (V_move rfl rfl) rfl rfl (.yes rfl rfl rfl rfl) ?_
  refine G_val (V_neq rfl rfl rfl) rfl rfl (.yes rfl rfl rfl rfl) ?_
  refine G_val (V_pick_f rfl rfl rfl) rfl rfl (.none rfl) ?_
  refine G_end (X_then ?_)
  refine G_cond_f rfl (decide_eq_false (by omega)) ?_
  refine G_skip (X_then (G_seq (G_seq (G_region ?_))))
  refine G_val (V_move rfl rfl) rfl rfl (.none rfl) ?_
  refine G_val (V_gtr rfl rfl rfl) rfl rfl (.none rfl) ?_
  refine G_val (V_move rfl rfl) rfl rfl (.none rfl) ?_
  apply G_joinAnd 3 90 93 rfl
  · intro H25
    dsimp only [List.take]
    simp only [Bool.and_eq_true, Bool.or_eq_true, Bool.not_eq_true', Bool.not_eq_false', Bool.and_eq_false_iff, Bool.or_eq_false_iff, Bool.not_not, decide_eq_true_eq, decide_eq_false_iff_not, ne_eq, Decidable.not_not, Bool.decide_eq_true] at H25
    refine G_val (V_move rfl rfl) rfl rfl (.yes rfl rfl rfl rfl) ?_
    refine G_val (V_leq rfl rfl rfl) rfl rfl (.yes rfl rfl rfl rfl) ?_
    refine G_val (V_pick_t rfl rfl rfl) rfl rfl (.none rfl) ?_
    refine G_end ?_
    exact JQ_end 3 rfl rfl (by kernel_rfl)
  · intro H26
    dsimp only [List.take]
    simp only [Bool.and_eq_true, Bool.or_eq_true, Bool.not_eq_true', Bool.not_eq_false', Bool.and_eq_false_iff, Bool.or_eq_false_iff, Bool.not_not, decide_eq_true_eq, decide_eq_false_iff_not, ne_eq, Decidable.not_not, Bool.decide_eq_true] at H26
    refine G_stay (.no rfl rfl rfl rfl) rfl rfl ?_
    refine G_stay (.no rfl rfl rfl rfl) rfl rfl ?_
    refine G_val (V_pick_f rfl rfl rfl) rfl rfl (.none rfl) ?_
    refine G_end ?_
    exact JQ_end 3 rfl rfl (by kernel_rfl)
  dsimp only [List.drop]
  refine G_val (V_move rfl rfl) rfl rfl (.none rfl) ?_
  apply G_joinAnd 3 94 97 rfl
  · intro H27
    dsimp only [List.take]
    simp only [Bool.and_eq_true, Bool.or_eq_true, Bool.not_eq_true', Bool.not_eq_false', Bool.and_eq_false_iff, Bool.or_eq_false_iff, Bool.not_not, decide_eq_true_eq, decide_eq_false_iff_not, ne_eq, Decidable.not_not, Bool.decide_eq_true] at H27
    refine G_val (V_move rfl rfl) rfl rfl (.yes rfl rfl rfl rfl) ?_
    refine G_val (V_gtr rfl rfl rfl) rfl rfl (.yes rfl rfl rfl rfl) ?_
    refine G_val (V_pick_t rfl rfl rfl) rfl rfl (.none rfl) ?_
    refine G_end ?_
    exact JQ_end 3 rfl rfl (by kernel_rfl)
  · intro H28
    dsimp only [List.take]
    simp only [Bool.and_eq_true, Bool.or_eq_true, Bool.not_eq_true', Bool.not_eq_false', Bool.and_eq_false_iff, Bool.or_eq_false_iff, Bool.not_not, decide_eq_true_eq, decide_eq_false_iff_not, ne_eq, Decidable.not_not, Bool.decide_eq_true] at H28
    refine G_stay (.no rfl rfl rfl rfl) rfl rfl ?_
    refine G_stay (.no rfl rfl rfl rfl) rfl rfl ?_
    refine G_val (V_pick_f rfl rfl rfl) rfl rfl (.none rfl) ?_
    refine G_end ?_
    exact JQ_end 3 rfl rfl (by kernel_rfl)
  dsimp only [List.drop]
  refine G_val (V_move rfl rfl) rfl rfl (.none rfl) ?_
  apply G_joinAnd 3 98 101 rfl
  · intro H29
    dsimp only [List.take]
    simp only [Bool.and_eq_true, Bool.or_eq_true, Bool.not_eq_true', Bool.not_eq_false', Bool.and_eq_false_iff, Bool.or_eq_false_iff, Bool.not_not, decide_eq_true_eq, decide_eq_false_iff_not, ne_eq, Decidable.not_not, Bool.decide_eq_true] at H29
    refine G_val (V_move rfl rfl) rfl rfl (.yes rfl rfl rfl rfl) ?_
    refine G_val (V_leq rfl rfl rfl) rfl rfl (.yes rfl rfl rfl rfl) ?_
    refine G_val (V_pick_t rfl rfl rfl) rfl rfl (.none rfl) ?_
    refine G_end ?_
    exact JQ_end 3 rfl rfl (by kernel_rfl)
  · intro H30
    dsimp only [List.take]
    simp only [Bool.and_eq_true, Bool.or_eq_true, Bool.not_eq_true', Bool.not_eq_false', Bool.and_eq_false_iff, Bool.or_eq_false_iff, Bool.not_not, decide_eq_true_eq, decide_eq_false_iff_not, ne_eq, Decidable.not_not, Bool.decide_eq_true] at H30
    refine G_stay (.no rfl rfl rfl rfl) rfl rfl ?_
    refine G_stay (.no rfl rfl rfl rfl) rfl rfl ?_
    refine G_val (V_pick_f rfl rfl rfl) rfl rfl (.none rfl) ?_
    refine G_end ?_
    exact JQ_end 3 rfl rfl (by kernel_rfl)
  dsimp only [List.drop]
  refine G_val (V_move rfl rfl) rfl rfl (.none rfl) ?_
  apply G_joinOr 7 102 109 rfl
  · intro H31
    dsimp only [List.take]
    simp only [Bool.and_eq_true, Bool.or_eq_true, Bool.not_eq_true', Bool.not_eq_false', Bool.and_eq_false_iff, Bool.or_eq_false_iff, Bool.not_not, decide_eq_true_eq, decide_eq_false_iff_not, ne_eq, Decidable.not_not, Bool.decide_eq_true] at H31
    refine G_stay (.no rfl rfl rfl rfl) rfl rfl ?_
    refine G_stay (.no rfl rfl rfl rfl) rfl rfl ?_
    refine G_stay (.no rfl rfl rfl rfl) rfl rfl ?_
    refine G_stay (.un rfl rfl rfl rfl) rfl rfl ?_
    refine G_stay (.un rfl rfl rfl rfl) rfl rfl ?_
    refine G_stay (.no rfl rfl rfl rfl) rfl rfl ?_
    refine G_val (V_pick_t rfl rfl rfl) rfl rfl (.none rfl) ?_
    refine G_end ?_
    exact JQ_end 7 rfl rfl (by kernel_rfl)
  · intro H32
    dsimp only [List.take]
    simp only [Bool.and_eq_true, Bool.or_eq_true, Bool.not_eq_true', Bool.not_eq_false', Bool.and_eq_false_iff, Bool.or_eq_false_iff, Bool.not_not, decide_eq_true_eq, decide_eq_false_iff_not, ne_eq, Decidable.not_not, Bool.decide_eq_true] at H32
    refine G_val (V_move rfl rfl) rfl rfl (.yes rfl rfl rfl rfl) ?_
    refine G_val (V_eql rfl rfl rfl) rfl rfl (.yes rfl rfl rfl rfl) ?_
    refine G_val (V_move rfl rfl) rfl rfl (.yes rfl rfl rfl rfl) ?_
    apply G_joinAnd 3 105 108 rfl
    · intro H33
      dsimp only [List.take]
      simp only [Bool.and_eq_true, Bool.or_eq_true, Bool.not_eq_true', Bool.not_eq_false', Bool.and_eq_false_iff, Bool.or_eq_false_iff, Bool.not_not, decide_eq_true_eq, decide_eq_false_iff_not, ne_eq, Decidable.not_not, Bool.decide_eq_true] at H33
      refine G_val (V_move rfl rfl) rfl rfl (.yes rfl rfl rfl rfl) ?_
      refine G_val (V_eql rfl rfl rfl) rfl rfl (.yes rfl rfl rfl rfl) ?_
      refine G_val (V_pick_t rfl rfl rfl) rfl rfl (.yes rfl rfl rfl rfl) ?_
      refine G_end ?_
      exact JQ_end 3 rfl rfl (by kernel_rfl)
    · intro H34
      dsimp only [List.take]
      simp only [Bool.and_eq_true, Bool.or_eq_true, Bool.not_eq_true', Bool.not_eq_false', Bool.and_eq_false_iff, Bool.or_eq_false_iff, Bool.not_not, decide_eq_true_eq, decide_eq_false_iff_not, ne_eq, Decidable.not_not, Bool.decide_eq_true] at H34
      refine G_stay (.no rfl rfl rfl rfl) rfl rfl ?_
      refine G_stay (.no rfl rfl rfl rfl) rfl rfl ?_
      refine G_val (V_pick_f rfl rfl rfl) rfl rfl (.yes rfl rfl rfl rfl) ?_
      refine G_end ?_
      exact JQ_end 3 rfl rfl (by kernel_rfl)
    dsimp only [List.drop]
    refine G_val (V_pick_f rfl rfl rfl) rfl rfl (.none rfl) ?_
    refine G_end ?_
    exact JQ_end 5 rfl rfl (by kernel_rfl)
  dsimp only [List.drop]
  refine G_end (X_then ?_)
  refine G_cond rfl (fun H35 => ?_) (fun H35 => ?_)
  · simp only [Bool.and_eq_true, Bool.or_eq_true, Bool.not_eq_true', Bool.not_eq_false', Bool.and_eq_false_iff, Bool.or_eq_false_iff, Bool.not_not, decide_eq_true_eq, decide_eq_false_iff_not, ne_eq, Decidable.not_not, Bool.decide_eq_true] at H35
    refine G_seq (G_region ?_)
    refine G_call (k := 10) (.mk rfl rfl rfl rfl) rfl rfl (.none rfl) (awake_call _ _) ?_
    rintro r36 E37 L38 hE39 ⟨rfl, rfl⟩
    replace hT := hT.mono hE39
    refine G_val (V_assign rfl rfl) rfl rfl (.none rfl) ?_
    refine G_end (X_then (G_ret (X_then_ret ?_)))
    refine G_leaveS (.drop _ (.drop _ (.drop _ (.drop _ (.drop _ (.nil _)))))) (by exact (.cons (.tmp rfl) (.nil))) rfl ?_ ?_
    · exact ((((((hE4.trans hE8).trans hE12).trans hE16).trans hE20).trans hE24).trans hE39)
    exact ⟨(by kernel_rfl), rfl⟩
  simp only [Bool.and_eq_true, Bool.or_eq_true, Bool.not_eq_true', Bool.not_eq_false', Bool.and_eq_false_iff, Bool.or_eq_false_iff, Bool.not_not, decide_eq_true_eq, decide_eq_false_iff_not, ne_eq, Decidable.not_not, Bool.decide_eq_true] at H35
  refine G_skip (X_then (G_seq (G_region ?_)))
  refine G_val (V_move rfl rfl) rfl rfl (.none rfl) ?_
  refine G_val (V_move rfl rfl) rfl rfl (.none rfl) ?_
  refine G_call (k := 35) (.mk rfl rfl rfl rfl) rfl rfl (.none rfl) (All_call _ _ _ _) ?_
  rintro r40 E41 L42 hE43 ⟨z44, ⟨z45, ⟨rfl, ⟨Z46, rfl⟩⟩⟩⟩
  replace hT := hT.mono hE43
  refine G_val (V_move rfl rfl) rfl rfl (.none rfl) ?_
  refine G_val (V_extract rfl rfl rfl) rfl rfl (.none rfl) ?_
  refine G_val (V_extract rfl rfl rfl) rfl rfl (.none rfl) ?_
  refine G_val (V_assign rfl rfl) rfl rfl (.none rfl) ?_
  refine G_val (V_assign rfl rfl) rfl rfl (.none rfl) ?_
  refine G_end (X_then (G_seq (G_region ?_)))
  refine G_val (V_move rfl rfl) rfl rfl (.none rfl) ?_
  refine G_val (V_move rfl rfl) rfl rfl (.none rfl) ?_
  refine G_call (k := 36) (.mk rfl rfl rfl rfl) rfl rfl (.none rfl) (RAll_call _ _ _ _) ?_
  rintro r47 E48 L49 hE50 ⟨z51, ⟨z52, ⟨rfl, ⟨Z53, rfl⟩⟩⟩⟩
  replace Z46 := Z46.mono hE50
  replace hT := hT.mono hE50
  refine G_val (V_move rfl rfl) rfl rfl (.none rfl) ?_
  refine G_val (V_extract rfl rfl rfl) rfl rfl (.none rfl) ?_
  refine G_val (V_extract rfl rfl rfl) rfl rfl (.none rfl) ?_
  refine G_val (V_assign rfl rfl) rfl rfl (.none rfl) ?_
  refine G_val (V_assign rfl rfl) rfl rfl (.none rfl) ?_
  refine G_end (X_then (G_seq (G_seq (G_region ?_))))
  refine G_val (V_move rfl rfl) rfl rfl (.none rfl) ?_
  refine G_val (V_move rfl rfl) rfl rfl (.none rfl) ?_
  refine G_val (V_neq rfl rfl rfl) rfl rfl (.none rfl) ?_
  refine G_val (V_move rfl rfl) rfl rfl (.none rfl) ?_
  refine G.bool_f 126 rfl (decide_eq_false (by omega)) ?_
  refine G_val (V_move rfl rfl) rfl rfl (.yes rfl rfl rfl rfl) ?_
  refine G_val (V_lenS rfl rfl) rfl rfl (.yes rfl rfl rfl rfl) ?_
  refine G_val (V_move rfl rfl) rfl rfl (.yes rfl rfl rfl rfl) ?_
  refine G_val (V_lenS rfl rfl) rfl rfl (.yes rfl rfl rfl rfl) ?_
  refine G_val (V_neq rfl rfl rfl) rfl rfl (.yes rfl rfl rfl rfl) ?_
  refine G_val (V_pick_f rfl rfl rfl) rfl rfl (.none rfl) ?_
  refine G_end (X_then ?_)
  refine G_cond_f rfl (decide_eq_false (by omega)) ?_
  refine G_skip (X_then (G_seq (G_seq (G_region ?_))))
  refine G_val (V_assign rfl rfl) rfl rfl (.none rfl) ?_
  refine G_end (X_then (G_block ?_))
  refine G.drop (G.drop (G.drop (G.drop (G.drop ?_))))
  refine G_loop (α := Nat) (fun i => [(21, .slice z44 (allM terms k).1.length z45), (22, .slice z51 (allM terms k).1.length z52), (23, .int .i64 (i : Nat))]) (fun _ => E48) (fun _ => L)
    (fun i => i ≤ (allM terms k).1.length) (fun i => (allM terms k).1.length - i) 0 (Nat.zero_le _) ⟨rfl, rfl, rfl, trivial⟩ rfl rfl ?_
  rintro i hi
  by_cases hlt : i < (allM terms k).1.length
  · have hcell := lksC_get (List.getElem?_eq_getElem hlt)
    generalize (allM terms k).1[i] = y at *
    refine G_seq (G_seq (G_region ?_))
    refine G_val (V_move rfl rfl) rfl rfl (.none rfl) ?_
    refine G_val (V_move rfl rfl) rfl rfl (.none rfl) ?_
    refine G_val (V_lenS rfl rfl) rfl rfl (.none rfl) ?_
    refine G_val (V_lss rfl rfl rfl) rfl rfl (.none rfl) ?_
    refine G_end (X_then ?_)
    refine G_cond_t rfl (decide_eq_true (by omega)) ?_
    refine G_skip (X_then (G_seq (G_block (G_seq ?_))))
    refine G_draw mixed (by kernel_rfl) ?_
    refine Q_val (V_move rfl rfl) rfl rfl (.none rfl) ?_
    refine Q_val (V_move rfl rfl) rfl rfl (.none rfl) ?_
    refine Q_val (V_idxAddr rfl rfl rfl (SlE.rd (by assumption)) (by omega) (by omega)) rfl rfl (.none rfl) ?_
    refine Q_val (V_loadAS rfl rfl (SlE.rd (by assumption)) (by assumption) (by simp) (by rfl)) rfl rfl (.none rfl) ?_
    refine Q_val (V_move rfl rfl) rfl rfl (.none rfl) ?_
    refine Q_val (V_move rfl rfl) rfl rfl (.none rfl) ?_
    refine Q_val (V_idxAddr rfl rfl rfl (SlE.rd (by assumption)) (by omega) (by omega)) rfl rfl (.none rfl) ?_
    refine Q_val (V_loadAS rfl rfl (SlE.rd (by assumption)) (by assumption) (by simp) (by rfl)) rfl rfl (.none rfl) ?_
    refine Q_val (V_aneq_25 rfl rfl rfl) rfl rfl (.none rfl) ?_
    refine Q_end ?_
    refine X_then ?_
    refine G_cond_f rfl (decide_eq_false (by omega)) ?_
    refine G_skip (X_block (X_then (G_region ?_)))
    refine G_val (V_move rfl rfl) rfl rfl (.none rfl) ?_
    refine G_val (V_add_i64 rfl rfl rfl (by omega) (by omega)) rfl rfl (.none rfl) ?_
    refine G_val (V_assign rfl rfl) rfl rfl (.none rfl) ?_
    refine G_end (X_then ?_)
    exact G_again (i + 1) hlt (by omega) ⟨rfl, rfl, rfl, trivial⟩ rfl rfl
  · refine G_seq ?_
    refine G_seq (G_region ?_)
    refine G_val (V_move rfl rfl) rfl rfl (.none rfl) ?_
    refine G_val (V_move rfl rfl) rfl rfl (.none rfl) ?_
    refine G_val (V_lenS rfl rfl) rfl rfl (.none rfl) ?_
    refine G_val (V_lss rfl rfl rfl) rfl rfl (.none rfl) ?_
    refine G_end (X_then ?_)
    refine G_cond_f rfl (decide_eq_false (by omega)) ?_
    refine G_exit (X_then_exit (X_then_exit (X_block_hit (X_then (G_seq (G_region ?_))))))
    refine G_call (k := 10) (.mk rfl rfl rfl rfl) rfl rfl (.none rfl) (awake_call _ _) ?_
    rintro r1 E3 L4 hE5 ⟨rfl, rfl⟩
    replace Z53 := Z53.mono hE5
    replace Z46 := Z46.mono hE5
    replace hT := hT.mono hE5
    refine G_val (V_assign rfl rfl) rfl rfl (.none rfl) ?_
    refine G_end (X_then (G_ret ?_))
    refine G_leaveS (.nil _) (by exact (.cons (.tmp rfl) (.nil))) rfl ?_ ?_
    · exact ((((((((hE4.trans hE8).trans hE12).trans hE16).trans hE20).trans hE24).trans hE43).trans hE50).trans hE5)
    exact ⟨(by kernel_rfl), rfl⟩
end
end Go.Proofs.YthcfakmmomfcaaaDoor
namespace Go.Proofs.YthcfakmmomfcaaaDoor
open Go.RowKit
set_option maxRecDepth 100000 in
theorem tab_of {W : World} {x : String × DataW Unit} {r : List (String × DataW Unit)} {d : DataW Unit} (h : laidMet Tryd.prog (x :: ("math/bits.deBruijn64tab", d) :: r) W) (hd1 : (match d with | .agg l => l[1]? | _ => none) = some (.lit (.int .u8 1))) :
    SlE (Env.of W) 1 (some ⟨5, 1, none⟩) 1 [.int .u8 1] := by
  obtain ⟨ps, ⟨g0, t0, cs0, fuel0, p0, q0, _, _, _, _, hr0, _⟩, _, _⟩ := h
  obtain ⟨g, t, cs, fuel, p, q, hg, ht, hv, hd, _, _⟩ := hr0
  obtain rfl := Option.some.inj ((show Tryd.prog.globalNamed "math/bits.deBruijn64tab" = some 5 by kernel_rfl).symm.trans hg)
  obtain rfl := Option.some.inj ((show (Tryd.prog.globals[5]?).map (·.type) = some 123 by kernel_rfl).symm.trans ht)
  obtain ⟨xs, m, _, ex, _, hl, hel⟩ := DataW.trod_array Tryd.underlying123 hd
  have c5 : Tryd.prog.cellsOf 5 = 1 := by kernel_rfl
  have hE := hel 1 (by decide)
  rw [c5, List.getElem?_eq_getElem (by omega)] at hE
  obtain ⟨z, e1, e2, _⟩ := DataW.trod_int Tryd.underlying5 hE
  have e3 : d = .agg (xs.map (·.1)) := (Prod.mk.inj ex).1
  rw [e3] at hd1
  simp only [List.getElem?_map] at hd1
  rw [List.getElem?_eq_getElem (by omega), Option.map_some, e2] at hd1
  obtain rfl : z = 1 := by simpa using hd1
  have hcell : W.cell? ⟨5, 1, none⟩ = some (.int .u8 1) := by
    rw [World.var?_cell hg hv 1]
    have : ((cs.toList.drop (1 * 1)).take 1)[0]? = some (.int .u8 1) := by rw [e1]; rfl
    simpa using this
  refine ⟨rfl, .inr ⟨_, rfl, .inl rfl, fun j v hj => ?_⟩⟩
  obtain rfl : j = 0 := by
    have := (List.getElem?_eq_some_iff.1 hj).1
    simpa using this
  cases hj
  exact Env.of_cell (by simpa [Addr.add] using hcell)
end Go.Proofs.YthcfakmmomfcaaaDoor
set_option linter.unusedSimpArgs false
set_option linter.unusedVariables false
set_option maxHeartbeats 2000000
set_option maxRecDepth 20000
namespace Go.Proofs.YthcfakmmomfcaaaDoor
open Go.RowKit
/-! The law LookKnown: its calls. -/
def knA : List Value := [.int .i64 0, .int .i64 0, .int .i64 0, .int .i64 0, .int .i64 0, .int .i64 1, .int .i64 0, .int .i64 0, .int .i64 0, .int .i64 0, .int .i64 1, .int .i64 1, .int .i64 0, .int .i64 0, .int .i64 0]
def knB : List Value := [.int .i64 0, .int .i64 0, .int .i64 0, .int .i64 0, .int .i64 0, .int .i64 1, .int .i64 0, .int .i64 0, .int .i64 0, .int .i64 0, .int .i64 2, .int .i64 0, .int .i64 0, .int .i64 0, .int .i64 0]
theorem parseP_m : parseP [45] = (lk 0 0 0 0 0, 0) := by unfold parseP; rw [if_pos rfl]
theorem parseP_07b : parseP [48, 32, 32, 55] = (lk 0 0 0 0 0, 3) := parseP_bad (by decide) (by simp [altP])
theorem parseP_8 : parseP [56] = (lk 0 0 0 0 0, 14) := by
  rw [parseP_alt (by decide) (by simp [altP])]
  rfl
theorem parseP_12 : parseP [49, 50] = (lk 0 0 0 0 0, 3) := parseP_bad (by decide) (by simp [altP])
theorem parseP_0 : parseP [] = (lk 0 0 0 0 0, 3) := parseP_bad (by decide) (by simp [altP])
section
variable (E : Env) (L : List Res)
theorem of_4 (p : Option Addr) (c : Nat) (x y z u : Int) (h : SlE E 1 p 4 [.int .i64 x, .int .i64 y, .int .i64 z, .int .i64 u]) (hx : 0 ≤ x ∧ x < 8) (hy : 0 ≤ y ∧ y < 8) (hz : 0 ≤ z ∧ z < 8) (hu : 0 ≤ u ∧ u < 8) : CallV Tryd.prog 37 #[.slice p 4 c] E L (lk 4 x y z u) :=
  of_lit E L p 4 c _ [x, y, z, u] _ h rfl (by omega) (by unfold ofM; rw [if_neg (by simp), if_pos (by simpa using ⟨hx, hy, hz, hu⟩)]; rfl)
theorem beginsT_call (n a b c d n' a' b' c' d' : Int) (w : Bool) (h : begL' n a b c d n' a' b' c' d' = (w, 0)) : CallV Tryd.prog 39 #[lk n a b c d, lk n' a' b' c' d', .bool w] E L (.bool true) := by
  refine CallS.toV (CallS.intro (l := [_, _, _]) _ Tryd.func39 rfl Tryd.ntmps39 rfl ?_)
  refine G_seq (G_region ?_)
  (refine G_boxA rfl rfl rfl rfl (.none rfl) ?_; intro b3)
  (refine G_boxA rfl rfl rfl rfl (.none rfl) ?_; intro b4)
  refine G_val (V_assign rfl rfl) rfl rfl (.none rfl) ?_
  refine G_end (X_then (G_seq (G_region ?_)))
  refine G_val (V_loadA rfl rfl (Cells.own (.tail _ (.head _))) rfl) rfl rfl (.none rfl) ?_
  refine G_val (V_loadA rfl rfl (Cells.own (.head _)) rfl) rfl rfl (.none rfl) ?_
  refine G_call (k := 27) (.mk rfl rfl rfl rfl) rfl rfl (.none rfl) (Begins_call _ _ n a b c d n' a' b' c' d') ?_
  rintro r1 E1 L1 hE1 ⟨rfl, rfl⟩
  rw [h]
  cases w
  · refine G_val (V_move rfl rfl) rfl rfl (.none rfl) ?_
    refine G_val (V_extract rfl rfl rfl) rfl rfl (.none rfl) ?_
    refine G_val (V_extract rfl rfl rfl) rfl rfl (.none rfl) ?_
    refine G_val (V_assign rfl rfl) rfl rfl (.none rfl) ?_
    refine G_val (V_assign rfl rfl) rfl rfl (.none rfl) ?_
    refine G_end (X_then (G_seq (G_region ?_)))
    refine G_val (V_move rfl rfl) rfl rfl (.none rfl) ?_
    refine G_val (V_eql rfl rfl rfl) rfl rfl (.none rfl) ?_
    refine G_val (V_move rfl rfl) rfl rfl (.none rfl) ?_
    refine G.bool_t 17 rfl (by kernel_rfl) ?_
    refine G_val (V_move rfl rfl) rfl rfl (.yes rfl rfl rfl rfl) ?_
    refine G_val (V_move rfl rfl) rfl rfl (.yes rfl rfl rfl rfl) ?_
    refine G_val (V_beql rfl rfl rfl) rfl rfl (.yes rfl rfl rfl rfl) ?_
    refine G_val (V_pick_t rfl rfl rfl) rfl rfl (.none rfl) ?_
    refine G_val (V_assign rfl rfl) rfl rfl (.none rfl) ?_
    refine G_end (X_then (G_ret ?_))
    refine G_leaveS (.drop _ (.drop _ (.nil _))) (by exact (.cons (.tmp rfl) (.nil))) rfl ?_ ?_
    · exact hE1
    exact ⟨(by kernel_rfl), rfl⟩
  · refine G_val (V_move rfl rfl) rfl rfl (.none rfl) ?_
    refine G_val (V_extract rfl rfl rfl) rfl rfl (.none rfl) ?_
    refine G_val (V_extract rfl rfl rfl) rfl rfl (.none rfl) ?_
    refine G_val (V_assign rfl rfl) rfl rfl (.none rfl) ?_
    refine G_val (V_assign rfl rfl) rfl rfl (.none rfl) ?_
    refine G_end (X_then (G_seq (G_region ?_)))
    refine G_val (V_move rfl rfl) rfl rfl (.none rfl) ?_
    refine G_val (V_eql rfl rfl rfl) rfl rfl (.none rfl) ?_
    refine G_val (V_move rfl rfl) rfl rfl (.none rfl) ?_
    refine G.bool_t 17 rfl (by kernel_rfl) ?_
    refine G_val (V_move rfl rfl) rfl rfl (.yes rfl rfl rfl rfl) ?_
    refine G_val (V_move rfl rfl) rfl rfl (.yes rfl rfl rfl rfl) ?_
    refine G_val (V_beql rfl rfl rfl) rfl rfl (.yes rfl rfl rfl rfl) ?_
    refine G_val (V_pick_t rfl rfl rfl) rfl rfl (.none rfl) ?_
    refine G_val (V_assign rfl rfl) rfl rfl (.none rfl) ?_
    refine G_end (X_then (G_ret ?_))
    refine G_leaveS (.drop _ (.drop _ (.nil _))) (by exact (.cons (.tmp rfl) (.nil))) rfl ?_ ?_
    · exact hE1
    exact ⟨(by kernel_rfl), rfl⟩
theorem parsesT_call (s : List UInt8) (hs : s.length ≤ 1000) (e : Int) (h : parseP s = (lk 0 0 0 0 0, e)) : CallV Tryd.prog 40 #[.string (S s), .int .i64 e] E L (.bool true) := by
  refine CallS.toV (CallS.intro (l := [_, _]) _ Tryd.func40 rfl Tryd.ntmps40 rfl ?_)
  refine G_seq (G_region ?_)
  refine G_val (V_assign rfl rfl) rfl rfl (.none rfl) ?_
  refine G_end (X_then (G_seq (G_region ?_)))
  refine G_val (V_move rfl rfl) rfl rfl (.none rfl) ?_
  refine G_call (k := 29) (.mk rfl rfl rfl rfl) rfl rfl (.none rfl) (Parse_call _ _ s hs) ?_
  rintro r1 E1 L1 hE1 ⟨rfl, rfl⟩
  rw [h]
  by_cases h0 : e = 0
  · refine G_val (V_move rfl rfl) rfl rfl (.none rfl) ?_
    refine G_val (V_extract rfl rfl rfl) rfl rfl (.none rfl) ?_
    refine G_val (V_extract rfl rfl rfl) rfl rfl (.none rfl) ?_
    (refine G_alloc rfl rfl rfl (.none rfl) ?_; intro b5)
    refine G_storeA rfl rfl rfl rfl (by simp [Value.oneCell']) rfl (.none rfl) (.head _ _ _) rfl ?_
    refine G_val (V_assign rfl rfl) rfl rfl (.none rfl) ?_
    refine G_end (X_then (G_seq (G_region ?_)))
    refine G_val (V_move rfl rfl) rfl rfl (.none rfl) ?_
    refine G_val (V_move rfl rfl) rfl rfl (.none rfl) ?_
    refine G_val (V_eql rfl rfl rfl) rfl rfl (.none rfl) ?_
    refine G_val (V_move rfl rfl) rfl rfl (.none rfl) ?_
    refine G.bool_t 15 rfl (decide_eq_true (by omega)) ?_
    refine G_val (V_move rfl rfl) rfl rfl (.yes rfl rfl rfl rfl) ?_
    refine G_val (V_eql rfl rfl rfl) rfl rfl (.yes rfl rfl rfl rfl) ?_
    refine G_val (V_move rfl rfl) rfl rfl (.yes rfl rfl rfl rfl) ?_
    refine G.bool_t 18 rfl (decide_eq_true (by omega)) ?_
    refine G_stay (.no rfl rfl rfl rfl) rfl rfl ?_
    refine G_stay (.no rfl rfl rfl rfl) rfl rfl ?_
    refine G_stay (.no rfl rfl rfl rfl) rfl rfl ?_
    refine G_val (V_pick_t rfl rfl rfl) rfl rfl (.yes rfl rfl rfl rfl) ?_
    refine G_val (V_pick_t rfl rfl rfl) rfl rfl (.none rfl) ?_
    refine G_val (V_assign rfl rfl) rfl rfl (.none rfl) ?_
    refine G_end (X_then (G_ret ?_))
    refine G_leaveS (.drop _ (.nil _)) (by exact (.cons (.tmp rfl) (.nil))) rfl ?_ ?_
    · exact hE1
    exact ⟨(by kernel_rfl), rfl⟩
  · refine G_val (V_move rfl rfl) rfl rfl (.none rfl) ?_
    refine G_val (V_extract rfl rfl rfl) rfl rfl (.none rfl) ?_
    refine G_val (V_extract rfl rfl rfl) rfl rfl (.none rfl) ?_
    (refine G_alloc rfl rfl rfl (.none rfl) ?_; intro b5)
    refine G_storeA rfl rfl rfl rfl (by simp [Value.oneCell']) rfl (.none rfl) (.head _ _ _) rfl ?_
    refine G_val (V_assign rfl rfl) rfl rfl (.none rfl) ?_
    refine G_end (X_then (G_seq (G_region ?_)))
    refine G_val (V_move rfl rfl) rfl rfl (.none rfl) ?_
    refine G_val (V_move rfl rfl) rfl rfl (.none rfl) ?_
    refine G_val (V_eql rfl rfl rfl) rfl rfl (.none rfl) ?_
    refine G_val (V_move rfl rfl) rfl rfl (.none rfl) ?_
    refine G.bool_t 15 rfl (decide_eq_true (by omega)) ?_
    refine G_val (V_move rfl rfl) rfl rfl (.yes rfl rfl rfl rfl) ?_
    refine G_val (V_eql rfl rfl rfl) rfl rfl (.yes rfl rfl rfl rfl) ?_
    refine G_val (V_move rfl rfl) rfl rfl (.yes rfl rfl rfl rfl) ?_
    refine G.bool_f 18 rfl (decide_eq_false (by omega)) ?_
    refine G_val (V_loadA rfl rfl (Cells.own (.head _)) rfl) rfl rfl (.yes rfl rfl rfl rfl) ?_
    refine G_val (V_build rfl rfl (by simp [fillV, setLs, setL, Value.cells]; rfl)) rfl rfl (.yes rfl rfl rfl rfl) ?_
    refine G_val (V_aeql_25 rfl rfl rfl) rfl rfl (.yes rfl rfl rfl rfl) ?_
    refine G_val (V_pick_f rfl rfl rfl) rfl rfl (.yes rfl rfl rfl rfl) ?_
    refine G_val (V_pick_t rfl rfl rfl) rfl rfl (.none rfl) ?_
    refine G_val (V_assign rfl rfl) rfl rfl (.none rfl) ?_
    refine G_end (X_then (G_ret ?_))
    refine G_leaveS (.drop _ (.nil _)) (by exact (.cons (.tmp rfl) (.nil))) rfl ?_ ?_
    · exact hE1
    exact ⟨(by kernel_rfl), rfl⟩
theorem numberedT_call (hT : SlE E 1 (some ⟨5, 1, none⟩) 1 [.int .u8 1]) (n a b c d t w : Int) (h : nmM n a b c d t = (w, 0)) : CallV Tryd.prog 41 #[lk n a b c d, .int .i64 t, .int .i64 w] E L (.bool true) := by
  refine CallS.toV (CallS.intro (l := [_, _, _]) _ Tryd.func41 rfl Tryd.ntmps41 rfl ?_)
  refine G_seq (G_region ?_)
  (refine G_boxA rfl rfl rfl rfl (.none rfl) ?_; intro b3)
  refine G_val (V_assign rfl rfl) rfl rfl (.none rfl) ?_
  refine G_end (X_then (G_seq (G_region ?_)))
  refine G_val (V_loadA rfl rfl (Cells.own (.head _)) rfl) rfl rfl (.none rfl) ?_
  refine G_val (V_move rfl rfl) rfl rfl (.none rfl) ?_
  refine G_call (k := 31) (.mk rfl rfl rfl rfl) rfl rfl (.none rfl) (Number_call _ _ hT n a b c d t) ?_
  rintro r1 E1 L1 hE1 ⟨rfl, rfl⟩
  rw [h]
  refine G_val (V_move rfl rfl) rfl rfl (.none rfl) ?_
  refine G_val (V_extract rfl rfl rfl) rfl rfl (.none rfl) ?_
  refine G_val (V_extract rfl rfl rfl) rfl rfl (.none rfl) ?_
  refine G_val (V_assign rfl rfl) rfl rfl (.none rfl) ?_
  refine G_val (V_assign rfl rfl) rfl rfl (.none rfl) ?_
  refine G_end (X_then (G_seq (G_region ?_)))
  refine G_val (V_move rfl rfl) rfl rfl (.none rfl) ?_
  refine G_val (V_eql rfl rfl rfl) rfl rfl (.none rfl) ?_
  refine G_val (V_move rfl rfl) rfl rfl (.none rfl) ?_
  refine G.bool_t 17 rfl (decide_eq_true (by omega)) ?_
  refine G_val (V_move rfl rfl) rfl rfl (.yes rfl rfl rfl rfl) ?_
  refine G_val (V_move rfl rfl) rfl rfl (.yes rfl rfl rfl rfl) ?_
  refine G_val (V_eql rfl rfl rfl) rfl rfl (.yes rfl rfl rfl rfl) ?_
  refine G_val (V_pick_t rfl rfl rfl) rfl rfl (.none rfl) ?_
  refine G_val (V_assign rfl rfl) rfl rfl (.none rfl) ?_
  refine G_end (X_then (G_ret ?_))
  refine G_leaveS (.drop _ (.nil _)) (by exact (.cons (.tmp rfl) (.nil))) rfl ?_ ?_
  · exact hE1
  exact ⟨(by (simp (discharger := omega) only [resVal, if_pos, if_neg]; first | done | rfl)), (by rfl)⟩
end
end Go.Proofs.YthcfakmmomfcaaaDoor
