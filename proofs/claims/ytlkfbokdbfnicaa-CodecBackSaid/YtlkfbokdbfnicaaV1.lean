import Derived.Test.YtlkfbokdbfnicaaSep17
import Derived.Test.YtlkfbokdbfnicaaInst
import Derived.Test.YtlkfbokdbfnicaaVmath
import Derived.Lib.Hide
set_option linter.unusedSimpArgs false
set_option linter.unusedVariables false
set_option maxHeartbeats 2000000
set_option maxRecDepth 20000
namespace Go.Proofs.Ytlkfbokdbfnicaa
open Go.RowKit
theorem iter_digits (c m : Nat) (hm : m < 18446744073709551616) (E : Env) : Iter Try.prog 113 #[.pointer (some ⟨c, 0, none⟩)] (fun x : UInt8 => [Value.int .u8 x.toNat].toArray) (vbytes m) E [.blk c (.cells #[.int .u64 m] 32 (0, 0))] := by
  intro l E0 L0 Inv InvX hE0 h0 hy
  refine CallS.intro (L := .blk c (.cells #[.int .u64 m] 32 (0, 0)) :: L0) (l := [.func (.yield l) #[] #[], .pointer (some ⟨c, 0, none⟩)]) 21 Try.func113 rfl Try.ntmps113 rfl ?_
  refine G_scope ?_
  refine G_seq ?_
  refine G_label ?_
  refine X_then ?_
  refine G_block ?_
  refine G_loop (α := List UInt8 × Nat × Nat × Env × List Res) (fun _ => [(0, .func (.yield l) #[] #[]), (1, .pointer (some ⟨c, 0, none⟩))]) (fun x => x.2.2.2.1) (fun x => .blk c (.cells #[.int .u64 x.2.2.1] 32 (0, 0)) :: x.2.2.2.2)
    (fun x => E0.Le x.2.2.2.1 ∧ vbytes m = x.1 ++ vdig (x.2.1 + 1) x.2.2.1 ∧ x.2.2.1 < 128 ^ (x.2.1 + 1) ∧ x.2.2.1 < 18446744073709551616 ∧ Inv x.1 x.2.2.2.1 x.2.2.2.2) (fun x => x.2.1) ([], 9, m, E0, L0)
    ⟨.refl _, rfl, by simp; omega, hm, h0⟩ ⟨rfl, rfl, trivial⟩ rfl rfl ?_
  rintro ⟨pre, k, i, E, L⟩ ⟨hE, hv, hk, hi, hI⟩
  simp only at hE hv hk hi hI ⊢
  have hlow := Lib.hid (low_7 i hi)
  by_cases hb : i < 128
  · refine G_block ?_
    refine G_seq ?_
    refine G_region ?_
    refine G_val (V_load rfl rfl (Cell.own1 (.head _))) rfl rfl (.none rfl) ?_
    refine G_val (V_and rfl rfl rfl) rfl rfl (.none rfl) ?_
    refine G_val (V_conv rfl rfl) rfl rfl (.none rfl) ?_
    refine G_val (V_assign rfl rfl) rfl rfl (.none rfl) ?_
    refine G_end ?_
    refine X_then ?_
    refine G_seq ?_
    refine G_seq ?_
    refine G_region ?_
    refine G_val (V_load rfl rfl (Cell.own1 (.head _))) rfl rfl (.none rfl) ?_
    refine G_val (V_shr rfl rfl rfl (by omega)) rfl rfl (.none rfl) ?_
    refine G_store1 rfl rfl rfl rfl rfl rfl (.none rfl) (.head _ _ _) ?_
    refine G_end ?_
    refine X_then ?_
    refine G_seq ?_
    refine G_region ?_
    refine G_val (V_load rfl rfl (Cell.own1 (.head _))) rfl rfl (.none rfl) ?_
    refine G_val (V_gtr rfl rfl rfl) rfl rfl (.none rfl) ?_
    refine G_end ?_
    refine X_then ?_
    simp only [shr_7]
    rw [hlow.out]
    refine G_cond_f rfl (by simp; omega) ?_
    refine G_skip ?_
    refine X_then ?_
    refine G_seq ?_
    refine G_region ?_
    refine G_val (V_move rfl rfl) rfl rfl (.none rfl) ?_
    refine G_val (V_move rfl rfl) rfl rfl (.none rfl) ?_
    have e : (((i % 128 : Nat) : Int)) = ((i.toUInt8.toNat : Nat) : Int) := by rw [toNat_u8 (by omega)]; omega
    rw [e]
    have hpre : pre ++ [i.toUInt8] <+: vbytes m := by rw [hv, vdig_small hb]; exact List.prefix_refl _
    refine G_yield (.mk rfl rfl rfl rfl) rfl rfl (.none rfl) (hy pre i.toUInt8 E L [_] hE hpre hI) ?_
    rintro r E' L' hE' ⟨L3, rfl, (⟨rfl, hI'⟩ | ⟨rfl, hI'⟩)⟩
    · refine G_val (V_not rfl rfl) rfl rfl (.none rfl) ?_
      refine G_val (V_move rfl rfl) rfl rfl (.none rfl) ?_
      refine G_val (V_load rfl rfl (Cell.own1 (.head _))) rfl rfl (.yes rfl rfl rfl rfl) ?_
      refine G_val (V_eql rfl rfl rfl) rfl rfl (.yes rfl rfl rfl rfl) ?_
      refine G_val (V_pick_f rfl rfl rfl) rfl rfl (.none rfl) ?_
      refine G_end ?_
      refine X_then ?_
      refine G_cond_t rfl (decide_eq_true (by omega)) ?_
      refine G_exit ?_
      refine X_block_miss rfl ?_
      refine X_then_exit ?_
      refine X_block_hit ?_
      refine X_ng ?_
      exact G_leave_n 0 .nil rfl (hE.trans hE') ⟨[_], L3, rfl, .inl (by rw [hv, vdig_small hb]; exact hI')⟩
    · refine G_val (V_not rfl rfl) rfl rfl (.none rfl) ?_
      refine G_val (V_move rfl rfl) rfl rfl (.none rfl) ?_
      refine G_stay (.no rfl rfl rfl rfl) rfl rfl ?_
      refine G_stay (.no rfl rfl rfl rfl) rfl rfl ?_
      refine G_val (V_pick_t rfl rfl rfl) rfl rfl (.none rfl) ?_
      refine G_end ?_
      refine X_then ?_
      refine G_cond_t rfl rfl ?_
      refine G_exit ?_
      refine X_block_miss rfl ?_
      refine X_then_exit ?_
      refine X_block_hit ?_
      refine X_ng ?_
      exact G_leave_n 0 .nil rfl (hE.trans hE') ⟨[_], L3, rfl, .inr ⟨_, hpre, hI'⟩⟩
  · refine G_block ?_
    refine G_seq ?_
    refine G_region ?_
    refine G_val (V_load rfl rfl (Cell.own1 (.head _))) rfl rfl (.none rfl) ?_
    refine G_val (V_and rfl rfl rfl) rfl rfl (.none rfl) ?_
    refine G_val (V_conv rfl rfl) rfl rfl (.none rfl) ?_
    refine G_val (V_assign rfl rfl) rfl rfl (.none rfl) ?_
    refine G_end ?_
    refine X_then ?_
    refine G_seq ?_
    refine G_seq ?_
    refine G_region ?_
    refine G_val (V_load rfl rfl (Cell.own1 (.head _))) rfl rfl (.none rfl) ?_
    refine G_val (V_shr rfl rfl rfl (by omega)) rfl rfl (.none rfl) ?_
    refine G_store1 rfl rfl rfl rfl rfl rfl (.none rfl) (.head _ _ _) ?_
    refine G_end ?_
    refine X_then ?_
    refine G_seq ?_
    refine G_region ?_
    refine G_val (V_load rfl rfl (Cell.own1 (.head _))) rfl rfl (.none rfl) ?_
    refine G_val (V_gtr rfl rfl rfl) rfl rfl (.none rfl) ?_
    refine G_end ?_
    refine X_then ?_
    simp only [shr_7]
    rw [hlow.out]
    refine G_cond_t rfl (by simp; omega) ?_
    refine G_region ?_
    refine G_val (V_move rfl rfl) rfl rfl (.none rfl) ?_
    refine G_val (V_or rfl rfl rfl) rfl rfl (.none rfl) ?_
    refine G_val (V_assign rfl rfl) rfl rfl (.none rfl) ?_
    refine G_end ?_
    refine X_then ?_
    refine G_seq ?_
    refine G_region ?_
    refine G_val (V_move rfl rfl) rfl rfl (.none rfl) ?_
    refine G_val (V_move rfl rfl) rfl rfl (.none rfl) ?_
    have e : orI .u8 ((i % 128 : Nat) : Int) 128 = (((i % 128 + 128).toUInt8.toNat : Nat) : Int) := by rw [toNat_u8 (by omega), high_1 _ (by omega)]
    rw [e]
    have hpre : pre ++ [(i % 128 + 128).toUInt8] <+: vbytes m := by rw [hv, vdig_big (by omega)]; simp
    refine G_yield (.mk rfl rfl rfl rfl) rfl rfl (.none rfl) (hy pre _ E L [_] hE hpre hI) ?_
    rintro r E' L' hE' ⟨L3, rfl, (⟨rfl, hI'⟩ | ⟨rfl, hI'⟩)⟩
    · refine G_val (V_not rfl rfl) rfl rfl (.none rfl) ?_
      refine G_val (V_move rfl rfl) rfl rfl (.none rfl) ?_
      refine G_val (V_load rfl rfl (Cell.own1 (.head _))) rfl rfl (.yes rfl rfl rfl rfl) ?_
      refine G_val (V_eql rfl rfl rfl) rfl rfl (.yes rfl rfl rfl rfl) ?_
      refine G_val (V_pick_f rfl rfl rfl) rfl rfl (.none rfl) ?_
      refine G_end ?_
      refine X_then ?_
      refine G_cond_f rfl (decide_eq_false (by omega)) ?_
      refine G_skip ?_
      refine X_block ?_
      refine X_then ?_
      have hk1 : 1 ≤ k := by
        cases k with
        | zero => simp at hk; omega
        | succ k => omega
      refine G_again (pre ++ [_], k - 1, i / 128, E', L3) ⟨hE.trans hE', ?_, ?_, by simp only; omega, hI'⟩ (by simp; omega) ⟨rfl, rfl, trivial⟩ rfl rfl
      · simp only [hv, vdig_big (by omega : 128 ≤ i), show k - 1 + 1 = k by omega, List.append_assoc, List.singleton_append]
      · simp only [show k - 1 + 1 = k by omega]
        rw [Nat.pow_succ] at hk
        exact Nat.div_lt_of_lt_mul (by omega)
    · refine G_val (V_not rfl rfl) rfl rfl (.none rfl) ?_
      refine G_val (V_move rfl rfl) rfl rfl (.none rfl) ?_
      refine G_stay (.no rfl rfl rfl rfl) rfl rfl ?_
      refine G_stay (.no rfl rfl rfl rfl) rfl rfl ?_
      refine G_val (V_pick_t rfl rfl rfl) rfl rfl (.none rfl) ?_
      refine G_end ?_
      refine X_then ?_
      refine G_cond_t rfl rfl ?_
      refine G_exit ?_
      refine X_block_miss rfl ?_
      refine X_then_exit ?_
      refine X_block_hit ?_
      refine X_ng ?_
      exact G_leave_n 0 .nil rfl (hE.trans hE') ⟨[_], L3, rfl, .inr ⟨_, hpre, hI'⟩⟩

theorem digits_call (E : Env) (L : List Res) (m : Nat) : CallS Try.prog 110 #[.int .u64 m] E L (fun r E' L' => ∃ c, r = .func (.func 113) #[] #[.pointer (some ⟨c, 0, none⟩)] ∧ E' = E ∧ L' = .blk c (.cells #[.int .u64 m] 32 (0, 0)) :: L) := by
  refine CallS.intro (l := [.int .u64 m]) 4 Try.func110 rfl Try.ntmps110 rfl ?_
  refine G_seq ?_
  refine G_region ?_
  (refine G_box1 rfl rfl rfl rfl rfl (.none rfl) ?_; intro b1)
  refine G_val (V_assign rfl rfl) rfl rfl (.none rfl) ?_
  refine G_end ?_
  refine X_then ?_
  refine G_seq ?_
  refine G_region ?_
  refine G_val (V_makeFunc rfl rfl rfl) rfl rfl (.none rfl) ?_
  refine G_val (V_assign rfl rfl) rfl rfl (.none rfl) ?_
  refine G_end ?_
  refine X_then ?_
  refine G_ret ?_
  refine G_leave 0 (by exact (.cons (.tmp rfl) (.nil))) rfl ?_ ?_
  · exact .refl _
  · exact ⟨_, rfl, rfl, rfl⟩


theorem write_call (E : Env) (L : List Res) (a : Option Addr) (c : Nat) (ns : List Nat) (hs : SlE E 1 a ns.length (u64s ns)) (hns : ∀ n, n ∈ ns → n < 18446744073709551616) (hlen : ns.length ≤ 1000000) :
    CallV Try.prog 101 #[.slice a ns.length c] E L (.string (S (ns.flatMap vbytes))) := by
  refine CallS.toV (CallS.intro (l := [.slice a ns.length c]) 23 Try.func101 rfl Try.ntmps101 rfl ?_)
  refine G_seq ?_
  refine G_region ?_
  refine G_val (V_assign rfl rfl) rfl rfl (.none rfl) ?_
  refine G_end ?_
  refine X_then ?_
  refine G_seq ?_
  refine G_region ?_
  (refine G_alloc rfl rfl rfl (.none rfl) ?_; intro b3)
  refine G_end ?_
  refine X_then ?_
  refine G_seq ?_
  refine G_seq ?_
  refine G_region ?_
  refine G_val (V_move rfl rfl) rfl rfl (.none rfl) ?_
  refine G_val (V_lenS rfl rfl) rfl rfl (.none rfl) ?_
  refine G_val (V_move rfl rfl) rfl rfl (.none rfl) ?_
  refine G_end ?_
  refine X_then ?_
  refine G_block ?_
  refine G.nilSl 5 1 ?_
  refine G_loopD (α := Nat × List Nat × Option Addr × Nat) (fun x => x.2.1.map mark) (fun x => [(3, .pointer (some ⟨b3, 0, none⟩)), (7, .slice a ns.length c), (8, .int .i64 ns.length), (9, .int .i64 x.1)]) (fun _ => E)
    (fun x => .sl 5 1 x.2.2.1 ((ns.take x.1).flatMap vbytes).length x.2.2.2 (u8s ((ns.take x.1).flatMap vbytes)) :: .blk b3 (.cells #[.slice x.2.2.1 ((ns.take x.1).flatMap vbytes).length x.2.2.2] 103 (0, 0)) :: (x.2.1.map dblk ++ L))
    (fun x => x.1 ≤ ns.length) (fun x => ns.length - x.1) (0, [], none, 0) (Nat.zero_le _) rfl ⟨rfl, rfl, rfl, rfl, trivial⟩ rfl rfl ?_
  rintro ⟨k, Ds, a', c'⟩ hk
  simp only at hk ⊢
  by_cases hlt : k < ns.length
  · have hx := u64s_get (List.getElem?_eq_getElem hlt)
    refine G_seq ?_
    refine G_region ?_
    refine G_val (V_lss rfl rfl rfl) rfl rfl (.none rfl) ?_
    refine G_end ?_
    refine X_then ?_
    refine G_seq ?_
    refine G_cond_t rfl (decide_eq_true (by omega)) ?_
    refine G_skip ?_
    refine X_then ?_
    refine G_seq ?_
    refine G_block ?_
    refine G_seq ?_
    refine G_region ?_
    refine G_val (V_idxAddr rfl rfl rfl (SlE.rd (by assumption)) (by omega) (by omega)) rfl rfl (.none rfl) ?_
    refine G_val (V_loadS rfl rfl (SlE.rd (by assumption)) (by assumption) (by simp)) rfl rfl (.none rfl) ?_
    refine G_val (V_assign rfl rfl) rfl rfl (.none rfl) ?_
    refine G_end ?_
    refine X_then ?_
    refine G_seq ?_
    refine G_region ?_
    refine G_val (V_move rfl rfl) rfl rfl (.none rfl) ?_
    refine G_call (k := 110) (.mk rfl rfl rfl rfl) rfl rfl (.none rfl) (digits_call _ _ ns[k]) ?_
    rintro r E' L' hE ⟨c0, rfl, rfl, rfl⟩
    refine G_end ?_
    refine X_then ?_
    refine G_block ?_
    have htot := flatMap_len ns k
    have hv := vdig_len 10 ns[k]
    refine G_rangeI (σ := List UInt8 × Option Addr × Nat) rfl (iter_digits c0 ns[k] (hns _ (List.getElem_mem hlt)) E') (fun _ => E')
      (fun s => .sl 5 1 s.2.1 (((ns.take k).flatMap vbytes).length + s.1.length) s.2.2 (u8s ((ns.take k).flatMap vbytes ++ s.1)) :: .blk b3 (.cells #[.slice s.2.1 (((ns.take k).flatMap vbytes).length + s.1.length) s.2.2] 103 (0, 0)) :: (Ds.map dblk ++ L))
      (fun pre s => s.1 = pre) (fun _ _ _ => False) ([], a', c') rfl rfl (by simp) rfl (fun _ => rfl) ?_ ?_ ?_
    · rintro l D tm fn M pre x ⟨s, a1, c1⟩ hpre rfl hE
      have hle := hpre.length_le
      simp only [List.length_append, List.length_singleton] at hle
      simp only [vbytes] at hle
      simp only [List.cons_append]
      refine G_region ?_
      refine G_val (V_assign rfl rfl) rfl rfl (.none rfl) ?_
      refine G_end ?_
      refine X_then ?_
      refine G_begin (.head _ _ _) ?_
      refine G_block ?_
      refine G_region ?_
      refine G_val (V_load rfl rfl (Cell.own1 (.tail _ (.tail _ (.tail _ (.head _)))))) rfl rfl (.none rfl) ?_
      refine G_val (V_move rfl rfl) rfl rfl (.none rfl) ?_
      (refine G_lit1 rfl rfl rfl rfl rfl (.none rfl) ?_; intro b18)
      (refine G_append rfl rfl rfl (Rd.lit (.head _) rfl) (by simp [Value.oneCell']) (by omega) (by omega) rfl rfl (.none rfl) (fun _ _ => (.tail _ (.tail _ (.tail _ (.head _ _ _))))) ?_; intro a19 c19; refine G.rm (.head _ _) ?_)
      refine G_store1 rfl rfl rfl rfl rfl rfl (.none rfl) (.tail _ (.tail _ (.tail _ (.head _ _ _)))) ?_
      refine G_end ?_
      refine X_block ?_
      exact G_rEnd (s ++ [x], a19, c19) rfl rfl (.refl _) (by simp only [List.length_append, List.length_singleton, u8s, List.map_append, List.map_cons, List.map_nil, Nat.add_assoc, List.append_assoc, List.cons_append])
    · rintro D ⟨s, a1, c1⟩ rfl hE
      refine X_block ?_
      refine X_block ?_
      refine X_then ?_
      refine G_region ?_
      refine G_val (V_add_i64 rfl rfl rfl (by omega) (by omega)) rfl rfl (.none rfl) ?_
      refine G_val (V_move rfl rfl) rfl rfl (.none rfl) ?_
      refine G_end ?_
      refine X_then ?_
      refine G.perm _ (perm3 _ _ _ _) ?_
      exact G_againD (k + 1, D :: Ds, a1, c1) (by simp only; omega) (by simp only; omega) rfl ⟨rfl, rfl, rfl, rfl, trivial⟩ rfl (by simp only [flatMap_take ns k hlt, List.length_append, List.map_cons, List.cons_append])
    · rintro D c pre s _ h
      exact h.elim
  · refine G_seq ?_
    refine G_region ?_
    refine G_val (V_lss rfl rfl rfl) rfl rfl (.none rfl) ?_
    refine G_end ?_
    refine X_then ?_
    refine G_seq ?_
    refine G_cond_f rfl (decide_eq_false (by omega)) ?_
    refine G_exit ?_
    refine X_then_exit ?_
    refine X_then_exit ?_
    refine X_block_hit ?_
    refine X_then ?_
    refine G_seq ?_
    refine G_region ?_
    refine G_val (V_load rfl rfl (Cell.own1 (.tail _ (.head _)))) rfl rfl (.none rfl) ?_
    refine G_val (V_b2s rfl rfl (Rd.sl (.head _) (by simp))) rfl rfl (.none rfl) ?_
    refine G_val (V_assign rfl rfl) rfl rfl (.none rfl) ?_
    refine G_end ?_
    refine X_then ?_
    refine G_ret ?_
    obtain rfl : k = ns.length := by omega
    rw [List.take_length]
    refine G.drop (G.drop (G_leave_ms Ds ?_))
    refine G_leave 0 (by exact (.cons (.tmp rfl) (.nil))) rfl ?_ ?_
    · exact .refl _
    · exact ⟨rfl, rfl⟩

theorem Bytes_call (E : Env) (L : List Res) (m : Nat) (hm : m < 18446744073709551616) : CallV Try.prog 73 #[.int .u64 m] E L (.string (S (vbytes m))) := by
  refine CallS.toV (CallS.intro (l := [.int .u64 m]) 6 Try.func73 rfl Try.ntmps73 rfl ?_)
  refine G_seq ?_
  refine G_region ?_
  refine G_val (V_assign rfl rfl) rfl rfl (.none rfl) ?_
  refine G_end ?_
  refine X_then ?_
  refine G_seq ?_
  refine G_region ?_
  refine G_val (V_move rfl rfl) rfl rfl (.none rfl) ?_
  (refine G_lit1 rfl rfl rfl rfl rfl (.none rfl) ?_; intro b4)
  refine G.freeze (.head _ _) ?_
  intro E' hE hb
  have hs : SlE E' 1 (some ⟨b4, 0, none⟩) 1 (u64s [m]) := SlE.lit hb rfl
  have hw := write_call E' L _ 1 [m] hs (by simpa using hm) (by simp)
  simp only [List.flatMap_cons, List.flatMap_nil, List.append_nil] at hw
  refine G_callv (k := 101) (.mk rfl rfl rfl rfl) rfl rfl (.none rfl) hw ?_
  refine G_val (V_assign rfl rfl) rfl rfl (.none rfl) ?_
  refine G_end ?_
  refine X_then ?_
  refine G_ret ?_
  refine G_leave 0 (by exact (.cons (.tmp rfl) (.nil))) rfl ?_ ?_
  · exact hE
  · exact ⟨rfl, rfl⟩


theorem Bytes2_call (E : Env) (L : List Res) (m : Nat) (hm : m < 18446744073709551616) : CallV Try.prog 74 #[.int .u64 m] E L (.string (S (vbytes m))) := by
  refine CallS.toV (CallS.intro (l := [.int .u64 m]) 22 Try.func74 rfl Try.ntmps74 rfl ?_)
  refine G_seq ?_
  refine G_region ?_
  refine G_val (V_assign rfl rfl) rfl rfl (.none rfl) ?_
  refine G_end ?_
  refine X_then ?_
  refine G_seq ?_
  refine G_region ?_
  refine G_val (V_assign rfl rfl) rfl rfl (.none rfl) ?_
  refine G_end ?_
  refine X_then ?_
  refine G_seq ?_
  refine G_block ?_
  refine G_loop (α := List UInt8 × Nat × Nat) (fun x => [(0, .int .u64 x.2.2), (3, .string (S x.1))]) (fun _ => E) (fun _ => L)
    (fun x => vbytes m = x.1 ++ vdig (x.2.1 + 1) x.2.2 ∧ x.2.2 < 128 ^ (x.2.1 + 1) ∧ x.2.2 < 18446744073709551616) (fun x => x.2.1) ([], 9, m)
    ⟨rfl, by simp; omega, hm⟩ ⟨rfl, rfl, trivial⟩ rfl rfl ?_
  rintro ⟨pre, k, i⟩ ⟨hv, hk, hi⟩
  simp only at hv hk hi ⊢
  have hl : pre.length ≤ 10 := by
    have := vdig_len 10 m
    have h2 : (vbytes m).length = pre.length + (vdig (k + 1) i).length := by rw [hv, List.length_append]
    simp only [vbytes] at h2
    omega
  by_cases hb : 128 ≤ i
  · refine G_seq ?_
    refine G_seq ?_
    refine G_region ?_
    refine G_val (V_move rfl rfl) rfl rfl (.none rfl) ?_
    refine G_val (V_geq rfl rfl rfl) rfl rfl (.none rfl) ?_
    refine G_end ?_
    refine X_then ?_
    refine G_cond_t rfl (decide_eq_true (by omega)) ?_
    refine G_skip ?_
    refine X_then ?_
    refine G_block ?_
    refine G_seq ?_
    refine G_region ?_
    refine G_val (V_move rfl rfl) rfl rfl (.none rfl) ?_
    refine G_val (V_move rfl rfl) rfl rfl (.none rfl) ?_
    refine G_val (V_rem_n rfl rfl rfl (by omega) (by omega)) rfl rfl (.none rfl) ?_
    refine G_val (V_add_u64 rfl rfl rfl (by omega) (by omega)) rfl rfl (.none rfl) ?_
    refine G_val (V_conv_u8 rfl rfl (by omega) (by omega)) rfl rfl (.none rfl) ?_
    (refine G_lit1 rfl rfl rfl rfl rfl (.none rfl) ?_; intro b11)
    have e : (128 + (i : Int) % 128) = (((i % 128 + 128).toUInt8.toNat : Nat) : Int) := by rw [toNat_u8 (by omega)]; omega
    rw [e]
    refine G_val (V_b2s (l := [_]) rfl rfl (Rd.lit (.head _) rfl)) rfl rfl (.none rfl) ?_
    refine G_val (V_cat rfl rfl rfl (by simp; omega)) rfl rfl (.none rfl) ?_
    refine G_val (V_assign rfl rfl) rfl rfl (.none rfl) ?_
    refine G_end ?_
    refine X_then ?_
    refine G_region ?_
    refine G_val (V_move rfl rfl) rfl rfl (.none rfl) ?_
    refine G_val (V_quo_n rfl rfl rfl (by omega) (by omega) (by simp [IntKind.max, IntKind.signed, IntKind.bits]; omega)) rfl rfl (.none rfl) ?_
    refine G_val (V_assign rfl rfl) rfl rfl (.none rfl) ?_
    refine G_end ?_
    refine X_block ?_
    refine X_then ?_
    have hk1 : 1 ≤ k := by
      cases k with
      | zero => simp at hk; omega
      | succ k => omega
    refine G.rm (.head _ _) (G_again (pre ++ [(i % 128 + 128).toUInt8], k - 1, i / 128) ⟨?_, ?_, by simp only; omega⟩ (by simp only; omega) ⟨rfl, rfl, trivial⟩ rfl rfl)
    · simp only [hv, vdig_big (by omega : 128 ≤ i), show k - 1 + 1 = k by omega, List.append_assoc, List.singleton_append]
    · simp only [show k - 1 + 1 = k by omega]
      rw [Nat.pow_succ] at hk
      exact Nat.div_lt_of_lt_mul (by omega)
  · refine G_seq ?_
    refine G_seq ?_
    refine G_region ?_
    refine G_val (V_move rfl rfl) rfl rfl (.none rfl) ?_
    refine G_val (V_geq rfl rfl rfl) rfl rfl (.none rfl) ?_
    refine G_end ?_
    refine X_then ?_
    refine G_cond_f rfl (decide_eq_false (by omega)) ?_
    refine G_exit ?_
    refine X_then_exit ?_
    refine X_then_exit ?_
    refine X_block_hit ?_
    refine X_then ?_
    refine G_seq ?_
    refine G_region ?_
    refine G_val (V_move rfl rfl) rfl rfl (.none rfl) ?_
    refine G_val (V_move rfl rfl) rfl rfl (.none rfl) ?_
    refine G_val (V_conv_u8 rfl rfl (by omega) (by omega)) rfl rfl (.none rfl) ?_
    (refine G_lit1 rfl rfl rfl rfl rfl (.none rfl) ?_; intro b19)
    have e : (i : Int) = ((i.toUInt8.toNat : Nat) : Int) := by rw [toNat_u8 (by omega)]
    rw [e]
    refine G_val (V_b2s (l := [_]) rfl rfl (Rd.lit (.head _) rfl)) rfl rfl (.none rfl) ?_
    refine G_val (V_cat rfl rfl rfl (by simp; omega)) rfl rfl (.none rfl) ?_
    refine G_val (V_assign rfl rfl) rfl rfl (.none rfl) ?_
    refine G_end ?_
    refine X_then ?_
    refine G_ret ?_
    refine G_leave 1 (by exact (.cons (.tmp rfl) (.nil))) rfl ?_ ?_
    · exact .refl _
    · exact ⟨by rw [hv, vdig_small (by omega)]; rfl, rfl⟩



end Go.Proofs.Ytlkfbokdbfnicaa
