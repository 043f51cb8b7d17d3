import Derived.Test.YtmkgdljgiajoiaaSep8
import Derived.Test.YtmkgdljgiajoiaaInst
import Derived.Test.YtmkgdljgiajoiaaV12
set_option linter.unusedSimpArgs false
set_option linter.unusedVariables false
namespace Go.Proofs.Ytmkgdljgiajoiaa
open Go.RowKit

theorem vreadK_back (s post : List UInt8) (a : Nat) : ∀ k i m acc : Nat, k + i = 10 → m * 128 ^ i < 18446744073709551616 → (0 < i → 0 < m) → s.drop (a + i) = vdig k m ++ post →
    vreadK s a k i acc = (acc + m * 128 ^ i, a + i + (vdig k m).length, 0, 0) := by
  intro k
  induction k with
  | zero =>
    intro i m acc hk hm hp _
    exfalso
    obtain rfl : i = 10 := by omega
    have h1 := hp (by omega)
    have e : 128 ^ 10 = 1180591620717411303424 := by decide
    rw [e] at hm
    omega
  | succ k ih =>
    intro i m acc hk hm hp hd
    have e9 : 128 ^ 9 = 9223372036854775808 := by decide
    by_cases hb : m < 128
    · rw [vdig_small hb] at hd ⊢
      have hg : s[a + i]? = some m.toUInt8 := by
        have h0 := congrArg (fun l => l[0]?) hd
        simpa using h0
      rw [vreadK_some hg, toNat_u8 (by omega)]
      have h9 : ¬ ((0 < i ∧ m = 0) ∨ (i = 9 ∧ 1 < m)) := by
        rintro (⟨h1, h2⟩ | ⟨h1, h2⟩)
        · have := hp h1; omega
        · subst h1; rw [e9] at hm; omega
      rw [if_neg h9, if_pos hb, Nat.mod_eq_of_lt hb]
      rfl
    · rw [vdig_big (by omega)] at hd ⊢
      have hg : s[a + i]? = some (m % 128 + 128).toUInt8 := by
        have h0 := congrArg (fun l => l[0]?) hd
        simpa using h0
      rw [vreadK_some hg, toNat_u8 (by omega)]
      have h9 : ¬ ((0 < i ∧ m % 128 + 128 = 0) ∨ (i = 9 ∧ 1 < m % 128 + 128)) := by
        rintro (⟨h1, h2⟩ | ⟨h1, h2⟩)
        · omega
        · subst h1; rw [e9] at hm; omega
      rw [if_neg h9, if_neg (by omega)]
      have hd' : s.drop (a + (i + 1)) = vdig k (m / 128) ++ post := by
        have h1 : s.drop (a + (i + 1)) = (s.drop (a + i)).drop 1 := by rw [List.drop_drop]; rfl
        rw [h1, hd]; rfl
      have e1 : m / 128 * 128 ^ (i + 1) + m % 128 * 128 ^ i = m * 128 ^ i := by
        have h1 : m / 128 * 128 + m % 128 = m := by omega
        have h2 := congrArg (fun x => x * 128 ^ i) h1
        simp only [Nat.add_mul] at h2
        rw [Nat.pow_succ, Nat.mul_comm (128 ^ i) 128, ← Nat.mul_assoc]
        exact h2
      have hx : (m % 128 + 128) % 128 = m % 128 := by omega
      rw [hx, ih (i + 1) (m / 128) _ (by omega) (by omega) (fun _ => by omega) hd']
      refine Prod.ext ?_ (Prod.ext ?_ rfl)
      · show acc + m % 128 * 128 ^ i + m / 128 * 128 ^ (i + 1) = acc + m * 128 ^ i
        omega
      · show a + (i + 1) + (vdig k (m / 128)).length = a + i + ((vdig k (m / 128)).length + 1)
        omega

theorem vread_back (pre post : List UInt8) (n : Nat) (hn : n < 18446744073709551616) : vread (pre ++ (vbytes n ++ post)) (pre.length : Int) = (n, pre.length + (vbytes n).length, 0, 0) := by
  have h := vreadK_back (pre ++ (vbytes n ++ post)) post pre.length 10 0 n 0 rfl (by simpa using hn) (by omega) (by simp [vbytes])
  rw [vread, if_neg (by simp only [List.length_append]; omega), Int.toNat_natCast, h]
  simp [vbytes]

theorem vrlK_back (ns : List Nat) : ∀ (pre : List UInt8) (out : List Nat) (s : List UInt8), s = pre ++ ns.flatMap vbytes → (∀ n, n ∈ ns → n < 18446744073709551616) → vrlK s ns.length pre.length out = (out ++ ns, 0, 0) := by
  induction ns with
  | nil =>
    intro pre out s hs _
    subst hs
    simp [vrlK]
  | cons n ns ih =>
    intro pre out s hs hn
    have hr : vread s (pre.length : Int) = (n, pre.length + (vbytes n).length, 0, 0) := by
      rw [hs, List.flatMap_cons]; exact vread_back pre _ n (hn n (List.mem_cons_self ..))
    simp only [List.length_cons, vrlK]
    rw [hr, if_pos rfl]
    have h := ih (pre ++ vbytes n) (out ++ [n]) s (by rw [hs, List.flatMap_cons, List.append_assoc]) (fun k hk => hn k (List.mem_cons_of_mem _ hk))
    rw [List.length_append] at h
    simp only
    rw [h, List.append_assoc]
    rfl
theorem vrl_back (ns : List Nat) (hl : ns.length ≤ 20000) (hn : ∀ n, n ∈ ns → n < 18446744073709551616) : vrl (ns.flatMap vbytes) ns.length = (ns, 0, 0) := by
  rw [vrl, if_neg (by omega), Int.toNat_natCast]
  exact vrlK_back ns [] [] _ rfl hn

set_option maxHeartbeats 1000000 in
theorem Many_call (E : Env) (L : List Res) (p q : Option Addr) (c d : Nat) (xs ys : List Nat) (hp : SlE E 1 p xs.length (u64s xs)) (hq : SlE E 1 q ys.length (u64s ys)) (has : ∀ n, n ∈ xs → n < 18446744073709551616) (hbs : ∀ n, n ∈ ys → n < 18446744073709551616)
    (hla : xs.length ≤ 9223372036854775807) (hlb : ys.length ≤ 9223372036854775807) :
    CallS Try.prog 8 #[.slice p xs.length c, .slice q ys.length d] E L (fun r _ L' => r = .bool true ∧ L' = L) := by
  refine CallS.intro (l := [.slice p xs.length c, .slice q ys.length d]) _ Try.func8 rfl Try.ntmps8 rfl ?_
  refine G_seq ?_
  refine G_region ?_
  refine G_val (V_assign rfl rfl) rfl rfl (.none rfl) ?_
  refine G_end ?_
  refine X_then ?_
  refine G_seq ?_
  refine G_region ?_
  refine G_call (k := 6) (.mk rfl rfl rfl rfl) rfl rfl (.none rfl) (Known_call _ _) ?_
  rintro r E0 L' hE0 ⟨rfl, rfl⟩
  replace hp := hp.mono hE0
  replace hq := hq.mono hE0
  by_cases h1 : 20 < xs.length
  · refine G_val (V_assign rfl rfl) rfl rfl (.none rfl) ?_
    refine G_end ?_
    refine X_then ?_
    refine G_seq ?_
    refine G_seq ?_
    refine G_region ?_
    refine G_val (V_move rfl rfl) rfl rfl (.none rfl) ?_
    refine G_val (V_lenS rfl rfl) rfl rfl (.none rfl) ?_
    refine G_val (V_gtr rfl rfl rfl) rfl rfl (.none rfl) ?_
    refine G_val (V_move rfl rfl) rfl rfl (.none rfl) ?_
    refine G.bool_t 15 rfl (decide_eq_true (by omega)) ?_
    refine G_stay (.no rfl rfl rfl rfl) rfl rfl ?_
    refine G_stay (.no rfl rfl rfl rfl) rfl rfl ?_
    refine G_stay (.no rfl rfl rfl rfl) rfl rfl ?_
    refine G_val (V_pick_t rfl rfl rfl) rfl rfl (.none rfl) ?_
    refine G_end ?_
    refine X_then ?_
    refine G_cond_t rfl rfl ?_
    refine G_seq ?_
    refine G_region ?_
    refine G_val (V_move rfl rfl) rfl rfl (.none rfl) ?_
    refine G_val (V_assign rfl rfl) rfl rfl (.none rfl) ?_
    refine G_end ?_
    refine X_then ?_
    refine G_ret ?_
    refine X_then_ret ?_
    refine G_leave 0 (by exact (.cons (.tmp rfl) (.nil))) rfl ?_ ?_
    · exact hE0
    · exact ⟨rfl, rfl⟩
  by_cases h2 : 20 < ys.length
  · refine G_val (V_assign rfl rfl) rfl rfl (.none rfl) ?_
    refine G_end ?_
    refine X_then ?_
    refine G_seq ?_
    refine G_seq ?_
    refine G_region ?_
    refine G_val (V_move rfl rfl) rfl rfl (.none rfl) ?_
    refine G_val (V_lenS rfl rfl) rfl rfl (.none rfl) ?_
    refine G_val (V_gtr rfl rfl rfl) rfl rfl (.none rfl) ?_
    refine G_val (V_move rfl rfl) rfl rfl (.none rfl) ?_
    refine G.bool_f 15 rfl (decide_eq_false (by omega)) ?_
    refine G_val (V_move rfl rfl) rfl rfl (.yes rfl rfl rfl rfl) ?_
    refine G_val (V_lenS rfl rfl) rfl rfl (.yes rfl rfl rfl rfl) ?_
    refine G_val (V_gtr rfl rfl rfl) rfl rfl (.yes rfl rfl rfl rfl) ?_
    refine G_val (V_pick_f rfl rfl rfl) rfl rfl (.none rfl) ?_
    refine G_end ?_
    refine X_then ?_
    refine G_cond_t rfl (decide_eq_true (by omega)) ?_
    refine G_seq ?_
    refine G_region ?_
    refine G_val (V_move rfl rfl) rfl rfl (.none rfl) ?_
    refine G_val (V_assign rfl rfl) rfl rfl (.none rfl) ?_
    refine G_end ?_
    refine X_then ?_
    refine G_ret ?_
    refine X_then_ret ?_
    refine G_leave 0 (by exact (.cons (.tmp rfl) (.nil))) rfl ?_ ?_
    · exact hE0
    · exact ⟨rfl, rfl⟩
  refine G_val (V_assign rfl rfl) rfl rfl (.none rfl) ?_
  refine G_end ?_
  refine X_then ?_
  refine G_seq ?_
  refine G_seq ?_
  refine G_region ?_
  refine G_val (V_move rfl rfl) rfl rfl (.none rfl) ?_
  refine G_val (V_lenS rfl rfl) rfl rfl (.none rfl) ?_
  refine G_val (V_gtr rfl rfl rfl) rfl rfl (.none rfl) ?_
  refine G_val (V_move rfl rfl) rfl rfl (.none rfl) ?_
  refine G.bool_f 15 rfl (decide_eq_false (by omega)) ?_
  refine G_val (V_move rfl rfl) rfl rfl (.yes rfl rfl rfl rfl) ?_
  refine G_val (V_lenS rfl rfl) rfl rfl (.yes rfl rfl rfl rfl) ?_
  refine G_val (V_gtr rfl rfl rfl) rfl rfl (.yes rfl rfl rfl rfl) ?_
  refine G_val (V_pick_f rfl rfl rfl) rfl rfl (.none rfl) ?_
  refine G_end ?_
  refine X_then ?_
  refine G_cond_f rfl (decide_eq_false (by omega)) ?_
  refine G_skip ?_
  refine X_then ?_
  refine G_seq ?_
  refine G_region ?_
  refine G_lit0 rfl rfl rfl (.none rfl) ?_
  intro b0
  refine G_val (V_move rfl rfl) rfl rfl (.none rfl) ?_
  refine G_append rfl rfl rfl (SlE.rd hp) (u64s_one xs) (by omega) (by omega) rfl rfl (.none rfl) (fun _ _ => .head _ _ _) ?_
  intro x1 y1
  refine G_val (V_move rfl rfl) rfl rfl (.none rfl) ?_
  refine G_append rfl rfl rfl (SlE.rd hq) (u64s_one ys) (by omega) (by omega) rfl rfl (.none rfl) (fun _ _ => .head _ _ _) ?_
  intro x2 y2
  refine G.freeze (.head _ _) ?_
  intro E1 hE1 hok
  have hal0 := SlE.sl hok
  clear hok
  obtain ⟨all, hall⟩ : ∃ all, all = xs ++ ys := ⟨_, rfl⟩
  have hu : [] ++ u64s xs ++ u64s ys = u64s all := by rw [hall]; simp [u64s]
  have hlen : 0 + xs.length + ys.length = all.length := by rw [hall]; simp
  rw [hu, hlen] at hal0
  rw [hlen]
  have hl : all.length ≤ 40 := by omega
  have hab : ∀ n, n ∈ all → n < 18446744073709551616 := by
    intro n hn
    rw [hall] at hn
    rcases List.mem_append.1 hn with h | h
    · exact has n h
    · exact hbs n h
  replace hp := hp.mono hE1
  replace hq := hq.mono hE1
  have hfa := flatMap_len xs xs.length
  have hfb := flatMap_len ys ys.length
  have hfl := flatMap_len all all.length
  rw [List.take_length] at hfa hfb hfl
  refine G_val (V_assign rfl rfl) rfl rfl (.none rfl) ?_
  refine G_end ?_
  refine X_then ?_
  refine G_seq ?_
  refine G_region ?_
  refine G_val (V_move rfl rfl) rfl rfl (.none rfl) ?_
  refine G_callv (k := 27) (.mk rfl rfl rfl rfl) rfl rfl (.none rfl) (List_call _ _ p c xs hp has (by omega)) ?_
  refine G_val (V_move rfl rfl) rfl rfl (.none rfl) ?_
  refine G_callv (k := 27) (.mk rfl rfl rfl rfl) rfl rfl (.none rfl) (List_call _ _ q d ys hq hbs (by omega)) ?_
  skip
  refine G_val (V_cat rfl rfl rfl (by first | omega | (simp only [List.length_append]; omega))) rfl rfl (.none rfl) ?_
  rw [← List.flatMap_append, ← hall]
  refine G_val (V_assign rfl rfl) rfl rfl (.none rfl) ?_
  refine G_end ?_
  refine X_then ?_
  refine G_seq ?_
  refine G_region ?_
  refine G_val (V_move rfl rfl) rfl rfl (.none rfl) ?_
  refine G_val (V_move rfl rfl) rfl rfl (.none rfl) ?_
  refine G_val (V_lenS rfl rfl) rfl rfl (.none rfl) ?_
  refine G_call (k := 25) (.mk rfl rfl rfl rfl) rfl rfl (.none rfl) (Rl_call _ _ (all.flatMap vbytes) (by omega) all.length all 0 0 (vrl_back all (by omega) hab) all.length rfl) ?_
  rintro r E2 L'' hE2 ⟨a, ca, rfl, hsa, rfl⟩
  replace hal0 := hal0.mono hE2
  refine G_val (V_move rfl rfl) rfl rfl (.none rfl) ?_
  refine G_val (V_extract rfl rfl rfl) rfl rfl (.none rfl) ?_
  refine G_val (V_extract rfl rfl rfl) rfl rfl (.none rfl) ?_
  (refine G_alloc rfl rfl rfl (.none rfl) ?_; intro b9)
  refine G_val (V_assign rfl rfl) rfl rfl (.none rfl) ?_
  refine G_storeA rfl rfl rfl rfl (by simp [Value.oneCell']) rfl (.none rfl) (.head _ _ _) rfl ?_
  refine G_end ?_
  refine X_then ?_
  refine G_seq ?_
  refine G_seq ?_
  refine G_region ?_
  refine G_val (V_move rfl rfl) rfl rfl (.none rfl) ?_
  refine G_val (V_move rfl rfl) rfl rfl (.none rfl) ?_
  refine G_callv (k := 27) (.mk rfl rfl rfl rfl) rfl rfl (.none rfl) (List_call _ _ x2 y2 all hal0 hab (by omega)) ?_
  refine G_val (V_sneq rfl rfl rfl) rfl rfl (.none rfl) ?_
  refine G_val (V_move rfl rfl) rfl rfl (.none rfl) ?_
  refine G.bool_f 42 rfl (by simp [*]; done) ?_
  refine G_val (V_loadA rfl rfl (Cells.own (.head _)) rfl) rfl rfl (.yes rfl rfl rfl rfl) ?_
  refine G_val (V_build rfl rfl (by simp [fillV, setLs, setL, Value.cells]; rfl)) rfl rfl (.yes rfl rfl rfl rfl) ?_
  refine G_val (V_aneq_31 rfl rfl rfl) rfl rfl (.yes rfl rfl rfl rfl) ?_
  refine G_val (V_pick_f rfl rfl rfl) rfl rfl (.none rfl) ?_
  refine G_val (V_move rfl rfl) rfl rfl (.none rfl) ?_
  refine G_val (V_move rfl rfl) rfl rfl (.yes rfl rfl rfl rfl) ?_
  refine G_val (V_lenS rfl rfl) rfl rfl (.yes rfl rfl rfl rfl) ?_
  refine G_val (V_move rfl rfl) rfl rfl (.yes rfl rfl rfl rfl) ?_
  refine G_val (V_lenS rfl rfl) rfl rfl (.yes rfl rfl rfl rfl) ?_
  refine G_val (V_neq rfl rfl rfl) rfl rfl (.yes rfl rfl rfl rfl) ?_
  refine G_val (V_pick_f rfl rfl rfl) rfl rfl (.none rfl) ?_
  refine G_end ?_
  refine X_then ?_
  refine G_cond_f rfl (decide_eq_false (by omega)) ?_
  refine G_skip ?_
  refine X_then ?_
  refine G_seq ?_
  refine G_seq ?_
  refine G_region ?_
  refine G_val (V_assign rfl rfl) rfl rfl (.none rfl) ?_
  refine G_end ?_
  refine X_then ?_
  refine G_block ?_
  refine G_loop (α := Nat) (fun k => [(5, .bool true), (6, .slice x2 all.length y2), (8, .slice a all.length ca), (10, .int .i64 k)]) (fun _ => E2)
    (fun _ => .blk b9 (.cells #[.int .i64 0, .int .i64 0] 31 (0, 0)) :: L'') (fun k => k ≤ all.length) (fun k => all.length - k) 0 (Nat.zero_le _) ⟨rfl, rfl, rfl, rfl, trivial⟩ rfl rfl ?_
  intro k hk
  by_cases hlt : k < all.length
  · have hx := u64s_get (List.getElem?_eq_getElem hlt)
    refine G_seq ?_
    refine G_seq ?_
    refine G_region ?_
    refine G_val (V_move rfl rfl) rfl rfl (.none rfl) ?_
    refine G_val (V_move rfl rfl) rfl rfl (.none rfl) ?_
    refine G_val (V_lenS rfl rfl) rfl rfl (.none rfl) ?_
    refine G_val (V_lss rfl rfl rfl) rfl rfl (.none rfl) ?_
    refine G_end ?_
    refine X_then ?_
    refine G_cond_t rfl (decide_eq_true (by omega)) ?_
    refine G_skip ?_
    refine X_then ?_
    refine G_seq ?_
    refine G_block ?_
    refine G_seq ?_
    refine G_draw mixed (by kernel_rfl) ?_
    refine Q_val (V_move rfl rfl) rfl rfl (.none rfl) ?_
    refine Q_val (V_move rfl rfl) rfl rfl (.none rfl) ?_
    refine Q_val (V_idxAddr rfl rfl rfl (SlE.rd (by assumption)) (by omega) (by omega)) rfl rfl (.none rfl) ?_
    refine Q_val (V_loadS rfl rfl (SlE.rd (by assumption)) (by assumption) (by simp)) rfl rfl (.none rfl) ?_
    refine Q_val (V_move rfl rfl) rfl rfl (.none rfl) ?_
    refine Q_val (V_move rfl rfl) rfl rfl (.none rfl) ?_
    refine Q_val (V_idxAddr rfl rfl rfl (SlE.rd (by assumption)) (by omega) (by omega)) rfl rfl (.none rfl) ?_
    refine Q_val (V_loadS rfl rfl (SlE.rd (by assumption)) (by assumption) (by simp)) rfl rfl (.none rfl) ?_
    refine Q_val (V_neq rfl rfl rfl) rfl rfl (.none rfl) ?_
    refine Q_end ?_
    refine X_then ?_
    refine G_cond_f rfl (decide_eq_false (by omega)) ?_
    refine G_skip ?_
    refine X_block ?_
    refine X_then ?_
    refine G_region ?_
    refine G_val (V_move rfl rfl) rfl rfl (.none rfl) ?_
    refine G_val (V_add_i64 rfl rfl rfl (by omega) (by omega)) rfl rfl (.none rfl) ?_
    refine G_val (V_assign rfl rfl) rfl rfl (.none rfl) ?_
    refine G_end ?_
    refine X_then ?_
    exact G_again (k + 1) (by omega) (by omega) ⟨rfl, rfl, rfl, rfl, trivial⟩ rfl rfl
  · refine G_seq ?_
    refine G_seq ?_
    refine G_region ?_
    refine G_val (V_move rfl rfl) rfl rfl (.none rfl) ?_
    refine G_val (V_move rfl rfl) rfl rfl (.none rfl) ?_
    refine G_val (V_lenS rfl rfl) rfl rfl (.none rfl) ?_
    refine G_val (V_lss rfl rfl rfl) rfl rfl (.none rfl) ?_
    refine G_end ?_
    refine X_then ?_
    refine G_cond_f rfl (decide_eq_false (by omega)) ?_
    refine G_exit ?_
    refine X_then_exit ?_
    refine X_then_exit ?_
    refine X_block_hit ?_
    refine X_then ?_
    refine G_seq ?_
    refine G_region ?_
    refine G_val (V_move rfl rfl) rfl rfl (.none rfl) ?_
    refine G_val (V_assign rfl rfl) rfl rfl (.none rfl) ?_
    refine G_end ?_
    refine X_then ?_
    refine G_ret ?_
    refine G_leave 1 (by exact (.cons (.tmp rfl) (.nil))) rfl ?_ ?_
    · exact hE0.trans (hE1.trans hE2)
    · exact ⟨rfl, rfl⟩
end Go.Proofs.Ytmkgdljgiajoiaa
