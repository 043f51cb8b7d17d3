import Derived.Test.YtlkfbokdbfnicaaSep17
import Derived.Test.YtlkfbokdbfnicaaInst
import Derived.Test.YtlkfbokdbfnicaaC8
import Derived.Test.YtlkfbokdbfnicaaV1
import Derived.Test.YtlkfbokdbfnicaaV6
import Derived.Test.YtlkfbokdbfnicaaC5
set_option linter.unusedSimpArgs false
set_option linter.unusedVariables false
set_option maxHeartbeats 2000000
set_option maxRecDepth 20000
namespace Go.Proofs.Ytlkfbokdbfnicaa
open Go.RowKit

theorem Make_call (E : Env) (L : List Res) (m : Int) : CallV Try.prog 20 #[.int .i64 m] E L (wstart ⟨[], m, 0⟩).v := by
  refine CallS.toV (CallS.intro (l := [.int .i64 m]) _ Try.func20 rfl Try.ntmps20 rfl ?_)
  refine G_seq ?_
  refine G_region ?_
  (refine G_alloc rfl rfl rfl (.none rfl) ?_; intro b2)
  refine G_end ?_
  refine X_then ?_
  refine G_seq ?_
  refine G_region ?_
  refine G_val (V_move rfl rfl) rfl rfl (.none rfl) ?_
  refine G_val (V_build rfl rfl (by simp [fillV, setLs, setL, Value.cells]; rfl)) rfl rfl (.none rfl) ?_
  refine G_call (k := 70) (.mk rfl rfl rfl rfl) rfl rfl (.none rfl) (start_call _ _ _ (by first | assumption | omega | (simp; omega) | (simp; done)) _ _) ?_
  rintro r1 E2 L3 hE4 ⟨z5, ⟨rfl, ⟨rfl, rfl⟩⟩⟩
  refine G_val (V_nilCheck rfl rfl) rfl rfl (.none rfl) ?_
  refine G_val (V_fieldAddr rfl rfl (by decide)) rfl rfl (.none rfl) ?_
  refine G_val (V_loadA rfl rfl (Cells.own (.head _)) rfl) rfl rfl (.none rfl) ?_
  refine G_storeA rfl rfl rfl rfl (by simp [Value.oneCell']) rfl (.none rfl) (.tail _ (.head _ _ _)) rfl ?_
  refine G_end ?_
  refine X_then ?_
  refine G_ret ?_
  refine G_leaveS (.drop _ (.drop _ (.nil _))) (by exact (.cons (.cellA rfl (Cells.own (.tail _ (.head _))) rfl) (.nil))) rfl ?_ ?_
  · exact (.refl _)
  exact ⟨rfl, rfl⟩
theorem Done_call (E : Env) (L : List Res) (s : List UInt8) (hs : s.length ≤ 1000000000000) (m e : Int) :
    CallV Try.prog 18 #[.agg #[.string (S s), .int .i64 m, .int .i64 e]] E L (.tuple #[.string (S (if (wstart ⟨s, m, e⟩).e = 0 then (wstart ⟨s, m, e⟩).s else [])), .int .i64 (wstart ⟨s, m, e⟩).e]) := by
  refine CallS.toV (CallS.intro (l := [.agg #[.string (S s), .int .i64 m, .int .i64 e]]) _ Try.func18 rfl Try.ntmps18 rfl ?_)
  refine G_seq ?_
  refine G_region ?_
  (refine G_boxA rfl rfl rfl rfl (.none rfl) ?_; intro b1)
  refine G_val (V_assign rfl rfl) rfl rfl (.none rfl) ?_
  refine G_val (V_assign rfl rfl) rfl rfl (.none rfl) ?_
  refine G_end ?_
  refine X_then ?_
  refine G_seq ?_
  refine G_region ?_
  refine G_val (V_loadA rfl rfl (Cells.own (.head _)) rfl) rfl rfl (.none rfl) ?_
  refine G_call (k := 70) (.mk rfl rfl rfl rfl) rfl rfl (.none rfl) (start_call _ _ _ (by first | assumption | omega | (simp; omega) | (simp; done)) _ _) ?_
  rintro r1 E2 L3 hE4 ⟨z5, ⟨rfl, ⟨rfl, rfl⟩⟩⟩
  refine G_val (V_assign rfl rfl) rfl rfl (.none rfl) ?_
  refine G_end ?_
  refine X_then ?_
  refine G_seq ?_
  refine G_seq ?_
  refine G_region ?_
  refine G_val (V_move rfl rfl) rfl rfl (.none rfl) ?_
  refine G_val (V_nilCheck rfl rfl) rfl rfl (.none rfl) ?_
  refine G_val (V_fieldAddr rfl rfl (by decide)) rfl rfl (.none rfl) ?_
  refine G_val (V_fieldAddr rfl rfl (by decide)) rfl rfl (.none rfl) ?_
  refine G_val (V_load rfl rfl (Cell.own (.head _) rfl)) rfl rfl (.none rfl) ?_
  refine G_val (V_neq rfl rfl rfl) rfl rfl (.none rfl) ?_
  refine G_end ?_
  refine X_then ?_
  refine G_cond rfl (fun H6 => ?_) (fun H6 => ?_)
  · simp only [Bool.and_eq_true, Bool.or_eq_true, Bool.not_eq_true', Bool.not_eq_false', Bool.and_eq_false_iff, Bool.or_eq_false_iff, Bool.not_not, decide_eq_true_eq, decide_eq_false_iff_not, ne_eq, Decidable.not_not, Bool.decide_eq_true] at H6
    refine G_seq ?_
    refine G_draw mixed (by kernel_rfl) ?_
    refine Q_val (V_move rfl rfl) rfl rfl (.none rfl) ?_
    refine Q_val (V_nilCheck rfl rfl) rfl rfl (.none rfl) ?_
    refine Q_val (V_fieldAddr rfl rfl (by decide)) rfl rfl (.none rfl) ?_
    refine Q_val (V_fieldAddr rfl rfl (by decide)) rfl rfl (.none rfl) ?_
    refine Q_val (V_load rfl rfl (Cell.own (.head _) rfl)) rfl rfl (.none rfl) ?_
    refine Q_val (V_assign rfl rfl) rfl rfl (.none rfl) ?_
    refine Q_val (V_assign rfl rfl) rfl rfl (.none rfl) ?_
    refine Q_end ?_
    refine X_then ?_
    refine G_ret ?_
    refine X_then_ret ?_
    refine G_leaveS (.drop _ (.drop _ (.nil _))) (by exact (.cons (.tmp rfl) (.cons (.tmp rfl) (.nil)))) rfl ?_ ?_
    · exact (.refl _)
    exact ⟨(by first | rfl | (simp (discharger := omega) only [resVal, if_pos, if_neg]; first | done | rfl) | (simp [resVal, *]; done) | ((try simp only [resVal]); (repeat' split) <;> first | rfl | (exfalso; omega) | (simp_all; done) | (simp_all; omega))), (by first | rfl | (simp (discharger := omega) only [resVal, if_pos, if_neg]; first | done | rfl) | (simp [resVal, *]; done) | ((try simp only [resVal]); (repeat' split) <;> first | rfl | (exfalso; omega) | (simp_all; done) | (simp_all; omega)))⟩
  simp only [Bool.and_eq_true, Bool.or_eq_true, Bool.not_eq_true', Bool.not_eq_false', Bool.and_eq_false_iff, Bool.or_eq_false_iff, Bool.not_not, decide_eq_true_eq, decide_eq_false_iff_not, ne_eq, Decidable.not_not, Bool.decide_eq_true] at H6
  refine G_skip ?_
  refine X_then ?_
  refine G_seq ?_
  refine G_region ?_
  refine G_val (V_move rfl rfl) rfl rfl (.none rfl) ?_
  refine G_val (V_nilCheck rfl rfl) rfl rfl (.none rfl) ?_
  refine G_val (V_fieldAddr rfl rfl (by decide)) rfl rfl (.none rfl) ?_
  refine G_val (V_fieldAddr rfl rfl (by decide)) rfl rfl (.none rfl) ?_
  refine G_val (V_load rfl rfl (Cell.own (.head _) rfl)) rfl rfl (.none rfl) ?_
  refine G_val (V_assign rfl rfl) rfl rfl (.none rfl) ?_
  refine G_val (V_assign rfl rfl) rfl rfl (.none rfl) ?_
  refine G_end ?_
  refine X_then ?_
  refine G_ret ?_
  refine G_leaveS (.drop _ (.drop _ (.nil _))) (by exact (.cons (.tmp rfl) (.cons (.tmp rfl) (.nil)))) rfl ?_ ?_
  · exact (.refl _)
  exact ⟨(by first | rfl | (simp (discharger := omega) only [resVal, if_pos, if_neg]; first | done | rfl) | (simp [resVal, *]; done) | ((try simp only [resVal]); (repeat' split) <;> first | rfl | (exfalso; omega) | (simp_all; done) | (simp_all; omega))), (by first | rfl | (simp (discharger := omega) only [resVal, if_pos, if_neg]; first | done | rfl) | (simp [resVal, *]; done) | ((try simp only [resVal]); (repeat' split) <;> first | rfl | (exfalso; omega) | (simp_all; done) | (simp_all; omega)))⟩
theorem Add_call (E : Env) (L : List Res) (s : List UInt8) (hs : s.length ≤ 1000000000000) (m e : Int) (t : List UInt8) (ht : t.length ≤ 1000000000) :
    CallV Try.prog 28 #[.agg #[.string (S s), .int .i64 m, .int .i64 e], .string (S t)] E L (wput (wstart ⟨s, m, e⟩) [t]).v := by
  refine CallS.toV (CallS.intro (l := [.agg #[.string (S s), .int .i64 m, .int .i64 e], .string (S t)]) _ Try.func28 rfl Try.ntmps28 rfl ?_)
  have hok := wstart_ok ⟨s, m, e⟩
  refine G_seq ?_
  refine G_region ?_
  (refine G_boxA rfl rfl rfl rfl (.none rfl) ?_; intro b2)
  (refine G_alloc rfl rfl rfl (.none rfl) ?_; intro b4)
  refine G_end ?_
  refine X_then ?_
  refine G_seq ?_
  refine G_region ?_
  refine G_val (V_loadA rfl rfl (Cells.own (.tail _ (.head _))) rfl) rfl rfl (.none rfl) ?_
  refine G_call (k := 70) (.mk rfl rfl rfl rfl) rfl rfl (.none rfl) (start_call _ _ _ (by first | assumption | omega | (simp; omega) | (simp; done)) _ _) ?_
  rintro r1 E2 L3 hE4 ⟨z5, ⟨rfl, ⟨rfl, rfl⟩⟩⟩
  refine G_val (V_move rfl rfl) rfl rfl (.none rfl) ?_
  (refine G_litZ rfl rfl (by decide) (by simp [fillS, zeros, setLs, setL, Value.cells, List.range, List.range.loop]; rfl) (by rfl) rfl rfl (.none rfl) ?_; intro b8 E8 hE8 hs8)
  generalize wstart ⟨s, m, e⟩ = q at *
  refine G_call (k := 72) (.mk rfl rfl rfl rfl) rfl rfl (.none rfl) (put_call _ _ z5 q hok _ _ [t] hs8 (by simp) (by simpa using ht)) ?_
  rintro r E1 L1 hE1 ⟨rfl, rfl, rfl⟩
  refine G_storeA rfl rfl rfl rfl (by simp [Value.oneCell']) rfl (.none rfl) (.tail _ (.head _ _ _)) rfl ?_
  refine G_end ?_
  refine X_then ?_
  refine G_ret ?_
  refine G_leaveS (.drop _ (.drop _ (.drop _ (.nil _)))) (by exact (.cons (.cellA rfl (Cells.own (.tail _ (.head _))) rfl) (.nil))) rfl ?_ ?_
  · exact hE8
  exact ⟨rfl, rfl⟩
theorem Put_call (E : Env) (L : List Res) (s : List UInt8) (hs : s.length ≤ 1000000000000) (m e : Int) (n : Nat) (hn : n < 18446744073709551616) :
    CallV Try.prog 22 #[.agg #[.string (S s), .int .i64 m, .int .i64 e], .int .u64 n] E L (wput (wstart ⟨s, m, e⟩) [vbytes n]).v := by
  refine CallS.toV (CallS.intro (l := [.agg #[.string (S s), .int .i64 m, .int .i64 e], .int .u64 n]) _ Try.func22 rfl Try.ntmps22 rfl ?_)
  have hok := wstart_ok ⟨s, m, e⟩
  have hv := vdig_len 10 n
  refine G_seq ?_
  refine G_region ?_
  (refine G_boxA rfl rfl rfl rfl (.none rfl) ?_; intro b2)
  (refine G_alloc rfl rfl rfl (.none rfl) ?_; intro b4)
  refine G_end ?_
  refine X_then ?_
  refine G_seq ?_
  refine G_region ?_
  refine G_val (V_loadA rfl rfl (Cells.own (.tail _ (.head _))) rfl) rfl rfl (.none rfl) ?_
  refine G_call (k := 70) (.mk rfl rfl rfl rfl) rfl rfl (.none rfl) (start_call _ _ _ (by first | assumption | omega | (simp; omega) | (simp; done)) _ _) ?_
  rintro r1 E2 L3 hE4 ⟨z5, ⟨rfl, ⟨rfl, rfl⟩⟩⟩
  refine G_val (V_move rfl rfl) rfl rfl (.none rfl) ?_
  refine G_callv (k := 73) (.mk rfl rfl rfl rfl) rfl rfl (.none rfl) (Bytes_call _ _ _ (by first | assumption | omega | (simp; omega) | (simp; done))) ?_
  (refine G_litZ rfl rfl (by decide) (by simp [fillS, zeros, setLs, setL, Value.cells, List.range, List.range.loop]; rfl) (by rfl) rfl rfl (.none rfl) ?_; intro b9 E9 hE9 hs9)
  generalize wstart ⟨s, m, e⟩ = q at *
  refine G_call (k := 72) (.mk rfl rfl rfl rfl) rfl rfl (.none rfl) (put_call _ _ z5 q hok _ _ [vbytes n] hs9 (by simp) (by intro x hx; simp only [List.mem_singleton] at hx; subst hx; simp only [vbytes]; omega)) ?_
  rintro r E1 L1 hE1 ⟨rfl, rfl, rfl⟩
  refine G_storeA rfl rfl rfl rfl (by simp [Value.oneCell']) rfl (.none rfl) (.tail _ (.head _ _ _)) rfl ?_
  refine G_end ?_
  refine X_then ?_
  refine G_ret ?_
  refine G_leaveS (.drop _ (.drop _ (.drop _ (.nil _)))) (by exact (.cons (.cellA rfl (Cells.own (.tail _ (.head _))) rfl) (.nil))) rfl ?_ ?_
  · exact hE9
  exact ⟨rfl, rfl⟩

/-- Strings with their lengths ahead. -/
def lens (l : List (List UInt8)) : List (List UInt8) := l.flatMap fun s => [vbytes s.length, s]
theorem lens_take (l : List (List UInt8)) (k : Nat) (h : k < l.length) : lens (l.take (k + 1)) = lens (l.take k) ++ [vbytes l[k].length, l[k]] := by
  rw [List.take_succ_eq_append_getElem h, lens, List.flatMap_append]; simp [lens]
theorem lens_len (l : List (List UInt8)) : (lens l).length = 2 * l.length := by
  induction l with
  | nil => rfl
  | cons s l ih => simp only [lens, List.flatMap_cons, List.length_append, List.length_cons, List.length_nil] at *; omega
theorem lens_mem {l : List (List UInt8)} (hs : ∀ s, s ∈ l → s.length ≤ 1000000000) : ∀ s, s ∈ lens l → s.length ≤ 1000000000 := by
  intro s hm
  simp only [lens, List.mem_flatMap, List.mem_cons, List.not_mem_nil, or_false] at hm
  obtain ⟨t, ht, rfl | rfl⟩ := hm
  · have := vdig_len 10 t.length
    simp only [vbytes]; omega
  · exact hs _ ht
theorem PutString_call (E : Env) (L : List Res) (s : List UInt8) (hs : s.length ≤ 1000000000000) (m e : Int) (p : Option Addr) (c : Nat) (l : List (List UInt8)) (hl : SlE E 1 p l.length (strs l)) (hn : l.length ≤ 100000000) (hls : ∀ s, s ∈ l → s.length ≤ 1000000000) :
    CallV Try.prog 24 #[.agg #[.string (S s), .int .i64 m, .int .i64 e], .slice p l.length c] E L (wput (wstart ⟨s, m, e⟩) (lens l)).v := by
  refine CallS.toV (CallS.intro (l := [.agg #[.string (S s), .int .i64 m, .int .i64 e], .slice p l.length c]) _ Try.func24 rfl Try.ntmps24 rfl ?_)
  have hok := wstart_ok ⟨s, m, e⟩
  refine G_seq ?_
  refine G_region ?_
  (refine G_boxA rfl rfl rfl rfl (.none rfl) ?_; intro b2)
  (refine G_alloc rfl rfl rfl (.none rfl) ?_; intro b4)
  refine G_end ?_
  refine X_then ?_
  refine G_seq ?_
  refine G_region ?_
  refine G_val (V_assign rfl rfl) rfl rfl (.none rfl) ?_
  refine G_end ?_
  refine X_then ?_
  refine G_seq ?_
  refine G_seq ?_
  refine G_region ?_
  refine G_val (V_move rfl rfl) rfl rfl (.none rfl) ?_
  refine G_val (V_lenS rfl rfl) rfl rfl (.none rfl) ?_
  refine G_val (V_move rfl rfl) rfl rfl (.none rfl) ?_
  refine G_end ?_
  refine X_then ?_
  refine G_block ?_
  refine G.nilSl 9 1 ?_
  refine G_loop (α := Nat × Option Addr × Nat) (fun x => [(2, .pointer (some ⟨b2, 0, none⟩)), (4, .pointer (some ⟨b4, 0, none⟩)), (5, .slice x.2.1 (lens (l.take x.1)).length x.2.2), (8, .slice p l.length c), (9, .int .i64 l.length), (10, .int .i64 x.1)]) (fun _ => E)
    (fun x => .sl 9 1 x.2.1 (lens (l.take x.1)).length x.2.2 (strs (lens (l.take x.1))) :: .blk b4 (.cells #[.string (S []), .int .i64 0, .int .i64 0] 31 (0, 0)) :: .blk b2 (.cells #[.string (S s), .int .i64 m, .int .i64 e] 31 (0, 0)) :: L)
    (fun x => x.1 ≤ l.length) (fun x => l.length - x.1) (0, none, 0) (Nat.zero_le _) ⟨rfl, rfl, rfl, rfl, rfl, rfl, trivial⟩ rfl rfl ?_
  rintro ⟨k, p', c'⟩ hk
  simp only at hk ⊢
  have hll := lens_len (l.take k)
  rw [List.length_take] at hll
  by_cases hlt : k < l.length
  · have hx := strs_get (List.getElem?_eq_getElem hlt)
    have h9 := hls _ (List.getElem_mem hlt)
    refine G_seq ?_
    refine G_region ?_
    refine G_val (V_lss rfl rfl rfl) rfl rfl (.none rfl) ?_
    refine G_end ?_
    refine X_then ?_
    refine G_seq ?_
    refine G_cond_t rfl (decide_eq_true (by omega)) ?_
    refine G_skip ?_
    refine X_then ?_
    refine G_seq ?_
    refine G_block ?_
    refine G_seq ?_
    refine G_region ?_
    refine G_val (V_idxAddr rfl rfl rfl (SlE.rd (by assumption)) (by omega) (by omega)) rfl rfl (.none rfl) ?_
    refine G_val (V_loadS rfl rfl (SlE.rd (by assumption)) (by assumption) (by simp)) rfl rfl (.none rfl) ?_
    refine G_val (V_assign rfl rfl) rfl rfl (.none rfl) ?_
    refine G_end ?_
    refine X_then ?_
    refine G_region ?_
    refine G_val (V_move rfl rfl) rfl rfl (.none rfl) ?_
    refine G_val (V_move rfl rfl) rfl rfl (.none rfl) ?_
    refine G_val (V_len rfl rfl) rfl rfl (.none rfl) ?_
    refine G_val (V_conv_u64 rfl rfl (by omega) (by omega)) rfl rfl (.none rfl) ?_
    refine G_callv (k := 73) (.mk rfl rfl rfl rfl) rfl rfl (.none rfl) (Bytes_call _ _ _ (by first | assumption | omega | (simp; omega) | (simp; done))) ?_
    refine G_val (V_move rfl rfl) rfl rfl (.none rfl) ?_
    (refine G_lit2 rfl rfl rfl rfl rfl rfl rfl (.none rfl) ?_; intro b20)
    (refine G_append rfl rfl rfl (Rd.lit (.head _) rfl) (by simp [Value.oneCell']) (by omega) (by omega) rfl rfl (.none rfl) (fun _ _ => (.tail _ (.head _ _ _))) ?_; intro a21 c21; refine G.rm (.head _ _) ?_)
    refine G_val (V_assign rfl rfl) rfl rfl (.none rfl) ?_
    refine G_end ?_
    refine X_block ?_
    refine X_then ?_
    refine G_region ?_
    refine G_val (V_add_i64 rfl rfl rfl (by omega) (by omega)) rfl rfl (.none rfl) ?_
    refine G_val (V_move rfl rfl) rfl rfl (.none rfl) ?_
    refine G_end ?_
    refine X_then ?_
    exact G_again (k + 1, a21, c21) (by simp only; omega) (by simp only; omega) ⟨rfl, rfl, by rw [lens_take l k hlt]; simp only [List.length_append, List.length_cons, List.length_nil]; rfl, rfl, rfl, rfl, trivial⟩ rfl (by rw [lens_take l k hlt]; simp only [strs, List.map_append, List.map_cons, List.map_nil, List.length_append, List.length_cons, List.length_nil])
  · have hke : k = l.length := by omega
    subst hke
    rw [List.take_length] at hll ⊢
    refine G.freeze (.head _ _) ?_
    intro E' hE hok'
    have hal := SlE.sl hok'
    clear hok'
    refine G_seq ?_
    refine G_region ?_
    refine G_val (V_lss rfl rfl rfl) rfl rfl (.none rfl) ?_
    refine G_end ?_
    refine X_then ?_
    refine G_seq ?_
    refine G_cond_f rfl (decide_eq_false (by omega)) ?_
    refine G_exit ?_
    refine X_then_exit ?_
    refine X_then_exit ?_
    refine X_block_hit ?_
    refine X_then ?_
    refine G_seq ?_
    refine G_region ?_
    refine G_val (V_loadA rfl rfl (Cells.own (.tail _ (.head _))) rfl) rfl rfl (.none rfl) ?_
    refine G_call (k := 70) (.mk rfl rfl rfl rfl) rfl rfl (.none rfl) (start_call _ _ _ (by first | assumption | omega | (simp; omega) | (simp; done)) _ _) ?_
    rintro r1 E2 L3 hE4 ⟨z5, ⟨rfl, ⟨rfl, rfl⟩⟩⟩
    replace hal := hal.mono hE4
    refine G_val (V_move rfl rfl) rfl rfl (.none rfl) ?_
    generalize wstart ⟨s, m, e⟩ = q at *
    refine G_call (k := 72) (.mk rfl rfl rfl rfl) rfl rfl (.none rfl) (put_call _ _ z5 q hok _ _ (lens l) hal (by omega) (lens_mem hls)) ?_
    rintro r E1 L1 hE1 ⟨rfl, rfl, rfl⟩
    refine G_storeA rfl rfl rfl rfl (by simp [Value.oneCell']) rfl (.none rfl) (.tail _ (.head _ _ _)) rfl ?_
    refine G_end ?_
    refine X_then ?_
    refine G_ret ?_
    refine G_leaveS (.drop _ (.drop _ (.drop _ (.nil _)))) (by exact (.cons (.cellA rfl (Cells.own (.tail _ (.head _))) rfl) (.nil))) rfl ?_ ?_
    · exact hE
    exact ⟨rfl, rfl⟩

/-- Numbers, zigzag, their count ahead. -/
def zigs (l : List Int) : List (List UInt8) := vbytes l.length :: l.map fun n => vbytes (zig n)
theorem zig_lt {z : Int} (h0 : -9223372036854775808 ≤ z) (h1 : z ≤ 9223372036854775807) : zig z < 18446744073709551616 := by unfold zig; split <;> omega
theorem PutInts_call (E : Env) (L : List Res) (s : List UInt8) (hs : s.length ≤ 1000000000000) (m e : Int) (p : Option Addr) (c : Nat) (l : List Int) (hl : SlE E 1 p l.length (i64s l)) (hn : l.length ≤ 100000000) (hls : ∀ n, n ∈ l → -9223372036854775808 ≤ n ∧ n ≤ 9223372036854775807) :
    CallV Try.prog 26 #[.agg #[.string (S s), .int .i64 m, .int .i64 e], .slice p l.length c] E L (wput (wstart ⟨s, m, e⟩) (zigs l)).v := by
  refine CallS.toV (CallS.intro (l := [.agg #[.string (S s), .int .i64 m, .int .i64 e], .slice p l.length c]) _ Try.func26 rfl Try.ntmps26 rfl ?_)
  have hok := wstart_ok ⟨s, m, e⟩
  refine G_seq ?_
  refine G_region ?_
  (refine G_boxA rfl rfl rfl rfl (.none rfl) ?_; intro b2)
  (refine G_alloc rfl rfl rfl (.none rfl) ?_; intro b4)
  refine G_end ?_
  refine X_then ?_
  refine G_seq ?_
  refine G_region ?_
  refine G_val (V_move rfl rfl) rfl rfl (.none rfl) ?_
  refine G_val (V_lenS rfl rfl) rfl rfl (.none rfl) ?_
  refine G_val (V_conv_u64 rfl rfl (by omega) (by omega)) rfl rfl (.none rfl) ?_
  refine G_callv (k := 73) (.mk rfl rfl rfl rfl) rfl rfl (.none rfl) (Bytes_call _ _ _ (by first | assumption | omega | (simp; omega) | (simp; done))) ?_
  (refine G_lit1 rfl rfl rfl rfl rfl (.none rfl) ?_; intro b12)
  refine G_val (V_assign rfl rfl) rfl rfl (.none rfl) ?_
  refine G_end ?_
  refine X_then ?_
  refine G_seq ?_
  refine G_seq ?_
  refine G_region ?_
  refine G_val (V_move rfl rfl) rfl rfl (.none rfl) ?_
  refine G_val (V_lenS rfl rfl) rfl rfl (.none rfl) ?_
  refine G_val (V_move rfl rfl) rfl rfl (.none rfl) ?_
  refine G_end ?_
  refine X_then ?_
  refine G_block ?_
  refine G.blkSl (k := 1) (sz := 1) (l := [.string (S (vbytes l.length))]) rfl (by decide) ?_
  refine G_loop (α := Nat × Option Addr × Nat) (fun x => [(2, .pointer (some ⟨b2, 0, none⟩)), (4, .pointer (some ⟨b4, 0, none⟩)), (5, .slice x.2.1 (x.1 + 1) x.2.2), (13, .slice p l.length c), (14, .int .i64 l.length), (15, .int .i64 x.1)]) (fun _ => E)
    (fun x => .sl 9 1 x.2.1 (x.1 + 1) x.2.2 (strs (vbytes l.length :: (l.take x.1).map fun n => vbytes (zig n))) :: .blk b4 (.cells #[.string (S []), .int .i64 0, .int .i64 0] 31 (0, 0)) :: .blk b2 (.cells #[.string (S s), .int .i64 m, .int .i64 e] 31 (0, 0)) :: L)
    (fun x => x.1 ≤ l.length) (fun x => l.length - x.1) (0, some ⟨b12, 0, none⟩, 1) (Nat.zero_le _) ⟨rfl, rfl, rfl, rfl, rfl, rfl, trivial⟩ rfl rfl ?_
  rintro ⟨k, p', c'⟩ hk
  simp only at hk ⊢
  have hll : (l.take k).length = k := by rw [List.length_take]; omega
  by_cases hlt : k < l.length
  · have hx := i64s_get (List.getElem?_eq_getElem hlt)
    obtain ⟨h8, h9⟩ := hls _ (List.getElem_mem hlt)
    have h10 := zig_lt h8 h9
    refine G_seq ?_
    refine G_region ?_
    refine G_val (V_lss rfl rfl rfl) rfl rfl (.none rfl) ?_
    refine G_end ?_
    refine X_then ?_
    refine G_seq ?_
    refine G_cond_t rfl (decide_eq_true (by omega)) ?_
    refine G_skip ?_
    refine X_then ?_
    refine G_seq ?_
    refine G_block ?_
    refine G_seq ?_
    refine G_region ?_
    refine G_val (V_idxAddr rfl rfl rfl (SlE.rd (by assumption)) (by omega) (by omega)) rfl rfl (.none rfl) ?_
    refine G_val (V_loadS rfl rfl (SlE.rd (by assumption)) (by assumption) (by simp)) rfl rfl (.none rfl) ?_
    refine G_val (V_assign rfl rfl) rfl rfl (.none rfl) ?_
    refine G_end ?_
    refine X_then ?_
    refine G_region ?_
    refine G_val (V_move rfl rfl) rfl rfl (.none rfl) ?_
    refine G_val (V_move rfl rfl) rfl rfl (.none rfl) ?_
    refine G_callv (k := 75) (.mk rfl rfl rfl rfl) rfl rfl (.none rfl) (Zigzag_call _ _ _ (by first | assumption | omega | (simp; omega) | (simp; done)) (by first | assumption | omega | (simp; omega) | (simp; done))) ?_
    refine G_callv (k := 73) (.mk rfl rfl rfl rfl) rfl rfl (.none rfl) (Bytes_call _ _ _ (by first | assumption | omega | (simp; omega) | (simp; done))) ?_
    (refine G_lit1 rfl rfl rfl rfl rfl (.none rfl) ?_; intro b23)
    (refine G_append rfl rfl rfl (Rd.lit (.head _) rfl) (by simp [Value.oneCell']) (by omega) (by omega) rfl rfl (.none rfl) (fun _ _ => (.tail _ (.head _ _ _))) ?_; intro a24 c24; refine G.rm (.head _ _) ?_)
    refine G_val (V_assign rfl rfl) rfl rfl (.none rfl) ?_
    refine G_end ?_
    refine X_block ?_
    refine X_then ?_
    refine G_region ?_
    refine G_val (V_add_i64 rfl rfl rfl (by omega) (by omega)) rfl rfl (.none rfl) ?_
    refine G_val (V_move rfl rfl) rfl rfl (.none rfl) ?_
    refine G_end ?_
    refine X_then ?_
    exact G_again (k + 1, a24, c24) (by simp only; omega) (by simp only; omega) ⟨rfl, rfl, rfl, rfl, rfl, rfl, trivial⟩ rfl (by rw [List.take_succ_eq_append_getElem hlt]; simp only [strs, List.map_append, List.map_cons, List.map_nil, List.cons_append])
  · have hke : k = l.length := by omega
    subst hke
    rw [List.take_length]
    refine G.freeze (.head _ _) ?_
    intro E' hE hok'
    have hal : SlE E' 1 p' (zigs l).length (strs (zigs l)) := by
      have := SlE.sl hok'
      have e : (zigs l).length = l.length + 1 := by simp [zigs]
      rw [e]; exact this
    clear hok'
    refine G_seq ?_
    refine G_region ?_
    refine G_val (V_lss rfl rfl rfl) rfl rfl (.none rfl) ?_
    refine G_end ?_
    refine X_then ?_
    refine G_seq ?_
    refine G_cond_f rfl (decide_eq_false (by omega)) ?_
    refine G_exit ?_
    refine X_then_exit ?_
    refine X_then_exit ?_
    refine X_block_hit ?_
    refine X_then ?_
    refine G_seq ?_
    refine G_region ?_
    refine G_val (V_loadA rfl rfl (Cells.own (.tail _ (.head _))) rfl) rfl rfl (.none rfl) ?_
    refine G_call (k := 70) (.mk rfl rfl rfl rfl) rfl rfl (.none rfl) (start_call _ _ _ (by first | assumption | omega | (simp; omega) | (simp; done)) _ _) ?_
    rintro r1 E2 L3 hE4 ⟨z5, ⟨rfl, ⟨rfl, rfl⟩⟩⟩
    replace hal := hal.mono hE4
    refine G_val (V_move rfl rfl) rfl rfl (.none rfl) ?_
    generalize wstart ⟨s, m, e⟩ = q at *
    refine G_call (k := 72) (.mk rfl rfl rfl (by simp [zigs])) rfl rfl (.none rfl) (put_call _ _ z5 q hok _ c' (zigs l) hal (by simp [zigs]; omega) ?_) ?_
    · intro s hm
      simp only [zigs, List.mem_cons, List.mem_map] at hm
      rcases hm with rfl | ⟨n, _, rfl⟩
      · have := vdig_len 10 l.length; simp only [vbytes]; omega
      · have := vdig_len 10 (zig n); simp only [vbytes]; omega
    rintro r E1 L1 hE1 ⟨rfl, rfl, rfl⟩
    refine G_storeA rfl rfl rfl rfl (by simp [Value.oneCell']) rfl (.none rfl) (.tail _ (.head _ _ _)) rfl ?_
    refine G_end ?_
    refine X_then ?_
    refine G_ret ?_
    refine G_leaveS (.drop _ (.drop _ (.drop _ (.nil _)))) (by exact (.cons (.cellA rfl (Cells.own (.tail _ (.head _))) rfl) (.nil))) rfl ?_ ?_
    · exact hE
    exact ⟨rfl, rfl⟩
end Go.Proofs.Ytlkfbokdbfnicaa
