/-
  Rules and contracts, packed: W4, W5, Sep43, W19, W20, W25, W32, W24, W11.
-/
import Derived.Test.YtjhehanknkonnaaGreatDoorQ8
set_option maxHeartbeats 1000000
set_option linter.unusedSimpArgs false
set_option linter.unusedVariables false
set_option maxHeartbeats 2000000
set_option maxRecDepth 20000
namespace Go.Proofs.YtjhehanknkonnaaGreatDoor
open Go.RowKit
/-! math/bits.Len64, numDigits of numbers below 2^41. -/
/-- The number of bits, as a result. -/
structure BitsR (d : Nat) (r : Value) : Prop where
  out : ∃ n : Nat, r = .int .i64 (n : Nat) ∧ n ≤ 64 ∧ bitsP d n
theorem u8_lt {m : Nat} (h : m ≤ 8) : ((UInt8.ofNat m).toNat : Int) = (m : Nat) := by
  have : m < 256 := by omega
  simp [UInt8.toNat_ofNat, Nat.mod_eq_of_lt this]
abbrev pow10s : List Int := [1, 10, 100, 1000, 10000, 100000, 1000000, 10000000, 100000000, 1000000000, 10000000000, 100000000000, 1000000000000, 10000000000000, 100000000000000, 1000000000000000, 10000000000000000, 100000000000000000, 1000000000000000000, 10000000000000000000]
/-- The laid table of powers of ten. -/
abbrev PowE (E : Env) : Prop := SlE E 1 (some ⟨3, 0, none⟩) 20 (pow10s.map (.int .u64 ·))
theorem pow10_at {q : Nat} (h : q ≤ 12) : (pow10s.map (Value.int .u64 ·))[q]? = some (.int .u64 (10 ^ q : Nat)) := by
  have : ∀ i : Fin 13, (pow10s.map (Value.int .u64 ·))[i.val]? = some (.int .u64 ((10 ^ i.val : Nat) : Int)) := by
    intro i
    rcases i with ⟨i, hi⟩
    obtain rfl | rfl | rfl | rfl | rfl | rfl | rfl | rfl | rfl | rfl | rfl | rfl | rfl : i = 0 ∨ i = 1 ∨ i = 2 ∨ i = 3 ∨ i = 4 ∨ i = 5 ∨ i = 6 ∨ i = 7 ∨ i = 8 ∨ i = 9 ∨ i = 10 ∨ i = 11 ∨ i = 12 := by omega
    all_goals rfl
  exact this ⟨q, by omega⟩
section
variable (E : Env) (L : List Res)
theorem Len64_call' (d : Nat) (h : 1 ≤ d ∧ d < 2199023255552) : CallS Tryz.prog 156 #[.int .u64 (d : Nat)] E L (fun r E' L' => BitsR d r ∧ L' = L) := by
  refine CallS.intro (l := [_]) _ Tryz.func156 rfl Tryz.ntmps156 rfl ?_
  by_cases c1 : 4294967296 ≤ d
  · have hy : 1 ≤ d / 2 ^ 32 ∧ d / 2 ^ 32 < 512 := by omega
    have hbk := fun m (hb : bitsP (d / 2 ^ 32) m) => bitsP_shr hb
    refine G_seq (G_region ?_)
    refine Ga ?_
    refine G_end (X_then (G_seq (G_seq (G_region ?_))))
    refine Gm ?_
    refine Gv (V_geq rfl rfl rfl) ?_
    refine G_end (X_then ?_)
    refine G_cond_t rfl (decide_eq_true (by omega)) ?_
    refine G_seq (G_region ?_)
    refine Gm ?_
    refine Gv (V_shr rfl rfl rfl (by omega)) ?_
    refine Ga ?_
    refine G_end (X_then (G_region ?_))
    refine Ga ?_
    refine G_end (X_then (G_seq (G_seq (G_region ?_))))
    refine Gm ?_
    refine Gv (V_geq rfl rfl rfl) ?_
    refine G_end (X_then ?_)
    rw [show shrI .u64 (d : Int) 32 = ((d / 2 ^ 32 : Nat) : Int) from shr_nat d 32 (by omega)]
    generalize d / 2 ^ 32 = y at *
    by_cases c3 : 256 ≤ y
    · have hz : 1 ≤ y / 2 ^ 8 ∧ y / 2 ^ 8 < 256 := by omega
      have hbk2 := fun m (hb : bitsP (y / 2 ^ 8) m) => bitsP_shr hb
      refine G_cond_f rfl (decide_eq_false (by omega)) ?_
      refine G_skip (X_then (G_seq (G_seq (G_region ?_))))
      refine Gm ?_
      refine Gv (V_geq rfl rfl rfl) ?_
      refine G_end (X_then ?_)
      refine G_cond_t rfl (decide_eq_true (by omega)) ?_
      refine G_seq (G_region ?_)
      refine Gm ?_
      refine Gv (V_shr rfl rfl rfl (by omega)) ?_
      refine Ga ?_
      refine G_end (X_then (G_region ?_))
      refine Gm ?_
      refine Gv (V_add_i64 rfl rfl rfl (by omega) (by omega)) ?_
      refine Ga ?_
      refine G_end (X_then (G_seq (G_region ?_)))
      refine Gm ?_
      refine Gm ?_
      refine Gv (V_conv rfl rfl) ?_
      rw [show shrI .u64 (y : Int) 8 = ((y / 2 ^ 8 : Nat) : Int) from shr_nat y 8 (by omega)]
      generalize y / 2 ^ 8 = z at *
      obtain ⟨m, hm, hm8, hb⟩ := len8_at (d := z) (by omega)
      have hmi := u8_lt hm8
      have hf : BitsR d (.int .i64 (40 + (m : Nat))) := ⟨⟨m + 40, by rw [Int.natCast_add, Int.add_comm]; rfl, by omega, hbk _ (hbk2 m hb)⟩⟩
      clear hb
      rw [wrap_u8 (a := ((z : Nat) : Int)) (by omega) (by omega)]
      refine Gv (V_sidx (a := len8) (c := UInt8.ofNat m) rfl (by kernel_rfl) rfl (by omega) (by rw [Int.toNat_natCast]; exact hm)) ?_
      rw [hmi]
      refine Gv (V_conv_i64 rfl rfl (by omega) (by omega)) ?_
      refine Gv (V_add_i64 rfl rfl rfl (by omega) (by omega)) ?_
      refine Ga ?_
      refine G_end (X_then (G_ret ?_))
      refine G_leaveS (.nil _) (by exact (.cons (.tmp rfl) (.nil))) rfl ?_ ?_
      · exact (.refl _)
      exact ⟨(by assumption), rfl⟩
    · obtain ⟨m, hm, hm8, hb⟩ := len8_at (d := y) (by omega)
      have hmi := u8_lt hm8
      have hf : BitsR d (.int .i64 (32 + (m : Nat))) := ⟨⟨m + 32, by rw [Int.natCast_add, Int.add_comm]; rfl, by omega, hbk m hb⟩⟩
      clear hb
      refine G_cond_f rfl (decide_eq_false (by omega)) ?_
      refine G_skip (X_then (G_seq (G_seq (G_region ?_))))
      refine Gm ?_
      refine Gv (V_geq rfl rfl rfl) ?_
      refine G_end (X_then ?_)
      refine G_cond_f rfl (decide_eq_false (by omega)) ?_
      refine G_skip (X_then (G_seq (G_region ?_)))
      refine Gm ?_
      refine Gm ?_
      refine Gv (V_conv_u8 rfl rfl (by omega) (by omega)) ?_
      refine Gv (V_sidx rfl rfl rfl (by omega) (by assumption)) ?_
      refine Gv (V_conv_i64 rfl rfl (by omega) (by omega)) ?_
      refine Gv (V_add_i64 rfl rfl rfl (by omega) (by omega)) ?_
      refine Ga ?_
      refine G_end (X_then (G_ret ?_))
      rw [hmi]
      refine G_leaveS (.nil _) (by exact (.cons (.tmp rfl) (.nil))) rfl ?_ ?_
      · exact (.refl _)
      exact ⟨(by assumption), rfl⟩
  · by_cases c2 : 65536 ≤ d
    · have hy : 1 ≤ d / 2 ^ 16 ∧ d / 2 ^ 16 < 65536 := by omega
      have hbk := fun m (hb : bitsP (d / 2 ^ 16) m) => bitsP_shr hb
      refine G_seq (G_region ?_)
      refine Ga ?_
      refine G_end (X_then (G_seq (G_seq (G_region ?_))))
      refine Gm ?_
      refine Gv (V_geq rfl rfl rfl) ?_
      refine G_end (X_then ?_)
      refine G_cond_f rfl (decide_eq_false (by omega)) ?_
      refine G_skip (X_then (G_seq (G_seq (G_region ?_))))
      refine Gm ?_
      refine Gv (V_geq rfl rfl rfl) ?_
      refine G_end (X_then ?_)
      refine G_cond_t rfl (decide_eq_true (by omega)) ?_
      refine G_seq (G_region ?_)
      refine Gm ?_
      refine Gv (V_shr rfl rfl rfl (by omega)) ?_
      refine Ga ?_
      refine G_end (X_then (G_region ?_))
      refine Gm ?_
      refine Gv (V_add_i64 rfl rfl rfl (by omega) (by omega)) ?_
      refine Ga ?_
      refine G_end (X_then (G_seq (G_seq (G_region ?_))))
      refine Gm ?_
      refine Gv (V_geq rfl rfl rfl) ?_
      refine G_end (X_then ?_)
      rw [show shrI .u64 (d : Int) 16 = ((d / 2 ^ 16 : Nat) : Int) from shr_nat d 16 (by omega)]
      generalize d / 2 ^ 16 = y at *
      by_cases c3 : 256 ≤ y
      · have hz : 1 ≤ y / 2 ^ 8 ∧ y / 2 ^ 8 < 256 := by omega
        have hbk2 := fun m (hb : bitsP (y / 2 ^ 8) m) => bitsP_shr hb
        refine G_cond_t rfl (decide_eq_true (by omega)) ?_
        refine G_seq (G_region ?_)
        refine Gm ?_
        refine Gv (V_shr rfl rfl rfl (by omega)) ?_
        refine Ga ?_
        refine G_end (X_then (G_region ?_))
        refine Gm ?_
        refine Gv (V_add_i64 rfl rfl rfl (by omega) (by omega)) ?_
        refine Ga ?_
        refine G_end (X_then (G_seq (G_region ?_)))
        refine Gm ?_
        refine Gm ?_
        refine Gv (V_conv rfl rfl) ?_
        rw [show shrI .u64 (y : Int) 8 = ((y / 2 ^ 8 : Nat) : Int) from shr_nat y 8 (by omega)]
        generalize y / 2 ^ 8 = z at *
        obtain ⟨m, hm, hm8, hb⟩ := len8_at (d := z) (by omega)
        have hmi := u8_lt hm8
        have hf : BitsR d (.int .i64 (24 + (m : Nat))) := ⟨⟨m + 24, by rw [Int.natCast_add, Int.add_comm]; rfl, by omega, hbk _ (hbk2 m hb)⟩⟩
        clear hb
        rw [wrap_u8 (a := ((z : Nat) : Int)) (by omega) (by omega)]
        refine Gv (V_sidx (a := len8) (c := UInt8.ofNat m) rfl (by kernel_rfl) rfl (by omega) (by rw [Int.toNat_natCast]; exact hm)) ?_
        rw [hmi]
        refine Gv (V_conv_i64 rfl rfl (by omega) (by omega)) ?_
        refine Gv (V_add_i64 rfl rfl rfl (by omega) (by omega)) ?_
        refine Ga ?_
        refine G_end (X_then (G_ret ?_))
        refine G_leaveS (.nil _) (by exact (.cons (.tmp rfl) (.nil))) rfl ?_ ?_
        · exact (.refl _)
        exact ⟨(by assumption), rfl⟩
      · obtain ⟨m, hm, hm8, hb⟩ := len8_at (d := y) (by omega)
        have hmi := u8_lt hm8
        have hf : BitsR d (.int .i64 (16 + (m : Nat))) := ⟨⟨m + 16, by rw [Int.natCast_add, Int.add_comm]; rfl, by omega, hbk m hb⟩⟩
        clear hb
        refine G_cond_f rfl (decide_eq_false (by omega)) ?_
        refine G_skip (X_then (G_seq (G_region ?_)))
        refine Gm ?_
        refine Gm ?_
        refine Gv (V_conv_u8 rfl rfl (by omega) (by omega)) ?_
        refine Gv (V_sidx rfl rfl rfl (by omega) (by assumption)) ?_
        refine Gv (V_conv_i64 rfl rfl (by omega) (by omega)) ?_
        refine Gv (V_add_i64 rfl rfl rfl (by omega) (by omega)) ?_
        refine Ga ?_
        refine G_end (X_then (G_ret ?_))
        rw [hmi]
        refine G_leaveS (.nil _) (by exact (.cons (.tmp rfl) (.nil))) rfl ?_ ?_
        · exact (.refl _)
        exact ⟨(by assumption), rfl⟩
    · by_cases c3 : 256 ≤ d
      · have hz : 1 ≤ d / 2 ^ 8 ∧ d / 2 ^ 8 < 256 := by omega
        have hbk2 := fun m (hb : bitsP (d / 2 ^ 8) m) => bitsP_shr hb
        refine G_seq (G_region ?_)
        refine Ga ?_
        refine G_end (X_then (G_seq (G_seq (G_region ?_))))
        refine Gm ?_
        refine Gv (V_geq rfl rfl rfl) ?_
        refine G_end (X_then ?_)
        refine G_cond_f rfl (decide_eq_false (by omega)) ?_
        refine G_skip (X_then (G_seq (G_seq (G_region ?_))))
        refine Gm ?_
        refine Gv (V_geq rfl rfl rfl) ?_
        refine G_end (X_then ?_)
        refine G_cond_f rfl (decide_eq_false (by omega)) ?_
        refine G_skip (X_then (G_seq (G_seq (G_region ?_))))
        refine Gm ?_
        refine Gv (V_geq rfl rfl rfl) ?_
        refine G_end (X_then ?_)
        refine G_cond_t rfl (decide_eq_true (by omega)) ?_
        refine G_seq (G_region ?_)
        refine Gm ?_
        refine Gv (V_shr rfl rfl rfl (by omega)) ?_
        refine Ga ?_
        refine G_end (X_then (G_region ?_))
        refine Gm ?_
        refine Gv (V_add_i64 rfl rfl rfl (by omega) (by omega)) ?_
        refine Ga ?_
        refine G_end (X_then (G_seq (G_region ?_)))
        refine Gm ?_
        refine Gm ?_
        refine Gv (V_conv rfl rfl) ?_
        rw [show shrI .u64 (d : Int) 8 = ((d / 2 ^ 8 : Nat) : Int) from shr_nat d 8 (by omega)]
        generalize d / 2 ^ 8 = z at *
        obtain ⟨m, hm, hm8, hb⟩ := len8_at (d := z) (by omega)
        have hmi := u8_lt hm8
        have hf : BitsR d (.int .i64 (8 + (m : Nat))) := ⟨⟨m + 8, by rw [Int.natCast_add, Int.add_comm]; rfl, by omega, hbk2 m hb⟩⟩
        clear hb
        rw [wrap_u8 (a := ((z : Nat) : Int)) (by omega) (by omega)]
        refine Gv (V_sidx (a := len8) (c := UInt8.ofNat m) rfl (by kernel_rfl) rfl (by omega) (by rw [Int.toNat_natCast]; exact hm)) ?_
        rw [hmi]
        refine Gv (V_conv_i64 rfl rfl (by omega) (by omega)) ?_
        refine Gv (V_add_i64 rfl rfl rfl (by omega) (by omega)) ?_
        refine Ga ?_
        refine G_end (X_then (G_ret ?_))
        refine G_leaveS (.nil _) (by exact (.cons (.tmp rfl) (.nil))) rfl ?_ ?_
        · exact (.refl _)
        exact ⟨(by assumption), rfl⟩
      · obtain ⟨m, hm, hm8, hb⟩ := len8_at (d := d) (by omega)
        have hmi := u8_lt hm8
        have hf : BitsR d (.int .i64 (0 + (m : Nat))) := ⟨⟨m + 0, by rw [Int.natCast_add, Int.add_comm]; rfl, by omega, hb⟩⟩
        clear hb
        refine G_seq (G_region ?_)
        refine Ga ?_
        refine G_end (X_then (G_seq (G_seq (G_region ?_))))
        refine Gm ?_
        refine Gv (V_geq rfl rfl rfl) ?_
        refine G_end (X_then ?_)
        refine G_cond_f rfl (decide_eq_false (by omega)) ?_
        refine G_skip (X_then (G_seq (G_seq (G_region ?_))))
        refine Gm ?_
        refine Gv (V_geq rfl rfl rfl) ?_
        refine G_end (X_then ?_)
        refine G_cond_f rfl (decide_eq_false (by omega)) ?_
        refine G_skip (X_then (G_seq (G_seq (G_region ?_))))
        refine Gm ?_
        refine Gv (V_geq rfl rfl rfl) ?_
        refine G_end (X_then ?_)
        refine G_cond_f rfl (decide_eq_false (by omega)) ?_
        refine G_skip (X_then (G_seq (G_region ?_)))
        refine Gm ?_
        refine Gm ?_
        refine Gv (V_conv_u8 rfl rfl (by omega) (by omega)) ?_
        refine Gv (V_sidx rfl rfl rfl (by omega) (by assumption)) ?_
        refine Gv (V_conv_i64 rfl rfl (by omega) (by omega)) ?_
        refine Gv (V_add_i64 rfl rfl rfl (by omega) (by omega)) ?_
        refine Ga ?_
        refine G_end (X_then (G_ret ?_))
        rw [hmi]
        refine G_leaveS (.nil _) (by exact (.cons (.tmp rfl) (.nil))) rfl ?_ ?_
        · exact (.refl _)
        exact ⟨(by assumption), rfl⟩
end
end Go.Proofs.YtjhehanknkonnaaGreatDoor
set_option linter.unusedSimpArgs false
set_option linter.unusedVariables false
set_option maxHeartbeats 2000000
set_option maxRecDepth 20000
namespace Go.Proofs.YtjhehanknkonnaaGreatDoor
open Go.RowKit
/-! numDigits of numbers below 2^41. -/
section
variable (E : Env) (L : List Res)
theorem numDigits_call' (d : Nat) (h : 1 ≤ d ∧ d < 2199023255552) (hT : PowE E) : CallS Tryz.prog 135 #[.int .u64 (d : Nat)] E L (fun r E' L' => (∃ k : Nat, r = .int .i64 (k + 1 : Nat) ∧ k ≤ 12 ∧ 10 ^ k ≤ d ∧ d < 10 ^ (k + 1)) ∧ L' = L) := by
  refine CallS.intro (l := [_]) _ Tryz.func135 rfl Tryz.ntmps135 rfl ?_
  refine G_seq (G_region ?_)
  refine Ga ?_
  refine G_end (X_then (G_seq (G_region ?_)))
  refine Gm ?_
  refine G_call (k := 156) (.mk rfl rfl rfl rfl) rfl rfl (.none rfl) (Len64_call' _ _ d h) ?_
  rintro x1 E1 L1 hE1 ⟨⟨⟨n, rfl, hn, hb⟩⟩, rfl⟩
  replace hT := hT.mono hE1
  have hn1 : 1 ≤ n := by
    rcases Nat.eq_zero_or_pos n with rfl | h4
    · have := hb.1; simp at this; omega
    · exact h4
  have hn2 : n < 42 := by
    refine Nat.lt_of_not_le fun h5 => ?_
    have h6 : 2 ^ 42 ≤ 2 ^ n := Nat.pow_le_pow_right (by omega) h5
    have h7 := hb.2
    omega
  obtain ⟨k, k1, k2, k3, k4⟩ := nd_of hb ⟨hn1, hn2⟩ h.1
  skip
  refine G_callv (k := 155) (.mk rfl rfl rfl rfl) rfl rfl (.none rfl) (log10_call _ _ n (by omega)) ?_
  have hq : n * 78913 / 262144 ≤ 12 := by split at k2 <;> omega
  have hcell : ∀ L0, Cell E1 L0 ⟨3, 0 + ((n * 78913 / 262144 : Nat) : Int).toNat * 1, none⟩ (.int .u64 (10 ^ (n * 78913 / 262144) : Nat)) := fun L0 => by
    rw [Int.toNat_natCast, Nat.mul_one]
    exact SlE.cellAt hT (pow10_at hq)
  have hc0 := hcell L1
  generalize n * 78913 / 262144 = q at *
  have hf : ∃ j : Nat, Value.int .i64 (k + 1 : Nat) = .int .i64 (j + 1 : Nat) ∧ j ≤ 12 ∧ 10 ^ j ≤ d ∧ d < 10 ^ (j + 1) := ⟨k, rfl, k1, k3, k4⟩
  clear k3 k4
  generalize 10 ^ q = t at *
  by_cases ht : t ≤ d
  · rw [if_pos ht] at k2
    have ev : ((q : Nat) : Int) + (if decide ((t : Int) ≤ d) = true then 1 else 0) = ((k + 1 : Nat) : Int) := by rw [if_pos (decide_eq_true (by omega))]; omega
    refine Ga ?_
    refine G_end (X_then (G_seq (G_region ?_)))
    refine Gm ?_
    refine Gm ?_
    refine Gm ?_
    refine Gv (V_idxAddrArr rfl rfl rfl (by omega) (by omega)) ?_
    refine Gv (V_load rfl rfl (by assumption)) ?_
    refine Gv (V_geq rfl rfl rfl) ?_
    refine G_callv (k := 157) (.mk rfl rfl rfl rfl) rfl rfl (.none rfl) (bool2_call _ _ _) ?_
    refine Gv (V_add_i64 rfl rfl rfl (by omega) (by omega)) ?_
    refine Ga ?_
    refine G_end (X_then (G_ret ?_))
    refine G_leaveS (.nil _) (by exact (.cons (.tmp rfl) (.nil))) rfl ?_ ?_
    · exact hE1
    exact ⟨by rw [ev]; exact hf, rfl⟩
  · rw [if_neg ht] at k2
    have ev : ((q : Nat) : Int) + (if decide ((t : Int) ≤ d) = true then 1 else 0) = ((k + 1 : Nat) : Int) := by rw [if_neg (by rw [decide_eq_true_iff]; omega)]; omega
    refine Ga ?_
    refine G_end (X_then (G_seq (G_region ?_)))
    refine Gm ?_
    refine Gm ?_
    refine Gm ?_
    refine Gv (V_idxAddrArr rfl rfl rfl (by omega) (by omega)) ?_
    refine Gv (V_load rfl rfl (by assumption)) ?_
    refine Gv (V_geq rfl rfl rfl) ?_
    refine G_callv (k := 157) (.mk rfl rfl rfl rfl) rfl rfl (.none rfl) (bool2_call _ _ _) ?_
    refine Gv (V_add_i64 rfl rfl rfl (by omega) (by omega)) ?_
    refine Ga ?_
    refine G_end (X_then (G_ret ?_))
    refine G_leaveS (.nil _) (by exact (.cons (.tmp rfl) (.nil))) rfl ?_ ?_
    · exact hE1
    exact ⟨by rw [ev]; exact hf, rfl⟩
end
end Go.Proofs.YtjhehanknkonnaaGreatDoor
namespace Go.Proofs.YtjhehanknkonnaaGreatDoor
open Go.RowKit
theorem wrap_u32 {a : Int} (h0 : 0 ≤ a) (h1 : a ≤ 4294967295) : IntKind.u32.wrap a = a := by
  refine wrap_in ?_ ?_ <;> simp only [IntKind.min, IntKind.max, IntKind.signed, IntKind.bits] <;> simp <;> omega
section
variable {P : Program} {fs : List (Nat × Value)} {E : Env} {L : List Res} {o : Oper} {t u : TypeId} {x y : Operand} {a b : Int}
theorem V_add_u32 (ho : o.op = .binOp .add t x y u) (hx : ev fs x = some (.int .u32 a)) (hy : ev fs y = some (.int .u32 b)) (h0 : 0 ≤ a + b) (h1 : a + b ≤ 4294967295) : Val P o fs E L (.int .u32 (a + b)) := by
  have := V_add (P := P) (E := E) (L := L) ho hx hy
  rwa [wrap_u32 h0 h1] at this
theorem V_mul_u32 (ho : o.op = .binOp .mul t x y u) (hx : ev fs x = some (.int .u32 a)) (hy : ev fs y = some (.int .u32 b)) (h0 : 0 ≤ a * b) (h1 : a * b ≤ 4294967295) : Val P o fs E L (.int .u32 (a * b)) := by
  have := V_mul (P := P) (E := E) (L := L) ho hx hy
  rwa [wrap_u32 h0 h1] at this
theorem V_conv_u32 {k' : IntKind} {d : TypeDesc} {sz sz' : Nat} {ag ag' : Bool} [Ty P t d sz ag] [Ty P u (.int .u32) sz' ag'] (ho : o.op = .convert t u x) (hx : ev fs x = some (.int k' a)) (h0 : 0 ≤ a) (h1 : a ≤ 4294967295) : Val P o fs E L (.int .u32 a) := by
  have := V_conv (P := P) (E := E) (L := L) (k' := .u32) ho hx
  rwa [wrap_u32 h0 h1] at this
end
end Go.Proofs.YtjhehanknkonnaaGreatDoor
set_option linter.unusedSimpArgs false
set_option linter.unusedVariables false
set_option maxHeartbeats 2000000
set_option maxRecDepth 20000
namespace Go.Proofs.YtjhehanknkonnaaGreatDoor
open Go.RowKit
/-! formatBase10 of any number. -/
def bufV (j : Nat) (ds : List UInt8) (r : Nat) : List Value := List.replicate j (.int .u8 0) ++ (u8s ds ++ List.replicate r (.int .u8 0))
theorem bufV_len (j : Nat) (ds : List UInt8) (r : Nat) : (bufV j ds r).length = j + ds.length + r := by simp [bufV, u8s]; omega
theorem bufV_put {m j off : Nat} (hm : m = j + 1) (h : off = j) {x : UInt8} {ds : List UInt8} {r : Nat} : (bufV m ds r).set off (.int .u8 x.toNat) = bufV j (x :: ds) r := by
  subst hm h
  unfold bufV
  rw [List.set_append_left _ _ (by simp), List.replicate_succ', List.set_append_right _ _ (by simp)]
  simp [u8s]
/-- How far the digits are. -/
structure BufI (n u0 m u : Nat) (ds : List UInt8) : Prop where
  eq : digF m u ++ ds = digF n u0
  lt : u < 10 ^ m
  len : m + ds.length = n
abbrev dg (k : Nat) : UInt8 := UInt8.ofNat (48 + k)
theorem digF_two (m u : Nat) : digF (m + 2) u = digF m (u / 100) ++ [dg (u % 100 / 10), dg (u % 100 % 10)] := by
  simp only [digF]
  rw [Nat.div_div_eq_div_mul, List.append_assoc, show u / 10 % 10 = u % 100 / 10 by omega, show u % 10 = u % 100 % 10 by omega]
  rfl
theorem BufI.two {n u0 m u : Nat} {ds : List UInt8} (h : BufI n u0 (m + 2) u ds) : BufI n u0 m (u / 100) (dg (u % 100 / 10) :: dg (u % 100 % 10) :: ds) := by
  refine ⟨?_, ?_, ?_⟩
  · rw [← h.eq, digF_two]; simp
  · have := h.lt
    rw [Nat.pow_add] at this
    exact (Nat.div_lt_iff_lt_mul (by omega)).2 this
  · have := h.len
    simp only [List.length_cons]; omega
theorem BufI.le {n u0 m u : Nat} {ds : List UInt8} (h : BufI n u0 m u ds) {k : Nat} (hk : m ≤ k) : u < 10 ^ k := Nat.lt_of_lt_of_le h.lt (Nat.pow_le_pow_right (by omega) hk)
theorem BufI.four {n u0 m u : Nat} {ds : List UInt8} (h : BufI n u0 (m + 4) u ds) : ∃ p1 p0 v : Nat, p1 < 100 ∧ p0 < 100 ∧ (u : Int) % 10000 / 100 = p1 ∧ (u : Int) % 10000 % 100 = p0 ∧ (u : Int) / 10000 = v ∧ v ≤ u ∧ BufI n u0 m v (dg (p1 / 10) :: dg (p1 % 10) :: dg (p0 / 10) :: dg (p0 % 10) :: ds) := by
  refine ⟨u / 100 % 100, u % 100, u / 10000, by omega, by omega, by omega, by omega, by omega, by omega, ?_⟩
  have := h.two.two
  rwa [Nat.div_div_eq_div_mul] at this
theorem BufI.eight {n u0 m u : Nat} {ds : List UInt8} (h : BufI n u0 (m + 8) u ds) : ∃ p3 p2 p1 p0 v : Nat, p3 < 100 ∧ p2 < 100 ∧ p1 < 100 ∧ p0 < 100 ∧ (u : Int) % 100000000 / 10000 / 100 = p3 ∧ (u : Int) % 100000000 / 10000 % 100 = p2 ∧ (u : Int) % 100000000 % 10000 / 100 = p1 ∧ (u : Int) % 100000000 % 10000 % 100 = p0 ∧ (u : Int) / 100000000 = v ∧ v ≤ u ∧
    BufI n u0 m v (dg (p3 / 10) :: dg (p3 % 10) :: dg (p2 / 10) :: dg (p2 % 10) :: dg (p1 / 10) :: dg (p1 % 10) :: dg (p0 / 10) :: dg (p0 % 10) :: ds) := by
  refine ⟨u / 100 / 100 / 100 % 100, u / 100 / 100 % 100, u / 100 % 100, u % 100, u / 100 / 100 / 100 / 100, by omega, by omega, by omega, by omega, by omega, by omega, by omega, by omega, by omega, by omega, ?_⟩
  exact h.two.two.two.two
theorem smls_hi {k : Nat} (h : k < 100) : smls[((k : Int) * 2 + 1).toNat]? = some (dg (k % 10)) := by
  rw [show ((k : Int) * 2 + 1).toNat = 2 * k + 1 by omega]; exact (smls_at h).2
theorem smls_lo {k : Nat} (h : k < 100) : smls[((k : Int) * 2).toNat]? = some (dg (k / 10)) := by
  rw [show ((k : Int) * 2).toNat = 2 * k by omega]; exact (smls_at h).1
theorem dg_nat {k : Nat} (h : k < 10) : (48 + (k : Int)) = ((dg k).toNat : Int) := by
  have := toNat_of k h
  simp only [dg] at this ⊢
  omega
section
variable (E : Env) (L : List Res)
theorem formatBase10_call' (b o n r c u : Nat) (h1 : 1 ≤ n) (h15 : n ≤ 15) (ho : o ≤ 9) (hu2 : u ≤ 9223372036854775807) (h0 : BufI n u n u []) :
    CallS Tryz.prog 136 #[.slice (some ⟨b, o, none⟩) n c, .int .u64 (u : Nat)] E (.blk b (.cells (bufV (o + n) [] r).toArray 155 (0, 0)) :: L)
      (fun x E' L' => x = .tuple #[] ∧ E = E' ∧ L' = .blk b (.cells (bufV o (digF n u) r).toArray 155 (0, 0)) :: L) := by
  refine CallS.intro (l := [_, _]) _ Tryz.func136 rfl Tryz.ntmps136 rfl ?_
  refine G_seq (G_region ?_)
  refine Gm ?_
  refine Gv (V_lenS rfl rfl) ?_
  refine Ga ?_
  refine G_end (X_then (G_seq (G_block ?_)))
  obtain ⟨u0, hu0⟩ : ∃ u0, u0 = u := ⟨_, rfl⟩
  rw [← hu0]
  rw [show BufI n u n u [] = BufI n u0 n u [] by rw [hu0]] at h0
  refine G_loop (α := Nat × Nat × List UInt8) (fun x => [(0, .slice (some ⟨b, o, none⟩) n c), (1, .int .u64 (x.2.1 : Nat)), (4, .int .i64 (x.1 : Nat))]) (fun _ => E) (fun x => .blk b (.cells (bufV (o + x.1) x.2.2 r).toArray 155 (0, 0)) :: L)
    (fun x => x.1 ≤ n ∧ x.2.1 ≤ 9223372036854775807 ∧ BufI n u0 x.1 x.2.1 x.2.2) (fun x => x.1) (n, u, []) ⟨Nat.le_refl _, hu2, h0⟩ ⟨rfl, by rw [hu0]; rfl, rfl, trivial⟩ rfl rfl ?_
  rintro ⟨m, v, ds⟩ ⟨hm, hv, hB⟩
  clear h0 hu2 hu0
  simp only at hm hv hB ⊢
  by_cases h8 : 8 ≤ m
  · obtain ⟨k, rfl⟩ : ∃ k, m = k + 8 := ⟨m - 8, by omega⟩
    obtain ⟨p3, p2, p1, p0, w, l3, l2, l1, l0, e3, e2, e1, e0, ev, hw, hB2⟩ := hB.eight
    clear hB
    have hm8 : ((k + 8 : Nat) : Int) - 8 = ((k : Nat) : Int) := by omega
    refine G_seq (G_seq (G_region ?_))
    refine Gm ?_
    refine Gv (V_geq rfl rfl rfl) ?_
    refine G_end (X_then ?_)
    refine G_cond_t rfl (decide_eq_true (by omega)) ?_
    refine G_skip (X_then (G_block (G_seq (G_region ?_))))
    refine Gm ?_
    refine Gv (V_rem_n rfl rfl rfl (by omega) (by omega)) ?_
    refine Gv (V_conv_u32 rfl rfl (by omega) (by omega)) ?_
    refine Ga ?_
    refine G_end (X_then (G_seq (G_region ?_)))
    refine Gm ?_
    refine Gv (V_quo_n rfl rfl rfl (by omega) (by omega) (by simp [IntKind.max, IntKind.signed, IntKind.bits]; omega)) ?_
    refine Ga ?_
    refine G_end (X_then (G_seq (G_region ?_)))
    refine Gm ?_
    refine Gv (V_quo_n rfl rfl rfl (by omega) (by omega) (by simp [IntKind.max, IntKind.signed, IntKind.bits]; omega)) ?_
    refine Gm ?_
    refine Gv (V_rem_n rfl rfl rfl (by omega) (by omega)) ?_
    refine Ga ?_
    refine Ga ?_
    refine G_end (X_then (G_seq (G_region ?_)))
    refine Gm ?_
    refine Gv (V_quo_n rfl rfl rfl (by omega) (by omega) (by simp [IntKind.max, IntKind.signed, IntKind.bits]; omega)) ?_
    refine Gv (V_mul_u32 rfl rfl rfl (by omega) (by omega)) ?_
    refine Gm ?_
    refine Gv (V_rem_n rfl rfl rfl (by omega) (by omega)) ?_
    refine Gv (V_mul_u32 rfl rfl rfl (by omega) (by omega)) ?_
    refine Ga ?_
    refine Ga ?_
    refine G_end (X_then (G_seq (G_region ?_)))
    refine Gm ?_
    refine Gv (V_quo_n rfl rfl rfl (by omega) (by omega) (by simp [IntKind.max, IntKind.signed, IntKind.bits]; omega)) ?_
    refine Gv (V_mul_u32 rfl rfl rfl (by omega) (by omega)) ?_
    refine Gm ?_
    refine Gv (V_rem_n rfl rfl rfl (by omega) (by omega)) ?_
    refine Gv (V_mul_u32 rfl rfl rfl (by omega) (by omega)) ?_
    refine Ga ?_
    refine Ga ?_
    refine G_end (X_then (G_seq ?_))
    rw [e3, e2, e1, e0, ev]
    clear e3 e2 e1 e0 ev
    have x0 := smls_hi l0
    have y0 := smls_lo l0
    refine G_drawX 15 [(0, 0), (1, 0), (2, 0), (3, 0), (4, 0), (5, 0), (6, 0), (7, 0), (8, 0), (9, 0), (10, 0), (11, 1), (12, 4), (13, 1), (14, 4)] mixed (by kernel_rfl) ?_
    refine F_pure rfl (fun _ _ => V_move rfl rfl) rfl rfl (.none rfl) ?_
    refine F_pure rfl (fun _ _ => V_move rfl rfl) rfl rfl (.none rfl) ?_
    refine F_pure rfl (fun _ _ => V_sub_i64 rfl rfl rfl (by omega) (by omega)) rfl rfl (.none rfl) ?_
    refine F_pure rfl (fun _ _ => V_move rfl rfl) rfl rfl (.none rfl) ?_
    refine F_pure rfl (fun _ _ => V_move rfl rfl) rfl rfl (.none rfl) ?_
    refine F_pure rfl (fun _ _ => V_sub_i64 rfl rfl rfl (by omega) (by omega)) rfl rfl (.none rfl) ?_
    refine F_pure rfl (fun _ _ => V_move rfl rfl) rfl rfl (.none rfl) ?_
    refine F_pure rfl (fun _ _ => V_add_u32 rfl rfl rfl (by omega) (by omega)) rfl rfl (.none rfl) ?_
    refine F_pure rfl (fun _ _ => V_sidx rfl rfl rfl (by omega) (by assumption)) rfl rfl (.none rfl) ?_
    refine F_pure rfl (fun _ _ => V_move rfl rfl) rfl rfl (.none rfl) ?_
    refine F_pure rfl (fun _ _ => V_sidx rfl rfl rfl (by omega) (by assumption)) rfl rfl (.none rfl) ?_
    refine F_loadE rfl (V_idxBo rfl rfl rfl (by omega) (by omega)) rfl rfl (.none rfl) ?_
    refine F_storeB rfl rfl rfl rfl rfl rfl rfl (.none rfl) (.head _ _ _) (by simp only [bufV_len, List.length_cons]; omega) (.drop (by kernel_rfl) .nil) ?_
    rw [bufV_put (j := o + k + 7) (by omega) (by omega)]
    refine F_loadE rfl (V_idxBo rfl rfl rfl (by omega) (by omega)) rfl rfl (.none rfl) ?_
    refine F_storeB rfl rfl rfl rfl rfl rfl rfl (.none rfl) (.head _ _ _) (by simp only [bufV_len, List.length_cons]; omega) (.drop (by kernel_rfl) .nil) ?_
    rw [bufV_put (j := o + k + 6) (by omega) (by omega)]
    refine F_end (.nil _) ?_
    dsimp only [List.drop]
    refine G_end ?_
    clear x0 y0
    have x1 := smls_hi l1
    have y1 := smls_lo l1
    refine X_then (G_seq ?_)
    refine G_drawX 15 [(0, 0), (1, 0), (2, 0), (3, 0), (4, 0), (5, 0), (6, 0), (7, 0), (8, 0), (9, 0), (10, 0), (11, 1), (12, 4), (13, 1), (14, 4)] mixed (by kernel_rfl) ?_
    refine F_pure rfl (fun _ _ => V_move rfl rfl) rfl rfl (.none rfl) ?_
    refine F_pure rfl (fun _ _ => V_move rfl rfl) rfl rfl (.none rfl) ?_
    refine F_pure rfl (fun _ _ => V_sub_i64 rfl rfl rfl (by omega) (by omega)) rfl rfl (.none rfl) ?_
    refine F_pure rfl (fun _ _ => V_move rfl rfl) rfl rfl (.none rfl) ?_
    refine F_pure rfl (fun _ _ => V_move rfl rfl) rfl rfl (.none rfl) ?_
    refine F_pure rfl (fun _ _ => V_sub_i64 rfl rfl rfl (by omega) (by omega)) rfl rfl (.none rfl) ?_
    refine F_pure rfl (fun _ _ => V_move rfl rfl) rfl rfl (.none rfl) ?_
    refine F_pure rfl (fun _ _ => V_add_u32 rfl rfl rfl (by omega) (by omega)) rfl rfl (.none rfl) ?_
    refine F_pure rfl (fun _ _ => V_sidx rfl rfl rfl (by omega) (by assumption)) rfl rfl (.none rfl) ?_
    refine F_pure rfl (fun _ _ => V_move rfl rfl) rfl rfl (.none rfl) ?_
    refine F_pure rfl (fun _ _ => V_sidx rfl rfl rfl (by omega) (by assumption)) rfl rfl (.none rfl) ?_
    refine F_loadE rfl (V_idxBo rfl rfl rfl (by omega) (by omega)) rfl rfl (.none rfl) ?_
    refine F_storeB rfl rfl rfl rfl rfl rfl rfl (.none rfl) (.head _ _ _) (by simp only [bufV_len, List.length_cons]; omega) (.drop (by kernel_rfl) .nil) ?_
    rw [bufV_put (j := o + k + 5) (by omega) (by omega)]
    refine F_loadE rfl (V_idxBo rfl rfl rfl (by omega) (by omega)) rfl rfl (.none rfl) ?_
    refine F_storeB rfl rfl rfl rfl rfl rfl rfl (.none rfl) (.head _ _ _) (by simp only [bufV_len, List.length_cons]; omega) (.drop (by kernel_rfl) .nil) ?_
    rw [bufV_put (j := o + k + 4) (by omega) (by omega)]
    refine F_end (.nil _) ?_
    dsimp only [List.drop]
    refine G_end ?_
    clear x1 y1
    have x2 := smls_hi l2
    have y2 := smls_lo l2
    refine X_then (G_seq ?_)
    refine G_drawX 15 [(0, 0), (1, 0), (2, 0), (3, 0), (4, 0), (5, 0), (6, 0), (7, 0), (8, 0), (9, 0), (10, 0), (11, 1), (12, 4), (13, 1), (14, 4)] mixed (by kernel_rfl) ?_
    refine F_pure rfl (fun _ _ => V_move rfl rfl) rfl rfl (.none rfl) ?_
    refine F_pure rfl (fun _ _ => V_move rfl rfl) rfl rfl (.none rfl) ?_
    refine F_pure rfl (fun _ _ => V_sub_i64 rfl rfl rfl (by omega) (by omega)) rfl rfl (.none rfl) ?_
    refine F_pure rfl (fun _ _ => V_move rfl rfl) rfl rfl (.none rfl) ?_
    refine F_pure rfl (fun _ _ => V_move rfl rfl) rfl rfl (.none rfl) ?_
    refine F_pure rfl (fun _ _ => V_sub_i64 rfl rfl rfl (by omega) (by omega)) rfl rfl (.none rfl) ?_
    refine F_pure rfl (fun _ _ => V_move rfl rfl) rfl rfl (.none rfl) ?_
    refine F_pure rfl (fun _ _ => V_add_u32 rfl rfl rfl (by omega) (by omega)) rfl rfl (.none rfl) ?_
    refine F_pure rfl (fun _ _ => V_sidx rfl rfl rfl (by omega) (by assumption)) rfl rfl (.none rfl) ?_
    refine F_pure rfl (fun _ _ => V_move rfl rfl) rfl rfl (.none rfl) ?_
    refine F_pure rfl (fun _ _ => V_sidx rfl rfl rfl (by omega) (by assumption)) rfl rfl (.none rfl) ?_
    refine F_loadE rfl (V_idxBo rfl rfl rfl (by omega) (by omega)) rfl rfl (.none rfl) ?_
    refine F_storeB rfl rfl rfl rfl rfl rfl rfl (.none rfl) (.head _ _ _) (by simp only [bufV_len, List.length_cons]; omega) (.drop (by kernel_rfl) .nil) ?_
    rw [bufV_put (j := o + k + 3) (by omega) (by omega)]
    refine F_loadE rfl (V_idxBo rfl rfl rfl (by omega) (by omega)) rfl rfl (.none rfl) ?_
    refine F_storeB rfl rfl rfl rfl rfl rfl rfl (.none rfl) (.head _ _ _) (by simp only [bufV_len, List.length_cons]; omega) (.drop (by kernel_rfl) .nil) ?_
    rw [bufV_put (j := o + k + 2) (by omega) (by omega)]
    refine F_end (.nil _) ?_
    dsimp only [List.drop]
    refine G_end ?_
    clear x2 y2
    have x3 := smls_hi l3
    have y3 := smls_lo l3
    refine X_then (G_seq ?_)
    refine G_drawX 15 [(0, 0), (1, 0), (2, 0), (3, 0), (4, 0), (5, 0), (6, 0), (7, 0), (8, 0), (9, 0), (10, 0), (11, 1), (12, 4), (13, 1), (14, 4)] mixed (by kernel_rfl) ?_
    refine F_pure rfl (fun _ _ => V_move rfl rfl) rfl rfl (.none rfl) ?_
    refine F_pure rfl (fun _ _ => V_move rfl rfl) rfl rfl (.none rfl) ?_
    refine F_pure rfl (fun _ _ => V_sub_i64 rfl rfl rfl (by omega) (by omega)) rfl rfl (.none rfl) ?_
    refine F_pure rfl (fun _ _ => V_move rfl rfl) rfl rfl (.none rfl) ?_
    refine F_pure rfl (fun _ _ => V_move rfl rfl) rfl rfl (.none rfl) ?_
    refine F_pure rfl (fun _ _ => V_sub_i64 rfl rfl rfl (by omega) (by omega)) rfl rfl (.none rfl) ?_
    refine F_pure rfl (fun _ _ => V_move rfl rfl) rfl rfl (.none rfl) ?_
    refine F_pure rfl (fun _ _ => V_add_u32 rfl rfl rfl (by omega) (by omega)) rfl rfl (.none rfl) ?_
    refine F_pure rfl (fun _ _ => V_sidx rfl rfl rfl (by omega) (by assumption)) rfl rfl (.none rfl) ?_
    refine F_pure rfl (fun _ _ => V_move rfl rfl) rfl rfl (.none rfl) ?_
    refine F_pure rfl (fun _ _ => V_sidx rfl rfl rfl (by omega) (by assumption)) rfl rfl (.none rfl) ?_
    refine F_loadE rfl (V_idxBo rfl rfl rfl (by omega) (by omega)) rfl rfl (.none rfl) ?_
    refine F_storeB rfl rfl rfl rfl rfl rfl rfl (.none rfl) (.head _ _ _) (by simp only [bufV_len, List.length_cons]; omega) (.drop (by kernel_rfl) .nil) ?_
    rw [bufV_put (j := o + k + 1) (by omega) (by omega)]
    refine F_loadE rfl (V_idxBo rfl rfl rfl (by omega) (by omega)) rfl rfl (.none rfl) ?_
    refine F_storeB rfl rfl rfl rfl rfl rfl rfl (.none rfl) (.head _ _ _) (by simp only [bufV_len, List.length_cons]; omega) (.drop (by kernel_rfl) .nil) ?_
    rw [bufV_put (j := o + k) (by omega) (by omega)]
    refine F_end (.nil _) ?_
    dsimp only [List.drop]
    refine G_end (X_then (G_region ?_))
    refine Gm ?_
    refine Gv (V_sub_i64 rfl rfl rfl (by omega) (by omega)) ?_
    refine Ga ?_
    refine G_end (X_block (X_then ?_))
    rw [hm8]
    exact G_again (k, w, _) ⟨by simp only; omega, by simp only; omega, hB2⟩ (by simp only; omega) ⟨rfl, rfl, rfl, trivial⟩ rfl rfl
  · have hlt := hB.le (k := 7) (by omega)
    rw [show (10 : Nat) ^ 7 = 10000000 by decide] at hlt
    clear h1 h15
    refine G_seq (G_seq (G_region ?_))
    refine Gm ?_
    refine Gv (V_geq rfl rfl rfl) ?_
    refine G_end (X_then ?_)
    refine G_cond_f rfl (decide_eq_false (by omega)) ?_
    refine G_exit (X_then_exit (X_then_exit (X_block_hit (X_then (G_seq (G_region ?_))))))
    refine Gm ?_
    refine Gv (V_conv_u32 rfl rfl (by omega) (by omega)) ?_
    refine Ga ?_
    refine G_end (X_then (G_seq (G_seq (G_region ?_))))
    refine Gm ?_
    refine Gv (V_geq rfl rfl rfl) ?_
    refine G_end (X_then ?_)
    refine G_ways (Y := ?Y) (β := Nat × Nat × List UInt8) (J := fun y => y.1 ≤ 3 ∧ y.2.1 ≤ 9999999 ∧ y.1 ≤ n ∧ BufI n u0 y.1 y.2.1 y.2.2) (fs' := fun y => [(0, .slice (some ⟨b, o, none⟩) n c), (4, .int .i64 (y.1 : Nat)), (12, .int .u32 (y.2.1 : Nat)), (139, .bool (decide ((2 : Int) ≤ (y.1 : Nat))))]) (E' := fun _ => E) (L' := fun y => .blk b (.cells (bufV (o + y.1) y.2.2 r).toArray 155 (0, 0)) :: L) ?_ ?_
    rotate_left
    · intro hk
      by_cases h4 : 4 ≤ m
      · obtain ⟨k, hk4⟩ : ∃ k, m = k + 4 := ⟨m - 4, by omega⟩
        have hB1 : BufI n u0 (k + 4) v ds := by rw [← hk4]; exact hB
        obtain ⟨p1, p0, w, l1, l0, e1, e0, ev, hw, hB2⟩ := hB1.four
        have hm4 : (m : Int) - 4 = ((k : Nat) : Int) := by omega
        refine G_cond_t rfl (decide_eq_true (by omega)) ?_
        refine G_seq (G_region ?_)
        refine Gm ?_
        refine Gv (V_rem_n rfl rfl rfl (by omega) (by omega)) ?_
        refine Ga ?_
        refine G_end (X_then (G_seq (G_region ?_)))
        refine Gm ?_
        refine Gv (V_quo_n rfl rfl rfl (by omega) (by omega) (by simp [IntKind.max, IntKind.signed, IntKind.bits]; omega)) ?_
        refine Ga ?_
        refine G_end (X_then (G_seq (G_region ?_)))
        refine Gm ?_
        refine Gv (V_quo_n rfl rfl rfl (by omega) (by omega) (by simp [IntKind.max, IntKind.signed, IntKind.bits]; omega)) ?_
        refine Gv (V_mul_u32 rfl rfl rfl (by omega) (by omega)) ?_
        refine Gm ?_
        refine Gv (V_rem_n rfl rfl rfl (by omega) (by omega)) ?_
        refine Gv (V_mul_u32 rfl rfl rfl (by omega) (by omega)) ?_
        refine Ga ?_
        refine Ga ?_
        refine G_end (X_then (G_seq ?_))
        rw [e1, e0, ev]
        clear e1 e0 ev
        have x0 := smls_hi l0
        have y0 := smls_lo l0
        refine G_drawX 15 [(0, 0), (1, 0), (2, 0), (3, 0), (4, 0), (5, 0), (6, 0), (7, 0), (8, 0), (9, 0), (10, 0), (11, 1), (12, 4), (13, 1), (14, 4)] mixed (by kernel_rfl) ?_
        refine F_pure rfl (fun _ _ => V_move rfl rfl) rfl rfl (.none rfl) ?_
        refine F_pure rfl (fun _ _ => V_move rfl rfl) rfl rfl (.none rfl) ?_
        refine F_pure rfl (fun _ _ => V_sub_i64 rfl rfl rfl (by omega) (by omega)) rfl rfl (.none rfl) ?_
        refine F_pure rfl (fun _ _ => V_move rfl rfl) rfl rfl (.none rfl) ?_
        refine F_pure rfl (fun _ _ => V_move rfl rfl) rfl rfl (.none rfl) ?_
        refine F_pure rfl (fun _ _ => V_sub_i64 rfl rfl rfl (by omega) (by omega)) rfl rfl (.none rfl) ?_
        refine F_pure rfl (fun _ _ => V_move rfl rfl) rfl rfl (.none rfl) ?_
        refine F_pure rfl (fun _ _ => V_add_u32 rfl rfl rfl (by omega) (by omega)) rfl rfl (.none rfl) ?_
        refine F_pure rfl (fun _ _ => V_sidx rfl rfl rfl (by omega) (by assumption)) rfl rfl (.none rfl) ?_
        refine F_pure rfl (fun _ _ => V_move rfl rfl) rfl rfl (.none rfl) ?_
        refine F_pure rfl (fun _ _ => V_sidx rfl rfl rfl (by omega) (by assumption)) rfl rfl (.none rfl) ?_
        refine F_loadE rfl (V_idxBo rfl rfl rfl (by omega) (by omega)) rfl rfl (.none rfl) ?_
        refine F_storeB rfl rfl rfl rfl rfl rfl rfl (.none rfl) (.head _ _ _) (by simp only [bufV_len, List.length_cons]; omega) (.drop (by kernel_rfl) .nil) ?_
        rw [bufV_put (j := o + k + 3) (by omega) (by omega)]
        refine F_loadE rfl (V_idxBo rfl rfl rfl (by omega) (by omega)) rfl rfl (.none rfl) ?_
        refine F_storeB rfl rfl rfl rfl rfl rfl rfl (.none rfl) (.head _ _ _) (by simp only [bufV_len, List.length_cons]; omega) (.drop (by kernel_rfl) .nil) ?_
        rw [bufV_put (j := o + k + 2) (by omega) (by omega)]
        refine F_end (.nil _) ?_
        dsimp only [List.drop]
        refine G_end ?_
        clear x0 y0
        have x1 := smls_hi l1
        have y1 := smls_lo l1
        refine X_then (G_seq ?_)
        refine G_drawX 15 [(0, 0), (1, 0), (2, 0), (3, 0), (4, 0), (5, 0), (6, 0), (7, 0), (8, 0), (9, 0), (10, 0), (11, 1), (12, 4), (13, 1), (14, 4)] mixed (by kernel_rfl) ?_
        refine F_pure rfl (fun _ _ => V_move rfl rfl) rfl rfl (.none rfl) ?_
        refine F_pure rfl (fun _ _ => V_move rfl rfl) rfl rfl (.none rfl) ?_
        refine F_pure rfl (fun _ _ => V_sub_i64 rfl rfl rfl (by omega) (by omega)) rfl rfl (.none rfl) ?_
        refine F_pure rfl (fun _ _ => V_move rfl rfl) rfl rfl (.none rfl) ?_
        refine F_pure rfl (fun _ _ => V_move rfl rfl) rfl rfl (.none rfl) ?_
        refine F_pure rfl (fun _ _ => V_sub_i64 rfl rfl rfl (by omega) (by omega)) rfl rfl (.none rfl) ?_
        refine F_pure rfl (fun _ _ => V_move rfl rfl) rfl rfl (.none rfl) ?_
        refine F_pure rfl (fun _ _ => V_add_u32 rfl rfl rfl (by omega) (by omega)) rfl rfl (.none rfl) ?_
        refine F_pure rfl (fun _ _ => V_sidx rfl rfl rfl (by omega) (by assumption)) rfl rfl (.none rfl) ?_
        refine F_pure rfl (fun _ _ => V_move rfl rfl) rfl rfl (.none rfl) ?_
        refine F_pure rfl (fun _ _ => V_sidx rfl rfl rfl (by omega) (by assumption)) rfl rfl (.none rfl) ?_
        refine F_loadE rfl (V_idxBo rfl rfl rfl (by omega) (by omega)) rfl rfl (.none rfl) ?_
        refine F_storeB rfl rfl rfl rfl rfl rfl rfl (.none rfl) (.head _ _ _) (by simp only [bufV_len, List.length_cons]; omega) (.drop (by kernel_rfl) .nil) ?_
        rw [bufV_put (j := o + k + 1) (by omega) (by omega)]
        refine F_loadE rfl (V_idxBo rfl rfl rfl (by omega) (by omega)) rfl rfl (.none rfl) ?_
        refine F_storeB rfl rfl rfl rfl rfl rfl rfl (.none rfl) (.head _ _ _) (by simp only [bufV_len, List.length_cons]; omega) (.drop (by kernel_rfl) .nil) ?_
        rw [bufV_put (j := o + k) (by omega) (by omega)]
        refine F_end (.nil _) ?_
        dsimp only [List.drop]
        refine G_end (X_then (G_region ?_))
        refine Gm ?_
        refine Gv (V_sub_i64 rfl rfl rfl (by omega) (by omega)) ?_
        refine Ga ?_
        refine G_end (X_then (G_seq (G_seq (G_region ?_))))
        refine Gm ?_
        refine Gv (V_geq rfl rfl rfl) ?_
        refine G_end (X_then ?_)
        rw [hm4]
        refine G.sub [(0, .slice (some ⟨b, o, none⟩) n c), (4, .int .i64 (k : Nat)), (12, .int .u32 (w : Nat)), (139, .bool (decide ((2 : Int) ≤ (k : Nat))))] ⟨rfl, rfl, rfl, rfl, trivial⟩ ?_
        exact hk (k, w, _) ⟨by simp only; omega, by simp only; omega, by simp only; omega, hB2⟩
      · refine G_cond_f rfl (decide_eq_false (by omega)) ?_
        refine G_skip (X_then (G_seq (G_seq (G_region ?_))))
        refine Gm ?_
        refine Gv (V_geq rfl rfl rfl) ?_
        refine G_end (X_then ?_)
        refine G.sub [(0, .slice (some ⟨b, o, none⟩) n c), (4, .int .i64 (m : Nat)), (12, .int .u32 (v : Nat)), (139, .bool (decide ((2 : Int) ≤ (m : Nat))))] ⟨rfl, rfl, rfl, rfl, trivial⟩ ?_
        exact hk (m, v, ds) ⟨by simp only; omega, by simp only; omega, by simp only; omega, hB⟩
    · clear hB hlt hv hm h8
      rintro ⟨m, v, ds⟩ ⟨hm3, hv, hmn, hB⟩
      simp only at hm3 hv hmn hB ⊢
      refine G_ways (Y := ?Y2) (β := Nat × Nat × List UInt8) (J := fun y => y.1 ≤ 1 ∧ y.2.1 ≤ 9999999 ∧ y.1 ≤ n ∧ BufI n u0 y.1 y.2.1 y.2.2) (fs' := fun y => [(0, .slice (some ⟨b, o, none⟩) n c), (12, .int .u32 (y.2.1 : Nat)), (161, .bool (decide ((0 : Int) < (y.1 : Nat))))]) (E' := fun _ => E) (L' := fun y => .blk b (.cells (bufV (o + y.1) y.2.2 r).toArray 155 (0, 0)) :: L) ?_ ?_
      rotate_left
      · intro hk
        by_cases h2 : 2 ≤ m
        · obtain ⟨k, hk4⟩ : ∃ k, m = k + 2 := ⟨m - 2, by omega⟩
          have hB1 : BufI n u0 (k + 2) v ds := by rw [← hk4]; exact hB
          have hB2 := hB1.two
          have hm2 : (m : Int) - 2 = ((k : Nat) : Int) := by omega
          obtain ⟨p0, hp0, l0⟩ : ∃ p0, v % 100 = p0 ∧ p0 < 100 := ⟨_, rfl, by omega⟩
          obtain ⟨w, hw0, hw1⟩ : ∃ w, v / 100 = w ∧ w ≤ v := ⟨_, rfl, by omega⟩
          have e0 : (v : Int) % 100 = (p0 : Nat) := by omega
          have ev : (v : Int) / 100 = (w : Nat) := by omega
          rw [hp0, hw0] at hB2
          refine G_cond_t rfl (decide_eq_true (by omega)) ?_
          refine G_seq (G_region ?_)
          refine Gm ?_
          refine Gv (V_rem_n rfl rfl rfl (by omega) (by omega)) ?_
          refine Gv (V_mul_u32 rfl rfl rfl (by omega) (by omega)) ?_
          refine Ga ?_
          refine G_end (X_then (G_seq (G_region ?_)))
          refine Gm ?_
          refine Gv (V_quo_n rfl rfl rfl (by omega) (by omega) (by simp [IntKind.max, IntKind.signed, IntKind.bits]; omega)) ?_
          refine Ga ?_
          refine G_end (X_then (G_seq ?_))
          rw [e0, ev]
          clear e0 ev hp0 hw0
          have x0 := smls_hi l0
          have y0 := smls_lo l0
          refine G_drawX 15 [(0, 0), (1, 0), (2, 0), (3, 0), (4, 0), (5, 0), (6, 0), (7, 0), (8, 0), (9, 0), (10, 0), (11, 1), (12, 4), (13, 1), (14, 4)] mixed (by kernel_rfl) ?_
          refine F_pure rfl (fun _ _ => V_move rfl rfl) rfl rfl (.none rfl) ?_
          refine F_pure rfl (fun _ _ => V_move rfl rfl) rfl rfl (.none rfl) ?_
          refine F_pure rfl (fun _ _ => V_sub_i64 rfl rfl rfl (by omega) (by omega)) rfl rfl (.none rfl) ?_
          refine F_pure rfl (fun _ _ => V_move rfl rfl) rfl rfl (.none rfl) ?_
          refine F_pure rfl (fun _ _ => V_move rfl rfl) rfl rfl (.none rfl) ?_
          refine F_pure rfl (fun _ _ => V_sub_i64 rfl rfl rfl (by omega) (by omega)) rfl rfl (.none rfl) ?_
          refine F_pure rfl (fun _ _ => V_move rfl rfl) rfl rfl (.none rfl) ?_
          refine F_pure rfl (fun _ _ => V_add_u32 rfl rfl rfl (by omega) (by omega)) rfl rfl (.none rfl) ?_
          refine F_pure rfl (fun _ _ => V_sidx rfl rfl rfl (by omega) (by assumption)) rfl rfl (.none rfl) ?_
          refine F_pure rfl (fun _ _ => V_move rfl rfl) rfl rfl (.none rfl) ?_
          refine F_pure rfl (fun _ _ => V_sidx rfl rfl rfl (by omega) (by assumption)) rfl rfl (.none rfl) ?_
          refine F_loadE rfl (V_idxBo rfl rfl rfl (by omega) (by omega)) rfl rfl (.none rfl) ?_
          refine F_storeB rfl rfl rfl rfl rfl rfl rfl (.none rfl) (.head _ _ _) (by simp only [bufV_len, List.length_cons]; omega) (.drop (by kernel_rfl) .nil) ?_
          rw [bufV_put (j := o + k + 1) (by omega) (by omega)]
          refine F_loadE rfl (V_idxBo rfl rfl rfl (by omega) (by omega)) rfl rfl (.none rfl) ?_
          refine F_storeB rfl rfl rfl rfl rfl rfl rfl (.none rfl) (.head _ _ _) (by simp only [bufV_len, List.length_cons]; omega) (.drop (by kernel_rfl) .nil) ?_
          rw [bufV_put (j := o + k) (by omega) (by omega)]
          refine F_end (.nil _) ?_
          dsimp only [List.drop]
          refine G_end (X_then (G_region ?_))
          refine Gm ?_
          refine Gv (V_sub_i64 rfl rfl rfl (by omega) (by omega)) ?_
          refine Ga ?_
          refine G_end (X_then (G_seq (G_region ?_)))
          refine Gm ?_
          refine Gv (V_gtr rfl rfl rfl) ?_
          refine G_end (X_then ?_)
          rw [hm2]
          refine G.sub [(0, .slice (some ⟨b, o, none⟩) n c), (12, .int .u32 (w : Nat)), (161, .bool (decide ((0 : Int) < (k : Nat))))] ⟨rfl, rfl, rfl, trivial⟩ ?_
          exact hk (k, w, _) ⟨by simp only; omega, by simp only; omega, by simp only; omega, hB2⟩
        · refine G_cond_f rfl (decide_eq_false (by omega)) ?_
          refine G_skip (X_then (G_seq (G_region ?_)))
          refine Gm ?_
          refine Gv (V_gtr rfl rfl rfl) ?_
          refine G_end (X_then ?_)
          refine G.sub [(0, .slice (some ⟨b, o, none⟩) n c), (12, .int .u32 (v : Nat)), (161, .bool (decide ((0 : Int) < (m : Nat))))] ⟨rfl, rfl, rfl, trivial⟩ ?_
          exact hk (m, v, ds) ⟨by simp only; omega, by simp only; omega, by simp only; omega, hB⟩
      · clear hB hv hm3 hmn
        rintro ⟨m, v, ds⟩ ⟨hm1, hv, hmn, hB⟩
        simp only at hm1 hv hmn hB ⊢
        obtain rfl | rfl : m = 0 ∨ m = 1 := by omega
        · have he : ds = digF n u0 := by have := hB.eq; simpa [digF] using this
          rw [he]
          refine G_cond_f rfl (decide_eq_false (by omega)) ?_
          refine G_skip ?_
          refine G_leaveS_n (.keep _ (.nil _)) (by exact (.nil)) rfl ?_ ?_
          · exact (.refl _)
          exact ⟨(by kernel_rfl), ⟨rfl, rfl⟩⟩
        · have hv9 := hB.lt
          rw [Nat.pow_one] at hv9
          have he : dg v :: ds = digF n u0 := by have := hB.eq; rw [digF_one v hv9] at this; exact this
          clear hB
          have h48 := dg_nat hv9
          refine G_cond_t rfl (decide_eq_true (by omega)) ?_
          refine G_region ?_
          refine Gm ?_
          refine Gm ?_
          refine Gv (V_add_u32 rfl rfl rfl (by omega) (by omega)) ?_
          refine Gv (V_conv_u8 rfl rfl (by omega) (by omega)) ?_
          rw [h48]
          refine Gv (V_idxBo rfl rfl rfl (by omega) (by omega)) ?_
          refine G_storeB rfl rfl rfl rfl rfl rfl (.none rfl) (.head _ _ _) (by rw [bufV_len]; omega) ?_
          rw [bufV_put (j := o) (by omega) (by omega), he]
          refine G_end ?_
          refine G_leaveS_n (.keep _ (.nil _)) (by exact (.nil)) rfl ?_ ?_
          · exact (.refl _)
          exact ⟨(by kernel_rfl), ⟨rfl, rfl⟩⟩
end
end Go.Proofs.YtjhehanknkonnaaGreatDoor
set_option linter.unusedSimpArgs false
set_option linter.unusedVariables false
set_option maxHeartbeats 2000000
set_option maxRecDepth 20000
namespace Go.Proofs.YtjhehanknkonnaaGreatDoor
open Go.RowKit
/-! Itoa of any number from -1 to 2^40. -/
/-- The laid table goes along. -/
theorem bufV_all (o : Nat) (ds : List UInt8) (r : Nat) : bufV o ds r = List.replicate o (.int .u8 0) ++ (u8s ds ++ List.replicate r (.int .u8 0)) := rfl
theorem buf_row {E : Env} {b o r : Nat} {ds : List UInt8} (h : SlE E 1 (some ⟨b, 0, none⟩) 24 (bufV o ds r)) (hl : o + ds.length + r = 24) (ho : o = 1) (h1 : 1 ≤ ds.length) : SlE E 1 (some ⟨b, 1, none⟩) ds.length (u8s ds) := by
  subst ho
  have h2 := (h.tail (l := 1) (c := 24) (by omega) (by omega)).head (i := ds.length) (by omega)
  have e : ((bufV 1 ds r).drop (1 * 1)).take (ds.length * 1) = u8s ds := by
    have : (u8s ds).length = ds.length := by simp [u8s]
    rw [bufV_all]
    simp only [Nat.mul_one]
    rw [List.drop_left' (by simp), List.take_left' this]
  rw [e] at h2
  exact h2
theorem digF0_I {n u : Nat} (h : u < 10 ^ n) : BufI n u n u [] := ⟨by simp, h, by simp⟩
section
variable (E : Env) (L : List Res)
theorem FormatIntN_call (d : Nat) (h : 100 ≤ d ∧ d < 2199023255552) (hT : PowE E) :
    CallS Tryz.prog 120 #[.int .i64 (d : Nat), .int .i64 10] E L (fun r E' L' => r = .string (S (digN d)) ∧ L' = L) := by
  refine CallS.intro (l := [_, _]) _ Tryz.func120 rfl Tryz.ntmps120 rfl ?_
  refine G_seq (G_region ?_)
  refine Ga ?_
  refine G_end (X_then (G_seq (G_seq (G_region ?_))))
  refine Gm ?_
  refine Gv (V_eql rfl rfl rfl) ?_
  refine G_end (X_then ?_)
  refine G_cond_t rfl (by kernel_rfl) ?_
  refine G_seq (G_seq (G_region ?_))
  refine Gm ?_
  refine Gv (V_leq rfl rfl rfl) ?_
  refine Gm ?_
  refine G.bool_t 14 rfl (decide_eq_true (by omega)) ?_
  refine Gy (V_move rfl rfl) ?_
  refine Gy (V_lss rfl rfl rfl) ?_
  refine Gv (V_pick_t rfl rfl rfl) ?_
  refine G_end (X_then ?_)
  refine G_cond_f rfl (decide_eq_false (by omega)) ?_
  refine G_skip (X_then (G_seq (G_region ?_)))
  (refine G_alloc rfl rfl rfl (.none rfl) ?_; intro b5)
  refine G_end (X_then (G_seq (G_region ?_)))
  refine Gm ?_
  refine Gv (V_conv_u64 rfl rfl (by omega) (by omega)) ?_
  refine Ga ?_
  refine G_end (X_then (G_seq (G_seq (G_region ?_))))
  refine Gm ?_
  refine Gv (V_lss rfl rfl rfl) ?_
  refine G_end (X_then ?_)
  refine G_cond_f rfl (decide_eq_false (by omega)) ?_
  refine G_skip (X_then (G_seq (G_region ?_)))
  refine Gm ?_
  refine G_call (k := 135) (.mk rfl rfl rfl rfl) rfl rfl (.none rfl) (numDigits_call' _ _ d ⟨by omega, h.2⟩ hT) ?_
  rintro x1 E1 L1 hE1 ⟨⟨k, rfl, hk, hk1, hk2⟩, rfl⟩
  have hI := digF0_I hk2
  have hdg := digF_eq k d hk1 hk2
  have hfl := digF_len (k + 1) d
  clear hk1 hk2
  refine Ga ?_
  refine G_end (X_then (G_seq (G_region ?_)))
  refine Gm ?_
  refine Gv (V_add_i64 rfl rfl rfl (by omega) (by omega)) ?_
  refine Gv (V_slArrMid rfl rfl rfl rfl (by omega) (by omega) (by omega) (by omega)) ?_
  rw [show (⟨b5, 0, none⟩ : Addr).add ((1 : Int).toNat * 1) = ⟨b5, 1, none⟩ from rfl, show ((1 + ((k + 1 : Nat) : Int)).toNat - (1 : Int).toNat) = k + 1 by omega, show (24 - (1 : Int).toNat) = 23 from rfl]
  refine Gm ?_
  refine G.eqL (L' := .blk b5 (.cells (bufV (1 + (k + 1)) [] (22 - k)).toArray 155 (0, 0)) :: L) (by rw [bufV_all]; simp only [u8s, List.map_nil, List.nil_append, List.replicate_append_replicate]; rw [show 1 + (k + 1) + (22 - k) = 24 by omega]; rfl) ?_
  refine G_call (k := 136) (.mk rfl rfl rfl rfl) rfl rfl (.none rfl) (formatBase10_call' _ _ b5 1 (k + 1) (22 - k) 23 d (by omega) (by omega) (by omega) (by omega) hI) ?_
  rintro x2 E2 L2 hE2 ⟨rfl, rfl, rfl⟩
  refine G_end (X_then (G_seq (G_seq (G_region ?_))))
  refine Gm ?_
  refine Gv (V_lss rfl rfl rfl) ?_
  refine G_end (X_then ?_)
  refine G_cond_f rfl (decide_eq_false (by omega)) ?_
  refine G_skip (X_then (G_seq (G_region ?_)))
  refine Gm ?_
  refine Gv (V_add_i64 rfl rfl rfl (by omega) (by omega)) ?_
  refine Gv (V_slArrMid rfl rfl rfl rfl (by omega) (by omega) (by omega) (by omega)) ?_
  rw [show (⟨b5, 0, none⟩ : Addr).add ((1 : Int).toNat * 1) = ⟨b5, 1, none⟩ from rfl, show ((1 + ((k + 1 : Nat) : Int)).toNat - (1 : Int).toNat) = k + 1 by omega, show (24 - (1 : Int).toNat) = 23 from rfl]
  refine G.freezeB (k := 24) (sz := 1) (.head _ _) (by rw [bufV_len, digF_len]; omega) ?_
  intro E3 hE3 hz
  have hz2 := buf_row hz (by rw [hfl]; omega) rfl (by omega)
  rw [hdg] at hz2 hfl
  rw [hfl] at hz2
  refine Gv (V_b2s rfl rfl (SlE.rd hz2)) ?_
  refine Ga ?_
  refine G_end (X_then (G_ret (X_then_ret ?_)))
  refine G_leaveS (.nil _) (by exact (.cons (.tmp rfl) (.nil))) rfl ?_ ?_
  · exact (hE1.trans hE3)
  exact ⟨rfl, rfl⟩
theorem FormatIntM_call (hT : PowE E) : CallS Tryz.prog 120 #[.int .i64 (-1), .int .i64 10] E L (fun r E' L' => r = .string (S [45, 49]) ∧ L' = L) := by
  refine CallS.intro (l := [_, _]) _ Tryz.func120 rfl Tryz.ntmps120 rfl ?_
  have hw : IntKind.u64.wrap (0 - IntKind.u64.wrap (-1)) = ((1 : Nat) : Int) := rfl
  refine G_seq (G_region ?_)
  refine Ga ?_
  refine G_end (X_then (G_seq (G_seq (G_region ?_))))
  refine Gm ?_
  refine Gv (V_eql rfl rfl rfl) ?_
  refine G_end (X_then ?_)
  refine G_cond_t rfl (by kernel_rfl) ?_
  refine G_seq (G_seq (G_region ?_))
  refine Gm ?_
  refine Gv (V_leq rfl rfl rfl) ?_
  refine Gm ?_
  refine G.bool_f 14 rfl (by kernel_rfl) ?_
  refine Gn ?_
  refine Gn ?_
  refine Gv (V_pick_f rfl rfl rfl) ?_
  refine G_end (X_then ?_)
  refine G_cond_f rfl rfl ?_
  refine G_skip (X_then (G_seq (G_region ?_)))
  (refine G_alloc rfl rfl rfl (.none rfl) ?_; intro b5)
  refine G_end (X_then (G_seq (G_region ?_)))
  refine Gm ?_
  refine Gv (V_conv rfl rfl) ?_
  refine Ga ?_
  refine G_end (X_then (G_seq (G_seq (G_region ?_))))
  refine Gm ?_
  refine Gv (V_lss rfl rfl rfl) ?_
  refine G_end (X_then ?_)
  refine G_cond_t rfl (by kernel_rfl) ?_
  refine G_region ?_
  refine Gm ?_
  refine Gv (V_neg rfl rfl) ?_
  refine Ga ?_
  refine G_end (X_then (G_seq (G_region ?_)))
  refine Gm ?_
  rw [hw]
  refine G_call (k := 135) (.mk rfl rfl rfl rfl) rfl rfl (.none rfl) (numDigits_call' _ _ 1 ⟨by omega, by omega⟩ hT) ?_
  rintro x1 E1 L1 hE1 ⟨⟨k, rfl, hk, hk1, hk2⟩, rfl⟩
  obtain rfl : k = 0 := by
    rcases Nat.eq_zero_or_pos k with h | h
    · exact h
    · have : 10 ^ 1 ≤ 10 ^ k := Nat.pow_le_pow_right (by omega) h
      omega
  have hI := digF0_I hk2
  clear hk1 hk2
  refine Ga ?_
  refine G_end (X_then (G_seq (G_region ?_)))
  refine Gm ?_
  refine Gv (V_add_i64 rfl rfl rfl (by omega) (by omega)) ?_
  refine Gv (V_slArrMid rfl rfl rfl rfl (by omega) (by omega) (by omega) (by omega)) ?_
  rw [show (⟨b5, 0, none⟩ : Addr).add ((1 : Int).toNat * 1) = ⟨b5, 1, none⟩ from rfl, show ((1 + ((0 + 1 : Nat) : Int)).toNat - (1 : Int).toNat) = 0 + 1 from rfl, show (24 - (1 : Int).toNat) = 23 from rfl]
  refine Gm ?_
  refine G.eqL (L' := .blk b5 (.cells (bufV (1 + (0 + 1)) [] 22).toArray 155 (0, 0)) :: L) rfl ?_
  refine G_call (k := 136) (.mk rfl rfl rfl rfl) rfl rfl (.none rfl) (formatBase10_call' _ _ b5 1 (0 + 1) 22 23 1 (by omega) (by omega) (by omega) (by omega) hI) ?_
  rintro x2 E2 L2 hE2 ⟨rfl, rfl, rfl⟩
  refine G_end (X_then (G_seq (G_seq (G_region ?_))))
  refine Gm ?_
  refine Gv (V_lss rfl rfl rfl) ?_
  refine G_end (X_then ?_)
  refine G_cond_t rfl (by kernel_rfl) ?_
  refine G_seq (G_region ?_)
  refine Gv (V_idxAddrArr rfl rfl rfl (by omega) (by omega)) ?_
  refine G_storeAt rfl rfl rfl rfl rfl rfl (.none rfl) (.head _ _ _) (Nat.le_of_ble_eq_true rfl) (by simp only [putAll, Nat.zero_add, Nat.reduceAdd, List.setIfInBounds_toArray, List.set_cons_succ, List.set_cons_zero]; rfl) ?_
  refine G_end (X_then (G_seq (G_region ?_)))
  refine Gm ?_
  refine Gv (V_add_i64 rfl rfl rfl (by omega) (by omega)) ?_
  refine Gv (V_slArrTo rfl rfl rfl (by omega) (by omega)) ?_
  refine G.eqL (L' := .blk b5 (.cells [.int .u8 45, .int .u8 49, .int .u8 0, .int .u8 0, .int .u8 0, .int .u8 0, .int .u8 0, .int .u8 0, .int .u8 0, .int .u8 0, .int .u8 0, .int .u8 0, .int .u8 0, .int .u8 0, .int .u8 0, .int .u8 0, .int .u8 0, .int .u8 0, .int .u8 0, .int .u8 0, .int .u8 0, .int .u8 0, .int .u8 0, .int .u8 0].toArray 155 (0, 0)) :: L) rfl ?_
  skip
  refine G.freezeB (k := 24) (sz := 1) (.head _ _) rfl ?_
  intro E3 hE3 hz
  have hz2 : SlE E3 1 (some ⟨b5, 0, none⟩) 2 ([45, 49].map fun b : UInt8 => .int .u8 b.toNat) := hz.head (i := 2) (by omega)
  refine Gv (V_b2s rfl rfl (SlE.rd hz2)) ?_
  refine Ga ?_
  refine G_end (X_then (G_ret (X_then_ret (X_then_ret ?_))))
  refine G_leaveS (.nil _) (by exact (.cons (.tmp rfl) (.nil))) rfl ?_ ?_
  · exact (hE1.trans hE3)
  exact ⟨(by kernel_rfl), rfl⟩
theorem dgb_of {d : Nat} (h : d < 10) : dgb (d : Int) = UInt8.ofNat (48 + d) := by
  unfold dgb
  rw [Int.toNat_natCast]
theorem FormatIntA_call (x : Int) (h : -1 ≤ x ∧ x ≤ 1099511627776) (hT : PowE E) :
    CallS Tryz.prog 120 #[.int .i64 x, .int .i64 10] E L (fun r E' L' => r = .string (S (decI x)) ∧ L' = L) := by
  by_cases h0 : x < 0
  · obtain rfl : x = -1 := by omega
    have e : decI (-1) = [45, 49] := by decide +kernel
    rw [e]
    exact FormatIntM_call E L hT
  · obtain ⟨d, rfl⟩ : ∃ d : Nat, x = d := ⟨x.toNat, by omega⟩
    rw [decI_nat]
    by_cases h1 : d < 10
    · have := CallS.ofV (FormatInt1_call E L (d : Int) (by omega))
      rw [dgb_of h1] at this
      rw [digN_lt h1]
      refine CallS.mono this ?_
      rintro r E' L' _ ⟨rfl, rfl, rfl⟩
      exact ⟨rfl, rfl⟩
    · by_cases h2 : d < 100
      · have := CallS.ofV (FormatInt2_call E L d ⟨by omega, h2⟩)
        have e : digN d = [UInt8.ofNat (48 + d / 10), UInt8.ofNat (48 + d % 10)] := by rw [digN_ge h1, digN_lt (by omega)]; rfl
        rw [e]
        refine CallS.mono this ?_
        rintro r E' L' _ ⟨rfl, rfl, rfl⟩
        exact ⟨rfl, rfl⟩
      · exact FormatIntN_call E L d (by omega) hT
theorem ItoaA_call (x : Int) (h : -1 ≤ x ∧ x ≤ 1099511627776) (hT : PowE E) : CallS Tryz.prog 52 #[.int .i64 x] E L (fun r E' L' => r = .string (S (decI x)) ∧ L' = L) := by
  have h1 : ∀ L0, CallS Tryz.prog 90 #[.int .i64 x] E L0 (fun r E' L' => r = .string (S (decI x)) ∧ L' = L0) := fun L0 => by
    refine CallS.intro (l := [_]) _ Tryz.func90 rfl Tryz.ntmps90 rfl ?_
    refine G_seq (G_region ?_)
    refine Ga ?_
    refine G_end (X_then (G_seq (G_region ?_)))
    refine Gm ?_
    refine G_call (k := 120) (.mk rfl rfl rfl rfl) rfl rfl (.none rfl) (FormatIntA_call _ _ x h hT) ?_
    rintro x1 E1 L1 hE1 ⟨rfl, rfl⟩
    refine Ga ?_
    refine G_end (X_then (G_ret ?_))
    refine G_leaveS (.nil _) (by exact (.cons (.tmp rfl) (.nil))) rfl ?_ ?_
    · exact hE1
    exact ⟨rfl, rfl⟩
  refine CallS.intro (l := [_]) _ Tryz.func52 rfl Tryz.ntmps52 rfl ?_
  refine G_seq (G_region ?_)
  refine Ga ?_
  refine G_end (X_then (G_seq (G_region ?_)))
  refine Gm ?_
  refine G_call (k := 90) (.mk rfl rfl rfl rfl) rfl rfl (.none rfl) (h1 _) ?_
  rintro x1 E1 L1 hE1 ⟨rfl, rfl⟩
  refine Ga ?_
  refine G_end (X_then (G_ret ?_))
  refine G_leaveS (.nil _) (by exact (.cons (.tmp rfl) (.nil))) rfl ?_ ?_
  · exact hE1
  exact ⟨rfl, rfl⟩
end
end Go.Proofs.YtjhehanknkonnaaGreatDoor
set_option linter.unusedSimpArgs false
set_option linter.unusedVariables false
set_option maxHeartbeats 2000000
set_option maxRecDepth 20000
namespace Go.Proofs.YtjhehanknkonnaaGreatDoor
open Go.RowKit
/-! event.Text. -/
/-- What the row lays for texts. -/
structure LaidW (E : Env) : Prop where
  pow : PowE E
  asp : AspE E
theorem LaidW.mono {E E' : Env} (h : LaidW E) (hE : E.Le E') : LaidW E' := ⟨SlE.mono h.pow hE, SlE.mono h.asp hE⟩
def txM (e : Ev) : List UInt8 × Int := if chkE e = 0 then (evT e, 0) else ([], chkE e)
/-- The words up to the i-th field. -/
def wL (e : Ev) (i : Nat) : List (List UInt8) := evN e.k :: ((fieldsK e.k).take i).map (fieldT e)
theorem wL_succ {e : Ev} {i : Nat} {f : Int} (h : (fieldsK e.k)[i]? = some f) : wL e (i + 1) = wL e i ++ [fieldT e f] := by
  obtain ⟨h1, h2⟩ := List.getElem?_eq_some_iff.1 h
  unfold wL
  rw [List.take_succ_eq_append_getElem h1, h2, List.map_append]
  rfl
theorem wL_all (e : Ev) {i : Nat} (h : (fieldsK e.k).length ≤ i) : wL e i = wordsE e := by unfold wL wordsE; rw [List.take_of_length_le h]
theorem strs_snoc (l : List (List UInt8)) (x : List UInt8) : strs l ++ [.string (S x)] = strs (l ++ [x]) := by simp [strs]
theorem wordsE_len (e : Ev) : (wordsE e).length = (fieldsK e.k).length + 1 := by simp [wordsE]
theorem wordsE_le {e : Ev} (he : EvOk e) : ∀ i (h : i < (wordsE e).length), (wordsE e)[i].length ≤ 1000 := by
  intro i h
  have hm := List.getElem_mem h
  rcases List.mem_cons.1 hm with hm | hm
  · rw [hm]; have := (evN_no ⟨he.k1, he.k7⟩).2; omega
  · obtain ⟨f, _, hf⟩ := List.mem_map.1 hm
    rw [← hf]; have := fieldT_len he f; omega
theorem fieldsK_get {k : Int} {i : Nat} (h : i < (fieldsK k).length) : ∃ f, (fieldsK k)[i]? = some f ∧ (f = 0 ∨ f = 1 ∨ f = 2 ∨ f = 3 ∨ f = 4 ∨ f = 5) := by
  refine ⟨_, List.getElem?_eq_getElem h, ?_⟩
  have := fieldsK_mem (List.getElem_mem h)
  omega
section
variable (E : Env) (L : List Res)
theorem ItoaA_call' (x : Int) (h : -1 ≤ x ∧ x ≤ 1099511627776) (hT : LaidW E) : CallS Tryz.prog 52 #[.int .i64 x] E L (fun r E' L' => r = .string (S (decI x)) ∧ L' = L) := ItoaA_call E L x h hT.pow
theorem Name_call' (hT : LaidW E) (k : Int) (hk : 1 ≤ k ∧ k ≤ 7) : CallS Tryz.prog 20 #[.int .i64 k] E L (fun r E' L' => r = .tuple #[.string (S (evN k)), .int .i64 0] ∧ L' = L) := by
  have := Name_call E L hT.asp k
  rw [show nmM k = (evN k, 0) from if_pos hk] at this
  exact this
theorem joined_call (p : Option Addr) (n c : Nat) (xs : List (List UInt8)) (hx : SlE E 1 p n (strs xs)) (hc : n ≤ c) (h2 : 2 ≤ n) (h64 : n ≤ 64) (h1 : ∀ i (h : i < xs.length), xs[i].length ≤ 1000) : CallV Tryz.prog 55 #[.slice p n c] E L (.string (S (jnS xs))) := by
  refine CallS.toV (CallS.intro (l := [_]) _ Tryz.func55 rfl Tryz.ntmps55 rfl ?_)
  refine G_seq (G_region ?_)
  refine Ga ?_
  refine G_end (X_then (G_seq (G_region ?_)))
  refine Gm ?_
  refine G_callv (k := 91) (.mk rfl rfl rfl rfl) rfl rfl (.none rfl) (JoinN_call _ _ p n c xs hx hc h2 h64 h1) ?_
  refine Ga ?_
  refine G_end (X_then (G_ret ?_))
  refine G_leaveS (.nil _) (by exact (.cons (.tmp rfl) (.nil))) rfl ?_ ?_
  · exact (.refl _)
  exact ⟨rfl, rfl⟩
theorem EvText_call (hT : LaidW E) (k sy pr rc pl : Int) (tx : List UInt8) (er : Int) : CallS Tryz.prog 16 #[.agg #[.int .i64 k, .int .i64 sy, .int .i64 pr, .int .i64 rc, .int .i64 pl, .string (S tx), .int .i64 er]] E L (fun r E' L' => r = .tuple #[.string (S (txM (k, sy, pr, rc, pl, tx, er)).1), .int .i64 (txM (k, sy, pr, rc, pl, tx, er)).2] ∧ L' = L) := by
  unfold txM
  refine CallS.intro (l := [_]) _ Tryz.func16 rfl Tryz.ntmps16 rfl ?_
  refine G_seq (G_region ?_)
  (refine G_boxA rfl rfl rfl rfl (.none rfl) ?_; intro b1)
  refine Ga ?_
  refine Ga ?_
  refine G_end (X_then (G_seq (G_seq (G_region ?_))))
  refine Gv (V_loadA rfl rfl (Cells.own (.head _)) rfl) ?_
  refine G_call (k := 12) (.mk rfl rfl rfl rfl) rfl rfl (.none rfl) (EvCheck_call _ _ k sy pr rc pl tx er) ?_
  rintro x1 E1 L1 hE1 ⟨rfl, rfl⟩
  replace hT := hT.mono hE1
  by_cases hc : chkE (k, sy, pr, rc, pl, tx, er) = 0
  · rw [if_pos hc]
    have hok := ev_ok hc
    have k1 : 1 ≤ k := hok.k1
    have k7 : k ≤ 7 := hok.k7
    have s0 : -1 ≤ sy := hok.s0
    have s1 : sy < 24 := hok.s1
    have p0 : 0 ≤ pr := hok.p0
    have p1 : pr < 24 := hok.p1
    have r0 : 0 ≤ rc := hok.r0
    have r1 : rc ≤ 1099511627776 := hok.r1
    have l0 : 0 ≤ pl := hok.l0
    have l1 : pl ≤ 1099511627776 := hok.l1
    have t1 : tx.length ≤ 24 := hok.t
    have e0 : 0 ≤ er := hok.e0
    have e1 : er ≤ 26 := hok.e1
    rw [hc]
    refine Ga ?_
    refine G_end (X_then (G_seq (G_region ?_)))
    refine Gm ?_
    refine Gv (V_neq rfl rfl rfl) ?_
    refine G_end (X_then ?_)
    refine G_cond_f rfl (by kernel_rfl) ?_
    refine G_skip (X_then (G_seq (G_region ?_)))
    refine Gv (V_fieldAddr rfl rfl (by decide)) ?_
    refine Gv (V_load rfl rfl (Cell.own (.head _) rfl)) ?_
    refine G_call (k := 20) (.mk rfl rfl rfl rfl) rfl rfl (.none rfl) (Name_call' _ _ hT k ⟨k1, k7⟩) ?_
    rintro x2 E2 L2 hE2 ⟨rfl, rfl⟩
    replace hT := hT.mono hE2
    refine Gm ?_
    refine Gv (V_extract rfl rfl rfl) ?_
    refine Gv (V_extract rfl rfl rfl) ?_
    refine Ga ?_
    refine Ga ?_
    refine G_end (X_then (G_seq (G_region ?_)))
    refine Gm ?_
    (refine G_lit1 rfl rfl rfl rfl rfl (.none rfl) ?_; intro b23)
    refine Ga ?_
    refine G_end (X_then (G_seq (G_seq (G_region ?_))))
    refine Gv (V_fieldAddr rfl rfl (by decide)) ?_
    refine Gv (V_load rfl rfl (Cell.own (.tail _ (.head _)) rfl)) ?_
    refine G_call (k := 34) (.mk rfl rfl rfl rfl) rfl rfl (.none rfl) (fields_call' _ _ k) ?_
    rintro x3 E3 L3 hE3 ⟨⟨⟨fa, fc, rfl, hs, hnil, hfc⟩⟩, rfl⟩
    replace hT := hT.mono hE3
    have hfl := fieldsK_len k
    refine Gv (V_lenS rfl rfl) ?_
    refine Gm ?_
    refine G_end (X_then (G_block ?_))
    refine G.blkSl (k := 1) (sz := 1) rfl (by decide) ?_
    refine G_loop (α := Nat × Env × Option Addr × Nat) (fun x => [(1, .pointer (some ⟨b1, 0, none⟩)), (7, .slice x.2.2.1 (x.1 + 1) x.2.2.2), (26, .slice fa (fieldsK k).length fc), (27, .int .i64 (fieldsK k).length), (28, .int .i64 (x.1 : Nat))]) (fun x => x.2.1)
      (fun x => .sl 9 1 x.2.2.1 (x.1 + 1) x.2.2.2 (strs (wL (k, sy, pr, rc, pl, tx, er) x.1)) :: .blk b1 (.cells #[.int .i64 k, .int .i64 sy, .int .i64 pr, .int .i64 rc, .int .i64 pl, .string (S tx), .int .i64 er] 28 (0, 0)) :: L) (fun x => x.1 ≤ (fieldsK k).length ∧ E3.Le x.2.1) (fun x => (fieldsK k).length - x.1) (0, E3, some ⟨b23, 0, none⟩, 1) ⟨Nat.zero_le _, .refl _⟩ ⟨rfl, rfl, rfl, rfl, rfl, trivial⟩ rfl rfl ?_
    rintro ⟨i, E4, a, ca⟩ ⟨hi, hE4⟩
    simp only at hi hE4 ⊢
    replace hs := hs.mono hE4
    replace hT := hT.mono hE4
    by_cases hlt : i < (fieldsK k).length
    · obtain ⟨f, hf, hfv⟩ := fieldsK_get hlt
      have hx := i64s_get hf
      have hw := wL_succ (e := (k, sy, pr, rc, pl, tx, er)) hf
      have hsn := strs_snoc (wL (k, sy, pr, rc, pl, tx, er) i) (fieldT (k, sy, pr, rc, pl, tx, er) f)
      rw [← hw] at hsn
      clear hw
      rcases hfv with rfl | rfl | rfl | rfl | rfl | rfl
      · have hsn2 : strs (wL (k, sy, pr, rc, pl, tx, er) i) ++ [.string (S (decI rc))] = strs (wL (k, sy, pr, rc, pl, tx, er) (i + 1)) := hsn
        clear hsn
        refine G_seq (G_region ?_)
        refine Gv (V_lss rfl rfl rfl) ?_
        refine G_end (X_then (G_seq ?_))
        refine G_cond_t rfl (decide_eq_true (by omega)) ?_
        refine G_skip (X_then (G_seq (G_block (G_seq (G_region ?_)))))
        refine Gv (V_idxAddr rfl rfl rfl (SlE.rd (by assumption)) (by omega) (by omega)) ?_
        refine Gv (V_loadS rfl rfl (SlE.rd (by assumption)) (by assumption) (by simp)) ?_
        refine Ga ?_
        refine G_end (X_then (G_seq (G_region ?_)))
        refine Ga ?_
        refine G_end (X_then (G_seq (G_seq (G_region ?_))))
        refine Gm ?_
        refine G_end (X_then (G_block (G_seq (G_region ?_))))
        refine Gv (V_eql rfl rfl rfl) ?_
        refine Ga ?_
        refine G_end (X_then ?_)
        refine G_cond_t rfl (by kernel_rfl) ?_
        refine G_region ?_
        refine Gv (V_fieldAddr rfl rfl (by decide)) ?_
        refine Gv (V_load rfl rfl (Cell.own (.tail _ (.head _)) rfl)) ?_
        refine G_call (k := 52) (.mk rfl rfl rfl rfl) rfl rfl (.none rfl) (ItoaA_call' _ _ rc ⟨by omega, r1⟩ hT) ?_
        rintro x5 E5 L5 hE5 ⟨rfl, rfl⟩
        refine Ga ?_
        refine G_end (X_block (X_then (G_region ?_)))
        refine Gm ?_
        refine Gm ?_
        (refine G_lit1 rfl rfl rfl rfl rfl (.none rfl) ?_; intro b65)
        (refine G_append rfl rfl rfl (Rd.lit (.head _) rfl) (by simp [Value.oneCell']) (by omega) (by omega) rfl rfl (.none rfl) (fun _ _ => (.tail _ (.head _ _ _))) ?_; intro a66 c66; refine G.rm (.head _ _) ?_)
        refine Ga ?_
        refine G_end (X_block (X_then (G_region ?_)))
        refine Gv (V_add_i64 rfl rfl rfl (by omega) (by omega)) ?_
        refine Gm ?_
        refine G_end (X_then ?_)
        rw [hsn2]
        exact G_again (i + 1, E5, a66, c66) ⟨hlt, hE4.trans hE5⟩ (by simp only; omega) ⟨rfl, rfl, rfl, rfl, rfl, trivial⟩ rfl rfl
      · have hsn2 : strs (wL (k, sy, pr, rc, pl, tx, er) i) ++ [.string (S (decI sy))] = strs (wL (k, sy, pr, rc, pl, tx, er) (i + 1)) := hsn
        clear hsn
        refine G_seq (G_region ?_)
        refine Gv (V_lss rfl rfl rfl) ?_
        refine G_end (X_then (G_seq ?_))
        refine G_cond_t rfl (decide_eq_true (by omega)) ?_
        refine G_skip (X_then (G_seq (G_block (G_seq (G_region ?_)))))
        refine Gv (V_idxAddr rfl rfl rfl (SlE.rd (by assumption)) (by omega) (by omega)) ?_
        refine Gv (V_loadS rfl rfl (SlE.rd (by assumption)) (by assumption) (by simp)) ?_
        refine Ga ?_
        refine G_end (X_then (G_seq (G_region ?_)))
        refine Ga ?_
        refine G_end (X_then (G_seq (G_seq (G_region ?_))))
        refine Gm ?_
        refine G_end (X_then (G_block (G_seq (G_region ?_))))
        refine Gv (V_eql rfl rfl rfl) ?_
        refine Ga ?_
        refine G_end (X_then ?_)
        refine G_cond_f rfl (by kernel_rfl) ?_
        refine G_seq (G_region ?_)
        refine Gv (V_eql rfl rfl rfl) ?_
        refine Ga ?_
        refine G_end (X_then ?_)
        refine G_cond_t rfl (by kernel_rfl) ?_
        refine G_region ?_
        refine Gv (V_fieldAddr rfl rfl (by decide)) ?_
        refine Gv (V_load rfl rfl (Cell.own (.tail _ (.head _)) rfl)) ?_
        refine G_call (k := 52) (.mk rfl rfl rfl rfl) rfl rfl (.none rfl) (ItoaA_call' _ _ sy ⟨s0, by omega⟩ hT) ?_
        rintro x5 E5 L5 hE5 ⟨rfl, rfl⟩
        refine Ga ?_
        refine G_end (X_block (X_then (G_region ?_)))
        refine Gm ?_
        refine Gm ?_
        (refine G_lit1 rfl rfl rfl rfl rfl (.none rfl) ?_; intro b65)
        (refine G_append rfl rfl rfl (Rd.lit (.head _) rfl) (by simp [Value.oneCell']) (by omega) (by omega) rfl rfl (.none rfl) (fun _ _ => (.tail _ (.head _ _ _))) ?_; intro a66 c66; refine G.rm (.head _ _) ?_)
        refine Ga ?_
        refine G_end (X_block (X_then (G_region ?_)))
        refine Gv (V_add_i64 rfl rfl rfl (by omega) (by omega)) ?_
        refine Gm ?_
        refine G_end (X_then ?_)
        rw [hsn2]
        exact G_again (i + 1, E5, a66, c66) ⟨hlt, hE4.trans hE5⟩ (by simp only; omega) ⟨rfl, rfl, rfl, rfl, rfl, trivial⟩ rfl rfl
      · have hsn2 : strs (wL (k, sy, pr, rc, pl, tx, er) i) ++ [.string (S (decI pr))] = strs (wL (k, sy, pr, rc, pl, tx, er) (i + 1)) := hsn
        clear hsn
        refine G_seq (G_region ?_)
        refine Gv (V_lss rfl rfl rfl) ?_
        refine G_end (X_then (G_seq ?_))
        refine G_cond_t rfl (decide_eq_true (by omega)) ?_
        refine G_skip (X_then (G_seq (G_block (G_seq (G_region ?_)))))
        refine Gv (V_idxAddr rfl rfl rfl (SlE.rd (by assumption)) (by omega) (by omega)) ?_
        refine Gv (V_loadS rfl rfl (SlE.rd (by assumption)) (by assumption) (by simp)) ?_
        refine Ga ?_
        refine G_end (X_then (G_seq (G_region ?_)))
        refine Ga ?_
        refine G_end (X_then (G_seq (G_seq (G_region ?_))))
        refine Gm ?_
        refine G_end (X_then (G_block (G_seq (G_region ?_))))
        refine Gv (V_eql rfl rfl rfl) ?_
        refine Ga ?_
        refine G_end (X_then ?_)
        refine G_cond_f rfl (by kernel_rfl) ?_
        refine G_seq (G_region ?_)
        refine Gv (V_eql rfl rfl rfl) ?_
        refine Ga ?_
        refine G_end (X_then ?_)
        refine G_cond_f rfl (by kernel_rfl) ?_
        refine G_seq (G_region ?_)
        refine Gv (V_eql rfl rfl rfl) ?_
        refine Ga ?_
        refine G_end (X_then ?_)
        refine G_cond_t rfl (by kernel_rfl) ?_
        refine G_region ?_
        refine Gv (V_fieldAddr rfl rfl (by decide)) ?_
        refine Gv (V_load rfl rfl (Cell.own (.tail _ (.head _)) rfl)) ?_
        refine G_call (k := 52) (.mk rfl rfl rfl rfl) rfl rfl (.none rfl) (ItoaA_call' _ _ pr ⟨by omega, by omega⟩ hT) ?_
        rintro x5 E5 L5 hE5 ⟨rfl, rfl⟩
        refine Ga ?_
        refine G_end (X_block (X_then (G_region ?_)))
        refine Gm ?_
        refine Gm ?_
        (refine G_lit1 rfl rfl rfl rfl rfl (.none rfl) ?_; intro b65)
        (refine G_append rfl rfl rfl (Rd.lit (.head _) rfl) (by simp [Value.oneCell']) (by omega) (by omega) rfl rfl (.none rfl) (fun _ _ => (.tail _ (.head _ _ _))) ?_; intro a66 c66; refine G.rm (.head _ _) ?_)
        refine Ga ?_
        refine G_end (X_block (X_then (G_region ?_)))
        refine Gv (V_add_i64 rfl rfl rfl (by omega) (by omega)) ?_
        refine Gm ?_
        refine G_end (X_then ?_)
        rw [hsn2]
        exact G_again (i + 1, E5, a66, c66) ⟨hlt, hE4.trans hE5⟩ (by simp only; omega) ⟨rfl, rfl, rfl, rfl, rfl, trivial⟩ rfl rfl
      · have hsn2 : strs (wL (k, sy, pr, rc, pl, tx, er) i) ++ [.string (S (hexT tx))] = strs (wL (k, sy, pr, rc, pl, tx, er) (i + 1)) := hsn
        clear hsn
        refine G_seq (G_region ?_)
        refine Gv (V_lss rfl rfl rfl) ?_
        refine G_end (X_then (G_seq ?_))
        refine G_cond_t rfl (decide_eq_true (by omega)) ?_
        refine G_skip (X_then (G_seq (G_block (G_seq (G_region ?_)))))
        refine Gv (V_idxAddr rfl rfl rfl (SlE.rd (by assumption)) (by omega) (by omega)) ?_
        refine Gv (V_loadS rfl rfl (SlE.rd (by assumption)) (by assumption) (by simp)) ?_
        refine Ga ?_
        refine G_end (X_then (G_seq (G_region ?_)))
        refine Ga ?_
        refine G_end (X_then (G_seq (G_seq (G_region ?_))))
        refine Gm ?_
        refine G_end (X_then (G_block (G_seq (G_region ?_))))
        refine Gv (V_eql rfl rfl rfl) ?_
        refine Ga ?_
        refine G_end (X_then ?_)
        refine G_cond_f rfl (by kernel_rfl) ?_
        refine G_seq (G_region ?_)
        refine Gv (V_eql rfl rfl rfl) ?_
        refine Ga ?_
        refine G_end (X_then ?_)
        refine G_cond_f rfl (by kernel_rfl) ?_
        refine G_seq (G_region ?_)
        refine Gv (V_eql rfl rfl rfl) ?_
        refine Ga ?_
        refine G_end (X_then ?_)
        refine G_cond_f rfl (by kernel_rfl) ?_
        refine G_seq (G_region ?_)
        refine Gv (V_eql rfl rfl rfl) ?_
        refine Ga ?_
        refine G_end (X_then ?_)
        refine G_cond_t rfl (by kernel_rfl) ?_
        refine G_region ?_
        refine Gv (V_fieldAddr rfl rfl (by decide)) ?_
        refine Gv (V_load rfl rfl (Cell.own (.tail _ (.head _)) rfl)) ?_
        refine G_call (k := 53) (.mk rfl rfl rfl rfl) rfl rfl (.none rfl) (hex_call _ _ tx (by omega)) ?_
        rintro x5 E5 L5 hE5 ⟨rfl, rfl⟩
        refine Ga ?_
        refine G_end (X_block (X_then (G_region ?_)))
        refine Gm ?_
        refine Gm ?_
        (refine G_lit1 rfl rfl rfl rfl rfl (.none rfl) ?_; intro b65)
        (refine G_append rfl rfl rfl (Rd.lit (.head _) rfl) (by simp [Value.oneCell']) (by omega) (by omega) rfl rfl (.none rfl) (fun _ _ => (.tail _ (.head _ _ _))) ?_; intro a66 c66; refine G.rm (.head _ _) ?_)
        refine Ga ?_
        refine G_end (X_block (X_then (G_region ?_)))
        refine Gv (V_add_i64 rfl rfl rfl (by omega) (by omega)) ?_
        refine Gm ?_
        refine G_end (X_then ?_)
        rw [hsn2]
        exact G_again (i + 1, E5, a66, c66) ⟨hlt, hE4.trans hE5⟩ (by simp only; omega) ⟨rfl, rfl, rfl, rfl, rfl, trivial⟩ rfl rfl
      · have hsn2 : strs (wL (k, sy, pr, rc, pl, tx, er) i) ++ [.string (S (errName er))] = strs (wL (k, sy, pr, rc, pl, tx, er) (i + 1)) := hsn
        clear hsn
        refine G_seq (G_region ?_)
        refine Gv (V_lss rfl rfl rfl) ?_
        refine G_end (X_then (G_seq ?_))
        refine G_cond_t rfl (decide_eq_true (by omega)) ?_
        refine G_skip (X_then (G_seq (G_block (G_seq (G_region ?_)))))
        refine Gv (V_idxAddr rfl rfl rfl (SlE.rd (by assumption)) (by omega) (by omega)) ?_
        refine Gv (V_loadS rfl rfl (SlE.rd (by assumption)) (by assumption) (by simp)) ?_
        refine Ga ?_
        refine G_end (X_then (G_seq (G_region ?_)))
        refine Ga ?_
        refine G_end (X_then (G_seq (G_seq (G_region ?_))))
        refine Gm ?_
        refine G_end (X_then (G_block (G_seq (G_region ?_))))
        refine Gv (V_eql rfl rfl rfl) ?_
        refine Ga ?_
        refine G_end (X_then ?_)
        refine G_cond_f rfl (by kernel_rfl) ?_
        refine G_seq (G_region ?_)
        refine Gv (V_eql rfl rfl rfl) ?_
        refine Ga ?_
        refine G_end (X_then ?_)
        refine G_cond_f rfl (by kernel_rfl) ?_
        refine G_seq (G_region ?_)
        refine Gv (V_eql rfl rfl rfl) ?_
        refine Ga ?_
        refine G_end (X_then ?_)
        refine G_cond_f rfl (by kernel_rfl) ?_
        refine G_seq (G_region ?_)
        refine Gv (V_eql rfl rfl rfl) ?_
        refine Ga ?_
        refine G_end (X_then ?_)
        refine G_cond_f rfl (by kernel_rfl) ?_
        refine G_seq (G_region ?_)
        refine Gv (V_eql rfl rfl rfl) ?_
        refine Ga ?_
        refine G_end (X_then ?_)
        refine G_cond_t rfl (by kernel_rfl) ?_
        refine G_region ?_
        refine Gv (V_fieldAddr rfl rfl (by decide)) ?_
        refine Gv (V_load rfl rfl (Cell.own (.tail _ (.head _)) rfl)) ?_
        refine G_callv (k := 54) (.mk rfl rfl rfl rfl) rfl rfl (.none rfl) (ErrName_call _ _ er (by omega)) ?_
        refine Ga ?_
        refine G_end (X_block (X_then (G_region ?_)))
        refine Gm ?_
        refine Gm ?_
        (refine G_lit1 rfl rfl rfl rfl rfl (.none rfl) ?_; intro b65)
        (refine G_append rfl rfl rfl (Rd.lit (.head _) rfl) (by simp [Value.oneCell']) (by omega) (by omega) rfl rfl (.none rfl) (fun _ _ => (.tail _ (.head _ _ _))) ?_; intro a66 c66; refine G.rm (.head _ _) ?_)
        refine Ga ?_
        refine G_end (X_block (X_then (G_region ?_)))
        refine Gv (V_add_i64 rfl rfl rfl (by omega) (by omega)) ?_
        refine Gm ?_
        refine G_end (X_then ?_)
        rw [hsn2]
        exact G_again (i + 1, E4, a66, c66) ⟨hlt, hE4⟩ (by simp only; omega) ⟨rfl, rfl, rfl, rfl, rfl, trivial⟩ rfl rfl
      · have hsn2 : strs (wL (k, sy, pr, rc, pl, tx, er) i) ++ [.string (S (decI pl))] = strs (wL (k, sy, pr, rc, pl, tx, er) (i + 1)) := hsn
        clear hsn
        refine G_seq (G_region ?_)
        refine Gv (V_lss rfl rfl rfl) ?_
        refine G_end (X_then (G_seq ?_))
        refine G_cond_t rfl (decide_eq_true (by omega)) ?_
        refine G_skip (X_then (G_seq (G_block (G_seq (G_region ?_)))))
        refine Gv (V_idxAddr rfl rfl rfl (SlE.rd (by assumption)) (by omega) (by omega)) ?_
        refine Gv (V_loadS rfl rfl (SlE.rd (by assumption)) (by assumption) (by simp)) ?_
        refine Ga ?_
        refine G_end (X_then (G_seq (G_region ?_)))
        refine Ga ?_
        refine G_end (X_then (G_seq (G_seq (G_region ?_))))
        refine Gm ?_
        refine G_end (X_then (G_block (G_seq (G_region ?_))))
        refine Gv (V_eql rfl rfl rfl) ?_
        refine Ga ?_
        refine G_end (X_then ?_)
        refine G_cond_f rfl (by kernel_rfl) ?_
        refine G_seq (G_region ?_)
        refine Gv (V_eql rfl rfl rfl) ?_
        refine Ga ?_
        refine G_end (X_then ?_)
        refine G_cond_f rfl (by kernel_rfl) ?_
        refine G_seq (G_region ?_)
        refine Gv (V_eql rfl rfl rfl) ?_
        refine Ga ?_
        refine G_end (X_then ?_)
        refine G_cond_f rfl (by kernel_rfl) ?_
        refine G_seq (G_region ?_)
        refine Gv (V_eql rfl rfl rfl) ?_
        refine Ga ?_
        refine G_end (X_then ?_)
        refine G_cond_f rfl (by kernel_rfl) ?_
        refine G_seq (G_region ?_)
        refine Gv (V_eql rfl rfl rfl) ?_
        refine Ga ?_
        refine G_end (X_then ?_)
        refine G_cond_f rfl (by kernel_rfl) ?_
        refine G_seq (G_region ?_)
        refine Gv (V_eql rfl rfl rfl) ?_
        refine Ga ?_
        refine G_end (X_then ?_)
        refine G_cond_t rfl (by kernel_rfl) ?_
        refine G_region ?_
        refine Gv (V_fieldAddr rfl rfl (by decide)) ?_
        refine Gv (V_load rfl rfl (Cell.own (.tail _ (.head _)) rfl)) ?_
        refine G_call (k := 52) (.mk rfl rfl rfl rfl) rfl rfl (.none rfl) (ItoaA_call' _ _ pl ⟨by omega, l1⟩ hT) ?_
        rintro x5 E5 L5 hE5 ⟨rfl, rfl⟩
        refine Ga ?_
        refine G_end (X_block (X_then (G_region ?_)))
        refine Gm ?_
        refine Gm ?_
        (refine G_lit1 rfl rfl rfl rfl rfl (.none rfl) ?_; intro b65)
        (refine G_append rfl rfl rfl (Rd.lit (.head _) rfl) (by simp [Value.oneCell']) (by omega) (by omega) rfl rfl (.none rfl) (fun _ _ => (.tail _ (.head _ _ _))) ?_; intro a66 c66; refine G.rm (.head _ _) ?_)
        refine Ga ?_
        refine G_end (X_block (X_then (G_region ?_)))
        refine Gv (V_add_i64 rfl rfl rfl (by omega) (by omega)) ?_
        refine Gm ?_
        refine G_end (X_then ?_)
        rw [hsn2]
        exact G_again (i + 1, E5, a66, c66) ⟨hlt, hE4.trans hE5⟩ (by simp only; omega) ⟨rfl, rfl, rfl, rfl, rfl, trivial⟩ rfl rfl
    · obtain rfl : i = (fieldsK k).length := by omega
      have hwl := wordsE_len (k, sy, pr, rc, pl, tx, er)
      have h2 : 1 ≤ (fieldsK k).length := by
        have h3 := (chkE_ok.1 hc).1
        exact List.length_pos_iff.2 h3
      have hle := wordsE_le hok
      rw [show wL (k, sy, pr, rc, pl, tx, er) (fieldsK k).length = wordsE (k, sy, pr, rc, pl, tx, er) from wL_all _ (Nat.le_refl _)]
      rw [show evT (k, sy, pr, rc, pl, tx, er) = jnS (wordsE (k, sy, pr, rc, pl, tx, er)) from rfl]
      refine G.freezeSl (.head _ _) ?_
      intro E6 hE6 hj hjc
      generalize wordsE (k, sy, pr, rc, pl, tx, er) = ws at *
      generalize (fieldsK k).length = m at *
      refine G_seq (G_region ?_)
      refine Gv (V_lss rfl rfl rfl) ?_
      refine G_end (X_then (G_seq ?_))
      refine G_cond_f rfl (decide_eq_false (by omega)) ?_
      refine G_exit (X_then_exit (X_then_exit (X_block_hit (X_then (G_seq (G_region ?_))))))
      refine Gm ?_
      refine G_callv (k := 55) (.mk rfl rfl rfl rfl) rfl rfl (.none rfl) (joined_call _ _ a _ ca ws hj hjc (by omega) (by omega) hle) ?_
      refine Ga ?_
      refine Ga ?_
      refine G_end (X_then (G_ret ?_))
      refine G_leaveS (.drop _ (.nil _)) (by exact (.cons (.tmp rfl) (.cons (.tmp rfl) (.nil)))) rfl ?_ ?_
      · exact ((((hE1.trans hE2).trans hE3).trans hE4).trans hE6)
      exact ⟨rfl, rfl⟩
  · rw [if_neg hc]
    refine Ga ?_
    refine G_end (X_then (G_seq (G_region ?_)))
    refine Gm ?_
    refine Gv (V_neq rfl rfl rfl) ?_
    refine G_end (X_then ?_)
    refine G_cond_t rfl (decide_eq_true (by omega)) ?_
    refine G_seq (G_region ?_)
    refine Gm ?_
    refine Ga ?_
    refine Ga ?_
    refine G_end (X_then (G_ret (X_then_ret ?_)))
    refine G_leaveS (.drop _ (.nil _)) (by exact (.cons (.tmp rfl) (.cons (.tmp rfl) (.nil)))) rfl ?_ ?_
    · exact hE1
    exact ⟨rfl, rfl⟩
end
end Go.Proofs.YtjhehanknkonnaaGreatDoor
set_option linter.unusedSimpArgs false
set_option linter.unusedVariables false
set_option maxHeartbeats 2000000
set_option maxRecDepth 20000
namespace Go.Proofs.YtjhehanknkonnaaGreatDoor
open Go.RowKit
/-! event.Bytes: the walk. -/
abbrev wrM : List (Int × Value) := [(0, .func (.func 81) #[] #[]), (1, .func (.func 82) #[] #[]), (2, .func (.func 83) #[] #[]), (3, .func (.func 84) #[] #[]), (4, .func (.func 85) #[] #[]), (5, .func (.func 86) #[] #[])]
section
variable (E : Env) (L : List Res)
theorem writers_call : CallS Tryz.prog 45 #[] E L (fun r E' L' => ∃ b, r = .map (some b) ∧ E = E' ∧ L' = .blk b (mobj kI wrM) :: L) := by
  refine CallS.intro (l := []) _ Tryz.func45 rfl Tryz.ntmps45 rfl ?_
  refine G_seq (G_region ?_)
  refine Ga ?_
  refine G_end (X_then (G_seq (G_region ?_)))
  (refine G_makeMap kI rfl rfl rfl (.none rfl) ?_; intro b1)
  refine G_mapUpdate kI _ (.inr rfl) rfl rfl rfl rfl (.none rfl) (.head _ _ _) ?_
  refine G_mapUpdate kI _ (.inr rfl) rfl rfl rfl rfl (.none rfl) (.head _ _ _) ?_
  refine G_mapUpdate kI _ (.inr rfl) rfl rfl rfl rfl (.none rfl) (.head _ _ _) ?_
  refine G_mapUpdate kI _ (.inr rfl) rfl rfl rfl rfl (.none rfl) (.head _ _ _) ?_
  refine G_mapUpdate kI _ (.inr rfl) rfl rfl rfl rfl (.none rfl) (.head _ _ _) ?_
  refine G_mapUpdate kI _ (.inr rfl) rfl rfl rfl rfl (.none rfl) (.head _ _ _) ?_
  refine Gm ?_
  refine Ga ?_
  refine G_end (X_then (G_ret ?_))
  refine G_leaveS (.keep _ (.nil _)) (by exact (.cons (.tmp rfl) (.nil))) rfl ?_ ?_
  · exact (.refl _)
  exact ⟨_, ⟨rfl, ⟨rfl, rfl⟩⟩⟩
theorem DoneI_call (s : List UInt8) (e : Int) (he : e = 0) (h2 : s.length ≤ 1000) : CallV Tryz.prog 46 #[.agg #[.string (S s), .int .i64 20000, .int .i64 e]] E L (.tuple #[.string (S s), .int .i64 0]) := Done_call' E L s 20000 (by decide) (by decide) e he (by omega)
theorem MakeI_call : CallV Tryz.prog 44 #[.int .i64 20000] E L (.agg #[.string (S []), .int .i64 20000, .int .i64 0]) := Make_call' E L 20000 (by decide) (by decide)
theorem EvBytes_call (k sy pr rc pl : Int) (tx : List UInt8) (er : Int) : CallS Tryz.prog 14 #[.agg #[.int .i64 k, .int .i64 sy, .int .i64 pr, .int .i64 rc, .int .i64 pl, .string (S tx), .int .i64 er]] E L (fun r E' L' => r = .tuple #[.string (S (byM (k, sy, pr, rc, pl, tx, er)).1), .int .i64 (byM (k, sy, pr, rc, pl, tx, er)).2] ∧ L' = L) := by
  unfold byM
  refine CallS.intro (l := [_]) _ Tryz.func14 rfl Tryz.ntmps14 rfl ?_
  refine G_seq (G_region ?_)
  (refine G_boxA rfl rfl rfl rfl (.none rfl) ?_; intro b1)
  refine Ga ?_
  refine Ga ?_
  refine G_end (X_then (G_seq (G_seq (G_region ?_))))
  refine Gv (V_loadA rfl rfl (Cells.own (.head _)) rfl) ?_
  refine G_call (k := 12) (.mk rfl rfl rfl rfl) rfl rfl (.none rfl) (EvCheck_call _ _ k sy pr rc pl tx er) ?_
  rintro x1 E1 L1 hE1 ⟨rfl, rfl⟩
  by_cases hc : chkE (k, sy, pr, rc, pl, tx, er) = 0
  · rw [if_pos hc, hc]
    have hok := ev_ok hc
    have k1 : 1 ≤ k := hok.k1
    have k7 : k ≤ 7 := hok.k7
    have s0 : -1 ≤ sy := hok.s0
    have s1 : sy < 24 := hok.s1
    have p0 : 0 ≤ pr := hok.p0
    have p1 : pr < 24 := hok.p1
    have r0 : 0 ≤ rc := hok.r0
    have r1 : rc ≤ 1099511627776 := hok.r1
    have l0 : 0 ≤ pl := hok.l0
    have l1 : pl ≤ 1099511627776 := hok.l1
    have t1 : tx.length ≤ 24 := hok.t
    have e0 : 0 ≤ er := hok.e0
    have e1 : er ≤ 26 := hok.e1
    refine Ga ?_
    refine G_end (X_then (G_seq (G_region ?_)))
    refine Gm ?_
    refine Gv (V_neq rfl rfl rfl) ?_
    refine G_end (X_then ?_)
    refine G_cond_f rfl (by kernel_rfl) ?_
    refine G_skip (X_then (G_seq ?_))
    refine G_drawX 9 [(1, 0), (2, 1), (3, 0), (5, 1), (0, 3), (4, 3), (6, 0), (7, 2), (8, 0)] mixed (by kernel_rfl) ?_
    refine F_pure rfl (fun _ _ => V_fieldAddr rfl rfl (by decide)) rfl rfl (.none rfl) ?_
    refine F_load rfl (.head _) (V_load rfl rfl (Cell.own (.head _) rfl)) rfl rfl (.none rfl) ?_
    refine F_pure rfl (fun _ _ => V_conv_u64 rfl rfl (by omega) (by omega)) rfl rfl (.none rfl) ?_
    refine F_load rfl (.head _) (V_loadA rfl rfl (Cells.own (.head _)) rfl) rfl rfl (.none rfl) ?_
    refine F_callv (k := 44) rfl (.mk rfl rfl rfl rfl) rfl rfl (.none rfl) (fun _ => MakeI_call _ _) ?_
    refine F_callv (k := 43) rfl (.mk rfl rfl rfl rfl) rfl rfl (.none rfl) (fun _ => PutI_call _ _ _ _ _ (by omega) (by omega) (by omega) (by (simp; done))) ?_
    refine F_pure rfl (fun _ _ => V_build rfl rfl (by simp [fillV, setLs, setL, Value.cells]; rfl)) rfl rfl (.none rfl) ?_
    (refine F_boxA rfl rfl rfl rfl rfl (.none rfl) ?_; intro b21)
    refine F_pure rfl (fun _ _ => V_assign rfl rfl) rfl rfl (.none rfl) ?_
    (refine F_end (.nil _) ?_; dsimp only [List.drop])
    refine G_end (X_then (G_seq (G_region ?_)))
    refine G_call (k := 45) (.mk rfl rfl rfl rfl) rfl rfl (.none rfl) (writers_call _ _) ?_
    rintro r2 E3 L4 hE5 ⟨z6, ⟨rfl, ⟨rfl, rfl⟩⟩⟩
    refine Ga ?_
    refine G_end (X_then (G_seq (G_seq (G_region ?_))))
    refine Gv (V_fieldAddr rfl rfl (by decide)) ?_
    refine Gv (V_load rfl rfl (Cell.own (.tail _ (.tail _ (.head _))) rfl)) ?_
    refine G_call (k := 34) (.mk rfl rfl rfl rfl) rfl rfl (.none rfl) (fields_call' _ _ _) ?_
    rintro r7 E8 L9 hE10 ⟨Z11, rfl⟩
    obtain ⟨⟨fa, fc, rfl, hs, hnil, hfc⟩⟩ := (by assumption : FldR k E8 r7)
    have hfl := fieldsK_len k
    have h00 : vbytes k.toNat = bL (k, sy, pr, rc, pl, tx, er) 0 := by simp [bL]
    rw [h00]
    refine G.front (.tail _ (.head _ _)) ?_
    refine Gv (V_lenS rfl rfl) ?_
    refine Gm ?_
    refine G_end (X_then (G_block ?_))
    refine G_loop (α := Nat × Env) (fun x => [(5, .pointer (some ⟨b21, 0, none⟩)), (6, .map (some z6)), (25, .slice fa (fieldsK k).length fc), (26, .int .i64 (fieldsK k).length), (27, .int .i64 (x.1 : Nat))]) (fun x => x.2)
      (fun x => WVB b21 (bL (k, sy, pr, rc, pl, tx, er) x.1) k sy pr rc pl tx er :: .blk z6 (mobj kI wrM) :: .blk b1 (.cells #[.int .i64 k, .int .i64 sy, .int .i64 pr, .int .i64 rc, .int .i64 pl, .string (S tx), .int .i64 er] 28 (0, 0)) :: L) (fun x => x.1 ≤ (fieldsK k).length ∧ E8.Le x.2) (fun x => (fieldsK k).length - x.1) (0, E8) ⟨Nat.zero_le _, .refl _⟩ ⟨rfl, rfl, rfl, rfl, rfl, trivial⟩ rfl rfl ?_
    rintro ⟨i, E9⟩ ⟨hi, hE9⟩
    simp only at hi hE9 ⊢
    replace hs := hs.mono hE9
    have hbl := bL_len (e := (k, sy, pr, rc, pl, tx, er)) t1 i
    by_cases hlt : i < (fieldsK k).length
    · obtain ⟨f, hf, hfv⟩ := fieldsK_get hlt
      have hx := i64s_get hf
      have hw := bL_succ (e := (k, sy, pr, rc, pl, tx, er)) hf
      generalize bL (k, sy, pr, rc, pl, tx, er) i = o at *
      rcases hfv with rfl | rfl | rfl | rfl | rfl | rfl
      · have hw2 : bL (k, sy, pr, rc, pl, tx, er) (i + 1) = o ++ vbytes rc.toNat := hw
        clear hw
        refine G_seq (G_region ?_)
        refine Gv (V_lss rfl rfl rfl) ?_
        refine G_end (X_then (G_seq ?_))
        refine G_cond_t rfl (decide_eq_true (by omega)) ?_
        refine G_skip (X_then (G_seq (G_block (G_seq (G_region ?_)))))
        refine Gv (V_idxAddr rfl rfl rfl (SlE.rd (by assumption)) (by omega) (by omega)) ?_
        refine Gv (V_loadS rfl rfl (SlE.rd (by assumption)) (by assumption) (by simp)) ?_
        refine Ga ?_
        refine G_end (X_then (G_region ?_))
        refine Gm ?_
        refine Gm ?_
        refine Gv (V_lookup kI _ rfl rfl rfl (.tail _ (.head _))) ?_
        refine Gm ?_
        refine G_call (k := 81) (.mk rfl rfl rfl rfl) rfl rfl (.none rfl) (w_record_call _ _ b21 o k sy pr rc pl tx er (by omega) ⟨r0, r1⟩) ?_
        rintro x5 E5 L5 hE5 ⟨rfl, rfl⟩
        rw [← hw2]
        refine G_end (X_block (X_then (G_region ?_)))
        refine Gv (V_add_i64 rfl rfl rfl (by omega) (by omega)) ?_
        refine Gm ?_
        refine G_end (X_then ?_)
        exact G_again (i + 1, E5) ⟨hlt, hE9.trans hE5⟩ (by simp only; omega) ⟨rfl, rfl, rfl, rfl, rfl, trivial⟩ rfl rfl
      · have hw2 : bL (k, sy, pr, rc, pl, tx, er) (i + 1) = o ++ vbytes (sy + 1).toNat := hw
        clear hw
        refine G_seq (G_region ?_)
        refine Gv (V_lss rfl rfl rfl) ?_
        refine G_end (X_then (G_seq ?_))
        refine G_cond_t rfl (decide_eq_true (by omega)) ?_
        refine G_skip (X_then (G_seq (G_block (G_seq (G_region ?_)))))
        refine Gv (V_idxAddr rfl rfl rfl (SlE.rd (by assumption)) (by omega) (by omega)) ?_
        refine Gv (V_loadS rfl rfl (SlE.rd (by assumption)) (by assumption) (by simp)) ?_
        refine Ga ?_
        refine G_end (X_then (G_region ?_))
        refine Gm ?_
        refine Gm ?_
        refine Gv (V_lookup kI _ rfl rfl rfl (.tail _ (.head _))) ?_
        refine Gm ?_
        refine G_call (k := 82) (.mk rfl rfl rfl rfl) rfl rfl (.none rfl) (w_symbol_call _ _ b21 o k sy pr rc pl tx er (by omega) ⟨s0, by omega⟩) ?_
        rintro x5 E5 L5 hE5 ⟨rfl, rfl⟩
        rw [← hw2]
        refine G_end (X_block (X_then (G_region ?_)))
        refine Gv (V_add_i64 rfl rfl rfl (by omega) (by omega)) ?_
        refine Gm ?_
        refine G_end (X_then ?_)
        exact G_again (i + 1, E5) ⟨hlt, hE9.trans hE5⟩ (by simp only; omega) ⟨rfl, rfl, rfl, rfl, rfl, trivial⟩ rfl rfl
      · have hw2 : bL (k, sy, pr, rc, pl, tx, er) (i + 1) = o ++ vbytes pr.toNat := hw
        clear hw
        refine G_seq (G_region ?_)
        refine Gv (V_lss rfl rfl rfl) ?_
        refine G_end (X_then (G_seq ?_))
        refine G_cond_t rfl (decide_eq_true (by omega)) ?_
        refine G_skip (X_then (G_seq (G_block (G_seq (G_region ?_)))))
        refine Gv (V_idxAddr rfl rfl rfl (SlE.rd (by assumption)) (by omega) (by omega)) ?_
        refine Gv (V_loadS rfl rfl (SlE.rd (by assumption)) (by assumption) (by simp)) ?_
        refine Ga ?_
        refine G_end (X_then (G_region ?_))
        refine Gm ?_
        refine Gm ?_
        refine Gv (V_lookup kI _ rfl rfl rfl (.tail _ (.head _))) ?_
        refine Gm ?_
        refine G_call (k := 83) (.mk rfl rfl rfl rfl) rfl rfl (.none rfl) (w_prod_call _ _ b21 o k sy pr rc pl tx er (by omega) ⟨p0, by omega⟩) ?_
        rintro x5 E5 L5 hE5 ⟨rfl, rfl⟩
        rw [← hw2]
        refine G_end (X_block (X_then (G_region ?_)))
        refine Gv (V_add_i64 rfl rfl rfl (by omega) (by omega)) ?_
        refine Gm ?_
        refine G_end (X_then ?_)
        exact G_again (i + 1, E5) ⟨hlt, hE9.trans hE5⟩ (by simp only; omega) ⟨rfl, rfl, rfl, rfl, rfl, trivial⟩ rfl rfl
      · have hw2 : bL (k, sy, pr, rc, pl, tx, er) (i + 1) = o ++ (vbytes tx.length ++ tx) := hw
        clear hw
        refine G_seq (G_region ?_)
        refine Gv (V_lss rfl rfl rfl) ?_
        refine G_end (X_then (G_seq ?_))
        refine G_cond_t rfl (decide_eq_true (by omega)) ?_
        refine G_skip (X_then (G_seq (G_block (G_seq (G_region ?_)))))
        refine Gv (V_idxAddr rfl rfl rfl (SlE.rd (by assumption)) (by omega) (by omega)) ?_
        refine Gv (V_loadS rfl rfl (SlE.rd (by assumption)) (by assumption) (by simp)) ?_
        refine Ga ?_
        refine G_end (X_then (G_region ?_))
        refine Gm ?_
        refine Gm ?_
        refine Gv (V_lookup kI _ rfl rfl rfl (.tail _ (.head _))) ?_
        refine Gm ?_
        refine G_call (k := 84) (.mk rfl rfl rfl rfl) rfl rfl (.none rfl) (w_text_call _ _ b21 o k sy pr rc pl tx er (by omega) t1) ?_
        rintro x5 E5 L5 hE5 ⟨rfl, rfl⟩
        rw [← hw2]
        refine G_end (X_block (X_then (G_region ?_)))
        refine Gv (V_add_i64 rfl rfl rfl (by omega) (by omega)) ?_
        refine Gm ?_
        refine G_end (X_then ?_)
        exact G_again (i + 1, E5) ⟨hlt, hE9.trans hE5⟩ (by simp only; omega) ⟨rfl, rfl, rfl, rfl, rfl, trivial⟩ rfl rfl
      · have hw2 : bL (k, sy, pr, rc, pl, tx, er) (i + 1) = o ++ vbytes er.toNat := hw
        clear hw
        refine G_seq (G_region ?_)
        refine Gv (V_lss rfl rfl rfl) ?_
        refine G_end (X_then (G_seq ?_))
        refine G_cond_t rfl (decide_eq_true (by omega)) ?_
        refine G_skip (X_then (G_seq (G_block (G_seq (G_region ?_)))))
        refine Gv (V_idxAddr rfl rfl rfl (SlE.rd (by assumption)) (by omega) (by omega)) ?_
        refine Gv (V_loadS rfl rfl (SlE.rd (by assumption)) (by assumption) (by simp)) ?_
        refine Ga ?_
        refine G_end (X_then (G_region ?_))
        refine Gm ?_
        refine Gm ?_
        refine Gv (V_lookup kI _ rfl rfl rfl (.tail _ (.head _))) ?_
        refine Gm ?_
        refine G_call (k := 85) (.mk rfl rfl rfl rfl) rfl rfl (.none rfl) (w_err_call _ _ b21 o k sy pr rc pl tx er (by omega) ⟨e0, by omega⟩) ?_
        rintro x5 E5 L5 hE5 ⟨rfl, rfl⟩
        rw [← hw2]
        refine G_end (X_block (X_then (G_region ?_)))
        refine Gv (V_add_i64 rfl rfl rfl (by omega) (by omega)) ?_
        refine Gm ?_
        refine G_end (X_then ?_)
        exact G_again (i + 1, E5) ⟨hlt, hE9.trans hE5⟩ (by simp only; omega) ⟨rfl, rfl, rfl, rfl, rfl, trivial⟩ rfl rfl
      · have hw2 : bL (k, sy, pr, rc, pl, tx, er) (i + 1) = o ++ vbytes pl.toNat := hw
        clear hw
        refine G_seq (G_region ?_)
        refine Gv (V_lss rfl rfl rfl) ?_
        refine G_end (X_then (G_seq ?_))
        refine G_cond_t rfl (decide_eq_true (by omega)) ?_
        refine G_skip (X_then (G_seq (G_block (G_seq (G_region ?_)))))
        refine Gv (V_idxAddr rfl rfl rfl (SlE.rd (by assumption)) (by omega) (by omega)) ?_
        refine Gv (V_loadS rfl rfl (SlE.rd (by assumption)) (by assumption) (by simp)) ?_
        refine Ga ?_
        refine G_end (X_then (G_region ?_))
        refine Gm ?_
        refine Gm ?_
        refine Gv (V_lookup kI _ rfl rfl rfl (.tail _ (.head _))) ?_
        refine Gm ?_
        refine G_call (k := 86) (.mk rfl rfl rfl rfl) rfl rfl (.none rfl) (w_at_call _ _ b21 o k sy pr rc pl tx er (by omega) ⟨l0, l1⟩) ?_
        rintro x5 E5 L5 hE5 ⟨rfl, rfl⟩
        rw [← hw2]
        refine G_end (X_block (X_then (G_region ?_)))
        refine Gv (V_add_i64 rfl rfl rfl (by omega) (by omega)) ?_
        refine Gm ?_
        refine G_end (X_then ?_)
        exact G_again (i + 1, E5) ⟨hlt, hE9.trans hE5⟩ (by simp only; omega) ⟨rfl, rfl, rfl, rfl, rfl, trivial⟩ rfl rfl
    · obtain rfl : i = (fieldsK k).length := by omega
      have hall := bL_all (k, sy, pr, rc, pl, tx, er) (i := (fieldsK k).length) (Nat.le_refl _)
      rw [← hall]
      generalize bL (k, sy, pr, rc, pl, tx, er) (fieldsK k).length = o at *
      refine G_seq (G_region ?_)
      refine Gv (V_lss rfl rfl rfl) ?_
      refine G_end (X_then (G_seq ?_))
      refine G_cond_f rfl (decide_eq_false (by omega)) ?_
      refine G_exit (X_then_exit (X_then_exit (X_block_hit (X_then (G_seq (G_region ?_))))))
      refine Gm ?_
      refine Gv (V_nilCheck rfl rfl) ?_
      refine Gv (V_fieldAddr rfl rfl (by decide)) ?_
      refine Gv (V_loadF rfl rfl (.head _) (by simp only [Nat.zero_add, List.drop_succ_cons, List.drop_zero, List.take_succ_cons, List.take_zero]; rfl) (by rfl)) ?_
      refine G_callv (k := 46) (.mk rfl rfl rfl rfl) rfl rfl (.none rfl) (DoneI_call _ _ _ _ (by omega) (by omega)) ?_
      refine Gv (V_extract rfl rfl rfl) ?_
      refine Gv (V_extract rfl rfl rfl) ?_
      refine Ga ?_
      refine Ga ?_
      refine G_end (X_then (G_ret ?_))
      refine G_leaveS (.drop _ (.drop _ (.drop _ (.nil _)))) (by exact (.cons (.tmp rfl) (.cons (.tmp rfl) (.nil)))) rfl ?_ ?_
      · exact ((hE1.trans hE10).trans hE9)
      exact ⟨rfl, rfl⟩
  · rw [if_neg hc]
    refine Ga ?_
    refine G_end (X_then (G_seq (G_region ?_)))
    refine Gm ?_
    refine Gv (V_neq rfl rfl rfl) ?_
    refine G_end (X_then ?_)
    refine G_cond_t rfl (decide_eq_true (by omega)) ?_
    refine G_seq (G_region ?_)
    refine Gm ?_
    refine Ga ?_
    refine Ga ?_
    refine G_end (X_then (G_ret (X_then_ret ?_)))
    refine G_leaveS (.drop _ (.nil _)) (by exact (.cons (.tmp rfl) (.cons (.tmp rfl) (.nil)))) rfl ?_ ?_
    · exact hE1
    exact ⟨rfl, rfl⟩
theorem Put2I_call (s : List UInt8) (e x : Int) (he : e = 0) (h0 : 0 ≤ x) (h1 : x ≤ 2199023255552) (h2 : s.length ≤ 1000) : CallV Tryz.prog 47 #[.agg #[.string (S s), .int .i64 20000, .int .i64 e], .int .u64 x] E L (.agg #[.string (S (s ++ vbytes x.toNat)), .int .i64 20000, .int .i64 0]) := by
  subst he
  obtain ⟨n, rfl⟩ : ∃ n : Nat, x = n := ⟨x.toNat, by omega⟩
  rw [Int.toNat_natCast]
  have := Put2_call E L s (by omega) 20000 0 n (by omega)
  have hv := vb_len n
  rw [wput_good (by decide) (by decide) [vbytes n] (by simp; omega)] at this; simpa using this
theorem Put2S_call (s : List UInt8) (e : Int) (he : e = 0) (p : Option Addr) (c : Nat) (tx : List UInt8) (hl : SlE E 1 p 1 (strs [tx])) (ht : tx.length ≤ 24) (h2 : s.length ≤ 1000) : CallV Tryz.prog 50 #[.agg #[.string (S s), .int .i64 20000, .int .i64 e], .slice p 1 c] E L (.agg #[.string (S (s ++ (vbytes tx.length ++ tx))), .int .i64 20000, .int .i64 0]) := by
  subst he
  have hv := vb_len tx.length
  have hf : (lens [tx]).flatten = vbytes tx.length ++ tx := by simp [lens]
  have hll : (lens [tx]).flatten.length ≤ 34 := by rw [hf, List.length_append]; omega
  have := PutString2_call' E L s 20000 0 p 1 c [tx] hl (by omega) (by omega) (by omega)
  rw [wput_good (by decide) (by decide) (lens [tx]) (by omega), hf] at this
  exact this
theorem Done2I_call (s : List UInt8) (e : Int) (he : e = 0) (h2 : s.length ≤ 1000) : CallV Tryz.prog 51 #[.agg #[.string (S s), .int .i64 20000, .int .i64 e]] E L (.tuple #[.string (S s), .int .i64 0]) := by
  subst he
  have := Done2_call E L s (by omega) 20000 0
  rw [wstart_good (by decide) (by decide) (by omega) (by decide) (by decide)] at this; exact this
theorem Make2I_call : CallV Tryz.prog 48 #[.int .i64 20000] E L (.agg #[.string (S []), .int .i64 20000, .int .i64 0]) := by
  have := Make2_call E L 20000
  rw [wstart_good (by decide) (by decide) (by decide) (by decide) (by decide)] at this; exact this
end
end Go.Proofs.YtjhehanknkonnaaGreatDoor
set_option linter.unusedSimpArgs false
set_option linter.unusedVariables false
set_option maxHeartbeats 2000000
set_option maxRecDepth 20000
namespace Go.Proofs.YtjhehanknkonnaaGreatDoor
open Go.RowKit
/-! The reference's decimal and hexadecimal. -/
theorem digN_step (m : Nat) : digN m = (if m / 10 = 0 then [] else digN (m / 10)) ++ [UInt8.ofNat (48 + m % 10)] := by
  by_cases h : m < 10
  · rw [digN_lt h, if_pos (by omega), Nat.mod_eq_of_lt h]; rfl
  · rw [if_neg (by omega)]; exact digN_ge h
/-- What is still to come, and what there is. -/
def decW (m : Nat) (out : List UInt8) : List UInt8 := if out = [] then digN m else (if m = 0 then [] else digN m) ++ out
theorem decW_step {m : Nat} {out : List UInt8} (h : 0 < m ∨ out = []) : decW m out = decW (m / 10) ([UInt8.ofNat (48 + m % 10)] ++ out) := by
  have hR : decW (m / 10) ([UInt8.ofNat (48 + m % 10)] ++ out) = (if m / 10 = 0 then [] else digN (m / 10)) ++ ([UInt8.ofNat (48 + m % 10)] ++ out) := if_neg (by simp)
  rw [hR, ← List.append_assoc, ← digN_step]
  unfold decW
  by_cases h0 : out = []
  · rw [if_pos h0, h0, List.append_nil]
  · rw [if_neg h0, if_neg (by rcases h with h | h; omega; exact absurd h h0)]
abbrev hexS' : List UInt8 := [48, 49, 50, 51, 52, 53, 54, 55, 56, 57, 97, 98, 99, 100, 101, 102]
theorem hexR (b : UInt8) : hexS'[((b.toNat : Int) / 16).toNat]? = some (hexD (b.toNat / 16)) ∧ hexS'[((b.toNat : Int) % 16).toNat]? = some (hexD (b.toNat % 16)) := by
  have : ∀ i : Fin 256, hexS'[((i.val : Int) / 16).toNat]? = some (hexD (i.val / 16)) ∧ hexS'[((i.val : Int) % 16).toNat]? = some (hexD (i.val % 16)) := by decide +kernel
  exact this ⟨b.toNat, b.toNat_lt⟩
section
variable (E : Env) (L : List Res)
theorem Rdec0_call (n : Nat) (hn : n ≤ 1099511627776) : CallV Tryz.prog 92 #[.int .i64 (n : Nat)] E L (.string (S (digN n))) := by
  refine CallS.toV (CallS.intro (l := [_]) _ Tryz.func92 rfl Tryz.ntmps92 rfl ?_)
  refine G_seq (G_region ?_)
  refine Ga ?_
  refine G_end (X_then (G_seq (G_seq (G_region ?_))))
  refine Gm ?_
  refine Gv (V_lss rfl rfl rfl) ?_
  refine G_end (X_then ?_)
  refine G_cond_f rfl (decide_eq_false (by omega)) ?_
  refine G_skip (X_then (G_seq (G_region ?_)))
  refine Ga ?_
  refine G_end (X_then (G_seq (G_block ?_)))
  refine G_loop (α := Nat × List UInt8) (fun x => [(0, .int .i64 (x.1 : Nat)), (3, .string (S x.2))]) (fun _ => E) (fun _ => L)
    (fun x => x.1 ≤ n ∧ decW x.1 x.2 = digN n ∧ x.2.length + x.1 ≤ n + 20) (fun x => 2 * x.1 + (if x.2 = [] then 1 else 0)) (n, []) ⟨Nat.le_refl _, rfl, by simp⟩ ⟨rfl, rfl, trivial⟩ rfl rfl ?_
  rintro ⟨m, out⟩ ⟨hm, hd, hl⟩
  simp only at hm hd hl ⊢
  by_cases h0 : 0 < m
  · have hst := decW_step (m := m) (out := out) (.inl h0)
    have e : 48 + (m : Int) % 10 = ((UInt8.ofNat (48 + m % 10)).toNat : Nat) := by have := toNat_of (m % 10) (by omega); omega
    have e2 : (m : Int) / 10 = ((m / 10 : Nat) : Int) := by omega
    have h1 : [UInt8.ofNat (48 + m % 10)].length = 1 := rfl
    generalize UInt8.ofNat (48 + m % 10) = c at *
    refine G_seq (G_seq (G_region ?_))
    refine Gm ?_
    refine Gv (V_gtr rfl rfl rfl) ?_
    refine Gm ?_
    refine G.bool_t 12 rfl (decide_eq_true (by omega)) ?_
    refine Gn ?_
    refine Gn ?_
    refine Gv (V_pick_t rfl rfl rfl) ?_
    refine G_end (X_then ?_)
    refine G_cond_t rfl rfl ?_
    refine G_skip (X_then (G_block (G_seq (G_region ?_))))
    refine Gm ?_
    refine Gv (V_rem_n rfl rfl rfl (by omega) (by omega)) ?_
    refine Gv (V_add_i64 rfl rfl rfl (by omega) (by omega)) ?_
    refine Gv (V_conv_u8 rfl rfl (by omega) (by omega)) ?_
    (refine G_lit1 rfl rfl rfl rfl rfl (.none rfl) ?_; intro b20)
    rw [e]
    refine Gv (V_b2s (l := [_]) rfl rfl (Rd.lit (.head _) rfl)) ?_
    refine Gm ?_
    refine Gv (V_cat rfl rfl rfl (by simp; omega)) ?_
    refine Ga ?_
    refine G_end (X_then (G_region ?_))
    refine Gm ?_
    refine Gv (V_quo_n rfl rfl rfl (by omega) (by omega) (by simp [IntKind.max, IntKind.signed, IntKind.bits]; omega)) ?_
    refine Ga ?_
    refine G_end (X_block (X_then ?_))
    rw [e2]
    refine G.drop ?_
    exact G_again (m / 10, [c] ++ out) ⟨by simp only; omega, by simp only; rw [← hst, hd], by simp only [List.length_append]; omega⟩ (by simp only; rw [if_neg (by simp)]; omega) ⟨rfl, rfl, trivial⟩ rfl rfl
  · obtain rfl : m = 0 := by omega
    by_cases ho : out = []
    · subst ho
      have hst := decW_step (m := 0) (out := []) (.inr rfl)
      have e : (48 + ((0 : Nat) : Int) % 10) = ((48 : UInt8).toNat : Nat) := rfl
      have h2 : decW (0 / 10) ([48] ++ []) = digN n := by rw [← hd]; exact hst.symm
      refine G_seq (G_seq (G_region ?_))
      refine Gm ?_
      refine Gv (V_gtr rfl rfl rfl) ?_
      refine Gm ?_
      refine G.bool_f 12 rfl (by kernel_rfl) ?_
      refine Gy (V_move rfl rfl) ?_
      refine Gy (V_seql rfl rfl rfl) ?_
      refine Gv (V_pick_f rfl rfl rfl) ?_
      refine G_end (X_then ?_)
      refine G_cond_t rfl (by kernel_rfl) ?_
      refine G_skip (X_then (G_block (G_seq (G_region ?_))))
      refine Gm ?_
      refine Gv (V_rem_n rfl rfl rfl (by omega) (by omega)) ?_
      refine Gv (V_add_i64 rfl rfl rfl (by omega) (by omega)) ?_
      refine Gv (V_conv_u8 rfl rfl (by omega) (by omega)) ?_
      (refine G_lit1 rfl rfl rfl rfl rfl (.none rfl) ?_; intro b20)
      rw [e]
      refine Gv (V_b2s (l := [_]) rfl rfl (Rd.lit (.head _) rfl)) ?_
      refine Gm ?_
      refine Gv (V_cat rfl rfl rfl (by decide)) ?_
      refine Ga ?_
      refine G_end (X_then (G_region ?_))
      refine Gm ?_
      refine Gv (V_quo rfl rfl rfl (by omega)) ?_
      refine Ga ?_
      refine G_end (X_block (X_then ?_))
      refine G.drop ?_
      exact G_again (0, [48] ++ []) ⟨by simp only; omega, h2, by simp⟩ (by simp) ⟨rfl, rfl, trivial⟩ rfl rfl
    · have hf : out = digN n := by rw [← hd]; unfold decW; rw [if_neg ho, if_pos rfl]; rfl
      rw [← hf]
      refine G_seq (G_seq (G_region ?_))
      refine Gm ?_
      refine Gv (V_gtr rfl rfl rfl) ?_
      refine Gm ?_
      refine G.bool_f 12 rfl (by kernel_rfl) ?_
      refine Gy (V_move rfl rfl) ?_
      refine Gy (V_seql rfl rfl rfl) ?_
      refine Gv (V_pick_f rfl rfl rfl) ?_
      refine G_end (X_then ?_)
      refine G_cond_f rfl (decide_eq_false (by omega)) ?_
      refine G_exit (X_then_exit (X_then_exit (X_block_hit (X_then (G_seq (G_region ?_))))))
      refine Gm ?_
      refine Ga ?_
      refine G_end (X_then (G_ret ?_))
      refine G_leaveS (.nil _) (by exact (.cons (.tmp rfl) (.nil))) rfl ?_ ?_
      · exact (.refl _)
      exact ⟨rfl, rfl⟩
theorem Rhex_call (s : List UInt8) (hs : s.length ≤ 1000) : CallS Tryz.prog 93 #[.string (S s)] E L (fun r E' L' => r = .string (S (hexT s)) ∧ L' = L) := by
  unfold hexT
  refine CallS.intro (l := [_]) _ Tryz.func93 rfl Tryz.ntmps93 rfl ?_
  refine G_seq (G_region ?_)
  refine Ga ?_
  refine G_end (X_then (G_seq (G_region ?_)))
  refine Ga ?_
  refine G_end (X_then (G_seq (G_seq (G_region ?_))))
  refine Ga ?_
  refine G_end (X_then (G_block ?_))
  refine G_loop (α := Nat × Env) (fun x => [(0, .string (S s)), (3, .string (S (hexL (s.take x.1)))), (4, .int .i64 (x.1 : Nat))]) (fun x => x.2) (fun _ => L) (fun x => x.1 ≤ s.length ∧ E.Le x.2) (fun x => s.length - x.1) (0, E) ⟨Nat.zero_le _, .refl _⟩ ⟨rfl, rfl, rfl, trivial⟩ rfl rfl ?_
  rintro ⟨i, E1⟩ ⟨hi, hE1⟩
  simp only at hi hE1 ⊢
  by_cases hlt : i < s.length
  · have hg := List.getElem?_eq_getElem hlt
    have htk := List.take_succ_eq_append_getElem hlt
    generalize s[i] = b at *
    obtain ⟨q1, q2⟩ := hexR b
    have hb := b.toNat_lt
    have hl1 := hexL_len (s.take i)
    rw [List.length_take] at hl1
    have hsn := hexL_snoc (s.take i) b
    rw [← htk] at hsn
    have hl2 : [hexD (b.toNat / 16), hexD (b.toNat % 16)].length = 2 := rfl
    generalize hexL (s.take i) = o at *
    have hg2 : s[((i : Nat) : Int).toNat]? = some b := by rw [Int.toNat_natCast]; exact hg
    clear hg
    refine G_seq (G_seq (G_region ?_))
    refine Gm ?_
    refine Gm ?_
    refine Gv (V_len rfl rfl) ?_
    refine Gv (V_lss rfl rfl rfl) ?_
    refine G_end (X_then ?_)
    refine G_cond_t rfl (decide_eq_true (by omega)) ?_
    refine G_skip (X_then (G_seq (G_block ?_)))
    refine G_drawX 14 [(0, 0), (1, 0), (2, 0), (3, 0), (4, 0), (5, 0), (6, 0), (7, 0), (8, 0), (9, 0), (10, 0), (11, 2), (12, 1), (13, 0)] mixed (by kernel_rfl) ?_
    refine F_pure rfl (fun _ _ => V_move rfl rfl) rfl rfl (.none rfl) ?_
    refine F_pure rfl (fun _ _ => V_move rfl rfl) rfl rfl (.none rfl) ?_
    refine F_pure rfl (fun _ _ => V_move rfl rfl) rfl rfl (.none rfl) ?_
    refine F_pure rfl (fun _ _ => V_sidx rfl rfl rfl (by omega) (by assumption)) rfl rfl (.none rfl) ?_
    refine F_pure rfl (fun _ _ => V_quo_n rfl rfl rfl (by omega) (by omega) (by simp [IntKind.max, IntKind.signed, IntKind.bits]; omega)) rfl rfl (.none rfl) ?_
    refine F_pure rfl (fun _ _ => V_sidx rfl rfl rfl (by omega) (by assumption)) rfl rfl (.none rfl) ?_
    refine F_pure rfl (fun _ _ => V_move rfl rfl) rfl rfl (.none rfl) ?_
    refine F_pure rfl (fun _ _ => V_move rfl rfl) rfl rfl (.none rfl) ?_
    refine F_pure rfl (fun _ _ => V_sidx rfl rfl rfl (by omega) (by assumption)) rfl rfl (.none rfl) ?_
    refine F_pure rfl (fun _ _ => V_rem_n rfl rfl rfl (by omega) (by omega)) rfl rfl (.none rfl) ?_
    refine F_pure rfl (fun _ _ => V_sidx rfl rfl rfl (by omega) (by assumption)) rfl rfl (.none rfl) ?_
    (refine F_litZ rfl rfl rfl (by decide) (by simp [fillS, zeros, setLs, setL, Value.cells, List.range, List.range.loop]; rfl) (by rfl) rfl rfl (.none rfl) ?_; intro b22 E22 hE22 hs22)
    have hz : SlE E22 1 (some ⟨b22, 0, none⟩) 2 ([hexD (b.toNat / 16), hexD (b.toNat % 16)].map fun b => .int .u8 b.toNat) := hs22
    refine F_loadE rfl (V_b2s rfl rfl (SlE.rd (by assumption))) rfl rfl (.none rfl) ?_
    refine F_pure rfl (fun _ _ => V_cat rfl rfl rfl (by simp; omega)) rfl rfl (.none rfl) ?_
    (refine F_end (.nil _) ?_; dsimp only [List.drop])
    refine Ga ?_
    refine G_end (X_block (X_then (G_region ?_)))
    refine Gm ?_
    refine Gv (V_add_i64 rfl rfl rfl (by omega) (by omega)) ?_
    refine Ga ?_
    refine G_end (X_then ?_)
    rw [← hsn]
    exact G_again (i + 1, E22) ⟨hlt, hE1.trans hE22⟩ (by simp only; omega) ⟨rfl, rfl, rfl, trivial⟩ rfl rfl
  · rw [List.take_of_length_le (by omega)]
    by_cases h : s = []
    · rw [if_pos h, h]
      refine G_seq (G_seq (G_region ?_))
      refine Gm ?_
      refine Gm ?_
      refine Gv (V_len rfl rfl) ?_
      refine Gv (V_lss rfl rfl rfl) ?_
      refine G_end (X_then ?_)
      refine G_cond_f rfl (by simp [*]; done) ?_
      refine G_exit (X_then_exit (X_then_exit (X_block_hit (X_then (G_seq (G_seq (G_region ?_)))))))
      refine Gm ?_
      refine Gv (V_seql rfl rfl rfl) ?_
      refine G_end (X_then ?_)
      refine G_cond_t rfl (by kernel_rfl) ?_
      refine G_seq (G_region ?_)
      refine Ga ?_
      refine G_end (X_then (G_ret (X_then_ret ?_)))
      refine G_leaveS (.nil _) (by exact (.cons (.tmp rfl) (.nil))) rfl ?_ ?_
      · exact hE1
      exact ⟨(by kernel_rfl), rfl⟩
    · rw [if_neg h]
      have hne : hexL s ≠ [] := fun e => by
        have := congrArg List.length e
        rw [hexL_len] at this
        exact h (List.eq_nil_of_length_eq_zero (by simp at this; omega))
      refine G_seq (G_seq (G_region ?_))
      refine Gm ?_
      refine Gm ?_
      refine Gv (V_len rfl rfl) ?_
      refine Gv (V_lss rfl rfl rfl) ?_
      refine G_end (X_then ?_)
      refine G_cond_f rfl (decide_eq_false (by omega)) ?_
      refine G_exit (X_then_exit (X_then_exit (X_block_hit (X_then (G_seq (G_seq (G_region ?_)))))))
      refine Gm ?_
      refine Gv (V_seql rfl rfl rfl) ?_
      refine G_end (X_then ?_)
      refine G_cond_f rfl (decide_eq_false (by omega)) ?_
      refine G_skip (X_then (G_seq (G_region ?_)))
      refine Gm ?_
      refine Ga ?_
      refine G_end (X_then (G_ret ?_))
      refine G_leaveS (.nil _) (by exact (.cons (.tmp rfl) (.nil))) rfl ?_ ?_
      · exact hE1
      exact ⟨rfl, rfl⟩
end
end Go.Proofs.YtjhehanknkonnaaGreatDoor
set_option linter.unusedSimpArgs false
set_option linter.unusedVariables false
set_option maxHeartbeats 2000000
set_option maxRecDepth 20000
namespace Go.Proofs.YtjhehanknkonnaaGreatDoor
open Go.RowKit
/-! The reference's fields of a kind: 1 record, 2 place, 3 symbol, 4 production, 5 text, 6 error. -/
def fieldsR (k : Int) : List Int :=
  if k = 1 then [1, 2] else if k = 2 then [3, 4, 2] else if k = 3 then [3, 5, 2] else if k = 4 then [3, 4] else if k = 5 then [3, 6, 2] else if k = 6 then [1, 6, 2] else [6, 2]
section
variable (E : Env) (L : List Res)
theorem rfields1_call : CallS Tryz.prog 49 #[.int .i64 1] E L (fun r E' L' => ∃ b, r = .slice (some ⟨b, 0, none⟩) 2 2 ∧ E = E' ∧ L' = .blk b (.cells #[.int .i64 1, .int .i64 2] 3 (0, 0)) :: L) := by
  refine CallS.intro (l := [_]) _ Tryz.func49 rfl Tryz.ntmps49 rfl ?_
  refine G_seq (G_region ?_)
  refine Ga ?_
  refine G_end (X_then (G_seq (G_seq (G_region ?_))))
  refine Gm ?_
  refine G_end (X_then (G_block (G_seq (G_region ?_))))
  refine Gv (V_eql rfl rfl rfl) ?_
  refine Ga ?_
  refine G_end (X_then ?_)
  refine G_cond_t rfl (by kernel_rfl) ?_
  refine G_seq (G_region ?_)
  (refine G_lit2 rfl rfl rfl rfl rfl rfl rfl (.none rfl) ?_; intro b6)
  refine Ga ?_
  refine G_end (X_then (G_ret (X_block_ret (X_then_ret ?_))))
  refine G_leaveS (.keep _ (.nil _)) (by exact (.cons (.tmp rfl) (.nil))) rfl ?_ ?_
  · exact (.refl _)
  exact ⟨_, ⟨rfl, ⟨rfl, rfl⟩⟩⟩
theorem rfields2_call : CallS Tryz.prog 49 #[.int .i64 2] E L (fun r E' L' => ∃ b, r = .slice (some ⟨b, 0, none⟩) 3 3 ∧ E = E' ∧ L' = .blk b (.cells #[.int .i64 3, .int .i64 4, .int .i64 2] 3 (0, 0)) :: L) := by
  refine CallS.intro (l := [_]) _ Tryz.func49 rfl Tryz.ntmps49 rfl ?_
  refine G_seq (G_region ?_)
  refine Ga ?_
  refine G_end (X_then (G_seq (G_seq (G_region ?_))))
  refine Gm ?_
  refine G_end (X_then (G_block (G_seq (G_region ?_))))
  refine Gv (V_eql rfl rfl rfl) ?_
  refine Ga ?_
  refine G_end (X_then ?_)
  refine G_cond_f rfl (by kernel_rfl) ?_
  refine G_seq (G_region ?_)
  refine Gv (V_eql rfl rfl rfl) ?_
  refine Ga ?_
  refine G_end (X_then ?_)
  refine G_cond_t rfl (by kernel_rfl) ?_
  refine G_seq (G_region ?_)
  (refine G_lit rfl rfl (by decide) (by simp [fillS, zeros, setLs, setL, Value.cells, List.range, List.range.loop]; rfl) rfl rfl (.none rfl) ?_; intro b9)
  refine Ga ?_
  refine G_end (X_then (G_ret (X_block_ret (X_then_ret ?_))))
  refine G_leaveS (.keep _ (.nil _)) (by exact (.cons (.tmp rfl) (.nil))) rfl ?_ ?_
  · exact (.refl _)
  exact ⟨_, ⟨rfl, ⟨rfl, rfl⟩⟩⟩
theorem rfields3_call : CallS Tryz.prog 49 #[.int .i64 3] E L (fun r E' L' => ∃ b, r = .slice (some ⟨b, 0, none⟩) 3 3 ∧ E = E' ∧ L' = .blk b (.cells #[.int .i64 3, .int .i64 5, .int .i64 2] 3 (0, 0)) :: L) := by
  refine CallS.intro (l := [_]) _ Tryz.func49 rfl Tryz.ntmps49 rfl ?_
  refine G_seq (G_region ?_)
  refine Ga ?_
  refine G_end (X_then (G_seq (G_seq (G_region ?_))))
  refine Gm ?_
  refine G_end (X_then (G_block (G_seq (G_region ?_))))
  refine Gv (V_eql rfl rfl rfl) ?_
  refine Ga ?_
  refine G_end (X_then ?_)
  refine G_cond_f rfl (by kernel_rfl) ?_
  refine G_seq (G_region ?_)
  refine Gv (V_eql rfl rfl rfl) ?_
  refine Ga ?_
  refine G_end (X_then ?_)
  refine G_cond_f rfl (by kernel_rfl) ?_
  refine G_seq (G_region ?_)
  refine Gv (V_eql rfl rfl rfl) ?_
  refine Ga ?_
  refine G_end (X_then ?_)
  refine G_cond_t rfl (by kernel_rfl) ?_
  refine G_seq (G_region ?_)
  (refine G_lit rfl rfl (by decide) (by simp [fillS, zeros, setLs, setL, Value.cells, List.range, List.range.loop]; rfl) rfl rfl (.none rfl) ?_; intro b12)
  refine Ga ?_
  refine G_end (X_then (G_ret (X_block_ret (X_then_ret ?_))))
  refine G_leaveS (.keep _ (.nil _)) (by exact (.cons (.tmp rfl) (.nil))) rfl ?_ ?_
  · exact (.refl _)
  exact ⟨_, ⟨rfl, ⟨rfl, rfl⟩⟩⟩
theorem rfields4_call : CallS Tryz.prog 49 #[.int .i64 4] E L (fun r E' L' => ∃ b, r = .slice (some ⟨b, 0, none⟩) 2 2 ∧ E = E' ∧ L' = .blk b (.cells #[.int .i64 3, .int .i64 4] 3 (0, 0)) :: L) := by
  refine CallS.intro (l := [_]) _ Tryz.func49 rfl Tryz.ntmps49 rfl ?_
  refine G_seq (G_region ?_)
  refine Ga ?_
  refine G_end (X_then (G_seq (G_seq (G_region ?_))))
  refine Gm ?_
  refine G_end (X_then (G_block (G_seq (G_region ?_))))
  refine Gv (V_eql rfl rfl rfl) ?_
  refine Ga ?_
  refine G_end (X_then ?_)
  refine G_cond_f rfl (by kernel_rfl) ?_
  refine G_seq (G_region ?_)
  refine Gv (V_eql rfl rfl rfl) ?_
  refine Ga ?_
  refine G_end (X_then ?_)
  refine G_cond_f rfl (by kernel_rfl) ?_
  refine G_seq (G_region ?_)
  refine Gv (V_eql rfl rfl rfl) ?_
  refine Ga ?_
  refine G_end (X_then ?_)
  refine G_cond_f rfl (by kernel_rfl) ?_
  refine G_seq (G_region ?_)
  refine Gv (V_eql rfl rfl rfl) ?_
  refine Ga ?_
  refine G_end (X_then ?_)
  refine G_cond_t rfl (by kernel_rfl) ?_
  refine G_seq (G_region ?_)
  (refine G_lit2 rfl rfl rfl rfl rfl rfl rfl (.none rfl) ?_; intro b15)
  refine Ga ?_
  refine G_end (X_then (G_ret (X_block_ret (X_then_ret ?_))))
  refine G_leaveS (.keep _ (.nil _)) (by exact (.cons (.tmp rfl) (.nil))) rfl ?_ ?_
  · exact (.refl _)
  exact ⟨_, ⟨rfl, ⟨rfl, rfl⟩⟩⟩
theorem rfields5_call : CallS Tryz.prog 49 #[.int .i64 5] E L (fun r E' L' => ∃ b, r = .slice (some ⟨b, 0, none⟩) 3 3 ∧ E = E' ∧ L' = .blk b (.cells #[.int .i64 3, .int .i64 6, .int .i64 2] 3 (0, 0)) :: L) := by
  refine CallS.intro (l := [_]) _ Tryz.func49 rfl Tryz.ntmps49 rfl ?_
  refine G_seq (G_region ?_)
  refine Ga ?_
  refine G_end (X_then (G_seq (G_seq (G_region ?_))))
  refine Gm ?_
  refine G_end (X_then (G_block (G_seq (G_region ?_))))
  refine Gv (V_eql rfl rfl rfl) ?_
  refine Ga ?_
  refine G_end (X_then ?_)
  refine G_cond_f rfl (by kernel_rfl) ?_
  refine G_seq (G_region ?_)
  refine Gv (V_eql rfl rfl rfl) ?_
  refine Ga ?_
  refine G_end (X_then ?_)
  refine G_cond_f rfl (by kernel_rfl) ?_
  refine G_seq (G_region ?_)
  refine Gv (V_eql rfl rfl rfl) ?_
  refine Ga ?_
  refine G_end (X_then ?_)
  refine G_cond_f rfl (by kernel_rfl) ?_
  refine G_seq (G_region ?_)
  refine Gv (V_eql rfl rfl rfl) ?_
  refine Ga ?_
  refine G_end (X_then ?_)
  refine G_cond_f rfl (by kernel_rfl) ?_
  refine G_seq (G_region ?_)
  refine Gv (V_eql rfl rfl rfl) ?_
  refine Ga ?_
  refine G_end (X_then ?_)
  refine G_cond_t rfl (by kernel_rfl) ?_
  refine G_seq (G_region ?_)
  (refine G_lit rfl rfl (by decide) (by simp [fillS, zeros, setLs, setL, Value.cells, List.range, List.range.loop]; rfl) rfl rfl (.none rfl) ?_; intro b18)
  refine Ga ?_
  refine G_end (X_then (G_ret (X_block_ret (X_then_ret ?_))))
  refine G_leaveS (.keep _ (.nil _)) (by exact (.cons (.tmp rfl) (.nil))) rfl ?_ ?_
  · exact (.refl _)
  exact ⟨_, ⟨rfl, ⟨rfl, rfl⟩⟩⟩
theorem rfields6_call : CallS Tryz.prog 49 #[.int .i64 6] E L (fun r E' L' => ∃ b, r = .slice (some ⟨b, 0, none⟩) 3 3 ∧ E = E' ∧ L' = .blk b (.cells #[.int .i64 1, .int .i64 6, .int .i64 2] 3 (0, 0)) :: L) := by
  refine CallS.intro (l := [_]) _ Tryz.func49 rfl Tryz.ntmps49 rfl ?_
  refine G_seq (G_region ?_)
  refine Ga ?_
  refine G_end (X_then (G_seq (G_seq (G_region ?_))))
  refine Gm ?_
  refine G_end (X_then (G_block (G_seq (G_region ?_))))
  refine Gv (V_eql rfl rfl rfl) ?_
  refine Ga ?_
  refine G_end (X_then ?_)
  refine G_cond_f rfl (by kernel_rfl) ?_
  refine G_seq (G_region ?_)
  refine Gv (V_eql rfl rfl rfl) ?_
  refine Ga ?_
  refine G_end (X_then ?_)
  refine G_cond_f rfl (by kernel_rfl) ?_
  refine G_seq (G_region ?_)
  refine Gv (V_eql rfl rfl rfl) ?_
  refine Ga ?_
  refine G_end (X_then ?_)
  refine G_cond_f rfl (by kernel_rfl) ?_
  refine G_seq (G_region ?_)
  refine Gv (V_eql rfl rfl rfl) ?_
  refine Ga ?_
  refine G_end (X_then ?_)
  refine G_cond_f rfl (by kernel_rfl) ?_
  refine G_seq (G_region ?_)
  refine Gv (V_eql rfl rfl rfl) ?_
  refine Ga ?_
  refine G_end (X_then ?_)
  refine G_cond_f rfl (by kernel_rfl) ?_
  refine G_seq (G_region ?_)
  refine Gv (V_eql rfl rfl rfl) ?_
  refine Ga ?_
  refine G_end (X_then ?_)
  refine G_cond_t rfl (by kernel_rfl) ?_
  refine G_seq (G_region ?_)
  (refine G_lit rfl rfl (by decide) (by simp [fillS, zeros, setLs, setL, Value.cells, List.range, List.range.loop]; rfl) rfl rfl (.none rfl) ?_; intro b21)
  refine Ga ?_
  refine G_end (X_then (G_ret (X_block_ret (X_then_ret ?_))))
  refine G_leaveS (.keep _ (.nil _)) (by exact (.cons (.tmp rfl) (.nil))) rfl ?_ ?_
  · exact (.refl _)
  exact ⟨_, ⟨rfl, ⟨rfl, rfl⟩⟩⟩
theorem rfields7_call (k : Int) (h : k < 1 ∨ 6 < k) : CallS Tryz.prog 49 #[.int .i64 k] E L (fun r E' L' => ∃ b, r = .slice (some ⟨b, 0, none⟩) 2 2 ∧ E = E' ∧ L' = .blk b (.cells #[.int .i64 6, .int .i64 2] 3 (0, 0)) :: L) := by
  refine CallS.intro (l := [_]) _ Tryz.func49 rfl Tryz.ntmps49 rfl ?_
  by_cases h1 : k < 1
  · refine G_seq ?_
    refine G_region ?_
    refine Ga ?_
    refine G_end (X_then (G_seq (G_seq (G_region ?_))))
    refine Gm ?_
    refine G_end (X_then (G_block (G_seq (G_region ?_))))
    refine Gv (V_eql rfl rfl rfl) ?_
    refine Ga ?_
    refine G_end (X_then ?_)
    refine G_cond_f rfl (decide_eq_false (by omega)) ?_
    refine G_seq (G_region ?_)
    refine Gv (V_eql rfl rfl rfl) ?_
    refine Ga ?_
    refine G_end (X_then ?_)
    refine G_cond_f rfl (decide_eq_false (by omega)) ?_
    refine G_seq (G_region ?_)
    refine Gv (V_eql rfl rfl rfl) ?_
    refine Ga ?_
    refine G_end (X_then ?_)
    refine G_cond_f rfl (decide_eq_false (by omega)) ?_
    refine G_seq (G_region ?_)
    refine Gv (V_eql rfl rfl rfl) ?_
    refine Ga ?_
    refine G_end (X_then ?_)
    refine G_cond_f rfl (decide_eq_false (by omega)) ?_
    refine G_seq (G_region ?_)
    refine Gv (V_eql rfl rfl rfl) ?_
    refine Ga ?_
    refine G_end (X_then ?_)
    refine G_cond_f rfl (decide_eq_false (by omega)) ?_
    refine G_seq (G_region ?_)
    refine Gv (V_eql rfl rfl rfl) ?_
    refine Ga ?_
    refine G_end (X_then ?_)
    refine G_cond_f rfl (decide_eq_false (by omega)) ?_
    refine G_skip (X_block (X_then (G_seq (G_region ?_))))
    (refine G_lit2 rfl rfl rfl rfl rfl rfl rfl (.none rfl) ?_; intro b22)
    refine Ga ?_
    refine G_end (X_then (G_ret ?_))
    refine G_leaveS (.keep _ (.nil _)) (by exact (.cons (.tmp rfl) (.nil))) rfl ?_ ?_
    · exact (.refl _)
    exact ⟨_, ⟨rfl, ⟨rfl, rfl⟩⟩⟩
  · refine G_seq ?_
    refine G_region ?_
    refine Ga ?_
    refine G_end (X_then (G_seq (G_seq (G_region ?_))))
    refine Gm ?_
    refine G_end (X_then (G_block (G_seq (G_region ?_))))
    refine Gv (V_eql rfl rfl rfl) ?_
    refine Ga ?_
    refine G_end (X_then ?_)
    refine G_cond_f rfl (decide_eq_false (by omega)) ?_
    refine G_seq (G_region ?_)
    refine Gv (V_eql rfl rfl rfl) ?_
    refine Ga ?_
    refine G_end (X_then ?_)
    refine G_cond_f rfl (decide_eq_false (by omega)) ?_
    refine G_seq (G_region ?_)
    refine Gv (V_eql rfl rfl rfl) ?_
    refine Ga ?_
    refine G_end (X_then ?_)
    refine G_cond_f rfl (decide_eq_false (by omega)) ?_
    refine G_seq (G_region ?_)
    refine Gv (V_eql rfl rfl rfl) ?_
    refine Ga ?_
    refine G_end (X_then ?_)
    refine G_cond_f rfl (decide_eq_false (by omega)) ?_
    refine G_seq (G_region ?_)
    refine Gv (V_eql rfl rfl rfl) ?_
    refine Ga ?_
    refine G_end (X_then ?_)
    refine G_cond_f rfl (decide_eq_false (by omega)) ?_
    refine G_seq (G_region ?_)
    refine Gv (V_eql rfl rfl rfl) ?_
    refine Ga ?_
    refine G_end (X_then ?_)
    refine G_cond_f rfl (decide_eq_false (by omega)) ?_
    refine G_skip (X_block (X_then (G_seq (G_region ?_))))
    (refine G_lit2 rfl rfl rfl rfl rfl rfl rfl (.none rfl) ?_; intro b22)
    refine Ga ?_
    refine G_end (X_then (G_ret ?_))
    refine G_leaveS (.keep _ (.nil _)) (by exact (.cons (.tmp rfl) (.nil))) rfl ?_ ?_
    · exact (.refl _)
    exact ⟨_, ⟨rfl, ⟨rfl, rfl⟩⟩⟩
/-- A slice of the fields of a kind. -/
structure RFldR (k : Int) (E : Env) (r : Value) : Prop where
  out : ∃ a c, r = .slice a (fieldsR k).length c ∧ SlE E 1 a (fieldsR k).length (i64s (fieldsR k)) ∧ (fieldsR k).length ≤ c
theorem rfields_call' (k : Int) : CallS Tryz.prog 49 #[.int .i64 k] E L (fun r E' L' => RFldR k E' r ∧ L' = L) := by
  by_cases h : k < 1 ∨ 6 < k
  · have e : fieldsR k = [6, 2] := by
      unfold fieldsR
      repeat rw [if_neg (by omega)]
    intro w hw
    refine (rfields7_call E L k h w hw).mono fun _ _ ⟨r, E', L', he, hE, hs, b, hr, _, hL⟩ => ?_
    subst hL hr
    obtain ⟨E2, hE2, hs2, hok2⟩ := hs.freeze
    exact ⟨_, E2, L, he, hE.trans hE2, hs2, ⟨⟨_, 2, by rw [e]; rfl, by rw [e]; exact SlE.lit (l := i64s [6, 2]) hok2 rfl, by rw [e]; exact Nat.le_refl _⟩⟩, rfl⟩
  obtain rfl | rfl | rfl | rfl | rfl | rfl : k = 1 ∨ k = 2 ∨ k = 3 ∨ k = 4 ∨ k = 5 ∨ k = 6 := by omega
  · intro w hw
    refine (rfields1_call E L w hw).mono fun _ _ ⟨r, E', L', he, hE, hs, b, hr, _, hL⟩ => ?_
    subst hL hr
    obtain ⟨E2, hE2, hs2, hok2⟩ := hs.freeze
    exact ⟨_, E2, L, he, hE.trans hE2, hs2, ⟨⟨_, 2, rfl, SlE.lit (l := i64s [1, 2]) hok2 rfl, Nat.le_refl _⟩⟩, rfl⟩
  · intro w hw
    refine (rfields2_call E L w hw).mono fun _ _ ⟨r, E', L', he, hE, hs, b, hr, _, hL⟩ => ?_
    subst hL hr
    obtain ⟨E2, hE2, hs2, hok2⟩ := hs.freeze
    exact ⟨_, E2, L, he, hE.trans hE2, hs2, ⟨⟨_, 3, rfl, SlE.lit (l := i64s [3, 4, 2]) hok2 rfl, Nat.le_refl _⟩⟩, rfl⟩
  · intro w hw
    refine (rfields3_call E L w hw).mono fun _ _ ⟨r, E', L', he, hE, hs, b, hr, _, hL⟩ => ?_
    subst hL hr
    obtain ⟨E2, hE2, hs2, hok2⟩ := hs.freeze
    exact ⟨_, E2, L, he, hE.trans hE2, hs2, ⟨⟨_, 3, rfl, SlE.lit (l := i64s [3, 5, 2]) hok2 rfl, Nat.le_refl _⟩⟩, rfl⟩
  · intro w hw
    refine (rfields4_call E L w hw).mono fun _ _ ⟨r, E', L', he, hE, hs, b, hr, _, hL⟩ => ?_
    subst hL hr
    obtain ⟨E2, hE2, hs2, hok2⟩ := hs.freeze
    exact ⟨_, E2, L, he, hE.trans hE2, hs2, ⟨⟨_, 2, rfl, SlE.lit (l := i64s [3, 4]) hok2 rfl, Nat.le_refl _⟩⟩, rfl⟩
  · intro w hw
    refine (rfields5_call E L w hw).mono fun _ _ ⟨r, E', L', he, hE, hs, b, hr, _, hL⟩ => ?_
    subst hL hr
    obtain ⟨E2, hE2, hs2, hok2⟩ := hs.freeze
    exact ⟨_, E2, L, he, hE.trans hE2, hs2, ⟨⟨_, 3, rfl, SlE.lit (l := i64s [3, 6, 2]) hok2 rfl, Nat.le_refl _⟩⟩, rfl⟩
  · intro w hw
    refine (rfields6_call E L w hw).mono fun _ _ ⟨r, E', L', he, hE, hs, b, hr, _, hL⟩ => ?_
    subst hL hr
    obtain ⟨E2, hE2, hs2, hok2⟩ := hs.freeze
    exact ⟨_, E2, L, he, hE.trans hE2, hs2, ⟨⟨_, 3, rfl, SlE.lit (l := i64s [1, 6, 2]) hok2 rfl, Nat.le_refl _⟩⟩, rfl⟩
theorem fieldsR_len (k : Int) : (fieldsR k).length ≤ 3 := by
  unfold fieldsR
  repeat' split
  all_goals simp
theorem has_call (k f : Int) : CallS Tryz.prog 39 #[.int .i64 k, .int .i64 f] E L (fun r E' L' => r = .bool (decide (f ∈ fieldsR k)) ∧ L' = L) := by
  have hfl := fieldsR_len k
  refine CallS.intro (l := [_, _]) _ Tryz.func39 rfl Tryz.ntmps39 rfl ?_
  refine G_seq (G_region ?_)
  refine Ga ?_
  refine G_end (X_then (G_seq (G_region ?_)))
  refine Gm ?_
  refine G_call (k := 49) (.mk rfl rfl rfl rfl) rfl rfl (.none rfl) (rfields_call' _ _ k) ?_
  rintro x1 E1 L1 hE1 ⟨⟨⟨a, c, rfl, hs, hc⟩⟩, rfl⟩
  generalize fieldsR k = xs at *
  refine Ga ?_
  refine G_end (X_then (G_seq (G_seq (G_region ?_))))
  refine Ga ?_
  refine G_end (X_then (G_block ?_))
  refine G_loop (α := Nat) (fun i => [(1, .int .i64 f), (5, .slice a xs.length c), (6, .int .i64 i)]) (fun _ => E1) (fun _ => L1) (fun i => i ≤ xs.length ∧ f ∉ xs.take i) (fun i => xs.length - i) 0 ⟨Nat.zero_le _, by simp⟩ ⟨rfl, rfl, rfl, trivial⟩ rfl rfl ?_
  rintro i ⟨hi, hf⟩
  by_cases hlt : i < xs.length
  · have hx1 := i64s_get (List.getElem?_eq_getElem hlt)
    have htk := List.take_succ_eq_append_getElem hlt
    have hm := List.getElem_mem hlt
    generalize xs[i] = x at *
    by_cases he : x = f
    · rw [decide_eq_true (by rw [← he]; exact hm)]
      refine G_seq (G_seq (G_region ?_))
      refine Gm ?_
      refine Gm ?_
      refine Gv (V_lenS rfl rfl) ?_
      refine Gv (V_lss rfl rfl rfl) ?_
      refine G_end (X_then ?_)
      refine G_cond_t rfl (decide_eq_true (by omega)) ?_
      refine G_skip (X_then (G_seq (G_block (G_seq (G_region ?_)))))
      refine Gm ?_
      refine Gm ?_
      refine Gv (V_idxAddr rfl rfl rfl (SlE.rd (by assumption)) (by omega) (by omega)) ?_
      refine Gv (V_loadS rfl rfl (SlE.rd (by assumption)) (by assumption) (by simp)) ?_
      refine Gm ?_
      refine Gv (V_eql rfl rfl rfl) ?_
      refine G_end (X_then ?_)
      refine G_cond_t rfl (decide_eq_true (by omega)) ?_
      refine G_seq (G_region ?_)
      refine Ga ?_
      refine G_end (X_then (G_ret (X_block_ret (X_then_ret (X_then_ret (X_block_ret (X_then_ret ?_)))))))
      refine G_leaveS (.nil _) (by exact (.cons (.tmp rfl) (.nil))) rfl ?_ ?_
      · exact hE1
      exact ⟨(by kernel_rfl), rfl⟩
    · refine G_seq ?_
      refine G_seq (G_region ?_)
      refine Gm ?_
      refine Gm ?_
      refine Gv (V_lenS rfl rfl) ?_
      refine Gv (V_lss rfl rfl rfl) ?_
      refine G_end (X_then ?_)
      refine G_cond_t rfl (decide_eq_true (by omega)) ?_
      refine G_skip (X_then (G_seq (G_block (G_seq (G_region ?_)))))
      refine Gm ?_
      refine Gm ?_
      refine Gv (V_idxAddr rfl rfl rfl (SlE.rd (by assumption)) (by omega) (by omega)) ?_
      refine Gv (V_loadS rfl rfl (SlE.rd (by assumption)) (by assumption) (by simp)) ?_
      refine Gm ?_
      refine Gv (V_eql rfl rfl rfl) ?_
      refine G_end (X_then ?_)
      refine G_cond_f rfl (decide_eq_false (by omega)) ?_
      refine G_skip (X_block (X_then (G_region ?_)))
      refine Gm ?_
      refine Gv (V_add_i64 rfl rfl rfl (by omega) (by omega)) ?_
      refine Ga ?_
      refine G_end (X_then ?_)
      exact G_again (i + 1) ⟨hlt, by rw [htk, List.mem_append, List.mem_singleton, not_or]; exact ⟨hf, fun h => he h.symm⟩⟩ (by omega) ⟨rfl, rfl, rfl, trivial⟩ rfl rfl
  · rw [List.take_of_length_le (by omega)] at hf
    rw [decide_eq_false hf]
    refine G_seq (G_seq (G_region ?_))
    refine Gm ?_
    refine Gm ?_
    refine Gv (V_lenS rfl rfl) ?_
    refine Gv (V_lss rfl rfl rfl) ?_
    refine G_end (X_then ?_)
    refine G_cond_f rfl (decide_eq_false (by omega)) ?_
    refine G_exit (X_then_exit (X_then_exit (X_block_hit (X_then (G_seq (G_region ?_))))))
    refine Ga ?_
    refine G_end (X_then (G_ret ?_))
    refine G_leaveS (.nil _) (by exact (.cons (.tmp rfl) (.nil))) rfl ?_ ?_
    · exact hE1
    exact ⟨(by kernel_rfl), rfl⟩
end
end Go.Proofs.YtjhehanknkonnaaGreatDoor
