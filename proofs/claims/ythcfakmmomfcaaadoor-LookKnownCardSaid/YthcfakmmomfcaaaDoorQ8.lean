/-
  Rules and contracts, packed: A40, A41, A42, A43, A44, A46, A45.
-/
import Derived.Test.YthcfakmmomfcaaaDoorQ7
set_option maxHeartbeats 1000000
set_option linter.unusedSimpArgs false
set_option linter.unusedVariables false
set_option maxHeartbeats 2000000
set_option maxRecDepth 20000
namespace Go.Proofs.YthcfakmmomfcaaaDoor
open Go.RowKit
/-! The law LookKnown. -/
section
variable (E : Env) (L : List Res)
theorem OfK1_call (p : Option Addr) (c : Nat) (h : SlE E 1 p 1 [.int .i64 8]) : CallV Tryd.prog 12 #[.slice p 1 c] E L (.tuple #[lk 0 0 0 0 0, .int .i64 14]) := Of_call E L p 1 c [8] (h.toI rfl) (by omega)
theorem OfK2_call (p : Option Addr) (c : Nat) (h : SlE E 1 p 5 [.int .i64 0, .int .i64 0, .int .i64 0, .int .i64 0, .int .i64 0]) : CallV Tryd.prog 12 #[.slice p 5 c] E L (.tuple #[lk 0 0 0 0 0, .int .i64 6]) := Of_call E L p 5 c [0, 0, 0, 0, 0] (h.toI rfl) (by omega)
theorem Of_call' (p : Option Addr) (c : Nat) (h : SlE E 1 p 5 [.int .i64 8, .int .i64 0, .int .i64 0, .int .i64 0, .int .i64 0]) : CallV Tryd.prog 12 #[.slice p 5 c] E L (.tuple #[lk 0 0 0 0 0, .int .i64 6]) := Of_call E L p 5 c [8, 0, 0, 0, 0] (h.toI rfl) (by omega)
theorem Join_call' : CallS Tryd.prog 21 #[.int .i64 0, lk 1 0 0 0 0, lk 1 1 0 0 0] E L (fun r E' L' => r = .tuple #[lk 0 0 0 0 0, .int .i64 2] ∧ L = L') := Join_call E L 0 1 0 0 0 0 1 1 0 0 0
theorem Cut_call' : CallS Tryd.prog 23 #[lk 3 0 1 2 0, .int .i64 2] E L (fun r E' L' => r = .tuple #[lk 2 0 1 0 0, .int .i64 0] ∧ L = L') := Cut_call E L 3 0 1 2 0 2
theorem Text_call' : CallS Tryd.prog 16 #[lk 0 0 0 0 0] E L (fun r E' L' => r = .tuple #[.string (S [45]), .int .i64 0] ∧ L = L') := Text_call E L 0 0 0 0 0
theorem AllK1_call : CallS Tryd.prog 35 #[.int .i64 2, .int .i64 1] E L (fun r E' L' => ∃ p c, r = .tuple #[.slice p 3 c, .int .i64 0] ∧ SlE E' 5 p 3 knA ∧ L = L') := All_call E L 2 1
theorem AllK2_call : CallS Tryd.prog 35 #[.int .i64 1, .int .i64 2] E L (fun r E' L' => ∃ p c, r = .tuple #[.slice p 3 c, .int .i64 0] ∧ SlE E' 5 p 3 knB ∧ L = L') := All_call E L 1 2
theorem All_call' : CallS Tryd.prog 35 #[.int .i64 9, .int .i64 1] E L (fun r E' L' => ∃ p c, r = .tuple #[.slice p 0 c, .int .i64 2] ∧ SlE E' 5 p 0 [] ∧ L = L') := All_call E L 9 1
theorem Number_call' (hT : SlE E 1 (some ⟨5, 1, none⟩) 1 [.int .u8 1]) : CallS Tryd.prog 31 #[lk 1 1 0 0 0, .int .i64 1] E L (fun r E' L' => r = .tuple #[.int .i64 0, .int .i64 14] ∧ L = L') := Number_call E L hT 1 1 0 0 0 1
theorem NumberedK1_call (hT : SlE E 1 (some ⟨5, 1, none⟩) 1 [.int .u8 1]) : CallS Tryd.prog 33 #[.int .i64 16, .int .i64 2] E L (fun r E' L' => r = .tuple #[lk 1 1 0 0 0, .int .i64 0] ∧ L = L') := Numbered_call E L hT 16 2
theorem Numbered_call' (hT : SlE E 1 (some ⟨5, 1, none⟩) 1 [.int .u8 1]) : CallS Tryd.prog 33 #[.int .i64 31, .int .i64 2] E L (fun r E' L' => r = .tuple #[lk 0 0 0 0 0, .int .i64 2] ∧ L = L') := Numbered_call E L hT 31 2
theorem joins3_call : CallV Tryd.prog 38 #[.int .i64 4, lk 1 0 0 0 0, lk 0 0 0 0 0, lk 1 0 0 0 0] E L (.bool true) := joinsT_call E L _ _ _ _ _ _ _ _ _ _ _ _ _ _ _ _ (by rfl)
theorem begins1_call : CallV Tryd.prog 39 #[lk 1 0 0 0 0, lk 2 0 1 0 0, .bool true] E L (.bool true) := beginsT_call E L _ _ _ _ _ _ _ _ _ _ _ (by rfl)
theorem beginsT_call' : CallV Tryd.prog 39 #[lk 2 0 1 0 0, lk 1 0 0 0 0, .bool false] E L (.bool true) := beginsT_call E L _ _ _ _ _ _ _ _ _ _ _ (by rfl)
theorem parses1_call : CallV Tryd.prog 40 #[.string (S [45]), .int .i64 0] E L (.bool true) := parsesT_call E L _ (by simp) _ parseP_m
theorem parses2_call : CallV Tryd.prog 40 #[.string (S [48, 32, 32, 55]), .int .i64 3] E L (.bool true) := parsesT_call E L _ (by simp) _ parseP_07b
theorem parses3_call : CallV Tryd.prog 40 #[.string (S [56]), .int .i64 14] E L (.bool true) := parsesT_call E L _ (by simp) _ parseP_8
theorem parses4_call : CallV Tryd.prog 40 #[.string (S [49, 50]), .int .i64 3] E L (.bool true) := parsesT_call E L _ (by simp) _ parseP_12
theorem parsesT_call' : CallV Tryd.prog 40 #[.string (S []), .int .i64 3] E L (.bool true) := parsesT_call E L _ (by simp) _ parseP_0
theorem numbered1_call (hT : SlE E 1 (some ⟨5, 1, none⟩) 1 [.int .u8 1]) : CallV Tryd.prog 41 #[lk 0 0 0 0 0, .int .i64 2, .int .i64 0] E L (.bool true) := numberedT_call E L hT _ _ _ _ _ _ _ (by rfl)
theorem numbered2_call (hT : SlE E 1 (some ⟨5, 1, none⟩) 1 [.int .u8 1]) : CallV Tryd.prog 41 #[lk 1 0 0 0 0, .int .i64 2, .int .i64 1] E L (.bool true) := numberedT_call E L hT _ _ _ _ _ _ _ (by rfl)
theorem numbered3_call (hT : SlE E 1 (some ⟨5, 1, none⟩) 1 [.int .u8 1]) : CallV Tryd.prog 41 #[lk 1 1 0 0 0, .int .i64 2, .int .i64 16] E L (.bool true) := numberedT_call E L hT _ _ _ _ _ _ _ (by rfl)
theorem numberedT_call' (hT : SlE E 1 (some ⟨5, 1, none⟩) 1 [.int .u8 1]) : CallV Tryd.prog 41 #[lk 4 1 1 1 1, .int .i64 2, .int .i64 30] E L (.bool true) := numberedT_call E L hT _ _ _ _ _ _ _ (by rfl)
theorem CheckK1_call : CallV Tryd.prog 18 #[lk 1 0 1 0 0, .int .i64 8] E L (.int .i64 3) := Check_call E L 1 0 1 0 0 8
theorem Check_call' : CallV Tryd.prog 18 #[lk 2 0 1 0 0, .int .i64 1] E L (.int .i64 14) := Check_call E L 2 0 1 0 0 1
theorem LookKnown_call (hT : SlE E 1 (some ⟨5, 1, none⟩) 1 [.int .u8 1]) : CallS Tryd.prog 6 #[] E L (fun r E' L' => r = .bool true ∧ L = L') := by
  have hnil : SlE E 1 none 0 [] := SlE.nil
  have hA0 : (knA.drop (0 * 5)).take 5 = [.int .i64 0, .int .i64 0, .int .i64 0, .int .i64 0, .int .i64 0] := rfl
  have hA1 : (knA.drop (1 * 5)).take 5 = [.int .i64 1, .int .i64 0, .int .i64 0, .int .i64 0, .int .i64 0] := rfl
  have hA2 : (knA.drop (2 * 5)).take 5 = [.int .i64 1, .int .i64 1, .int .i64 0, .int .i64 0, .int .i64 0] := rfl
  have hB2 : (knB.drop (2 * 5)).take 5 = [.int .i64 2, .int .i64 0, .int .i64 0, .int .i64 0, .int .i64 0] := rfl
  refine CallS.intro (l := []) _ Tryd.func6 rfl Tryd.ntmps6 rfl ?_
  refine G_seq (G_region ?_)
  refine G_val (V_assign rfl rfl) rfl rfl (.none rfl) ?_
  refine G_end (X_then (G_seq (G_region ?_)))
  (refine G_litZ rfl rfl (by decide) (by simp [fillS, zeros, setLs, setL, Value.cells, List.range, List.range.loop]; rfl) (by rfl) rfl rfl (.none rfl) ?_; intro b30 E30 hE30 hs30)
  replace hT := hT.mono hE30
  replace hnil := hnil.mono hE30
  refine G_callv (k := 12) (.mk rfl rfl rfl rfl) rfl rfl (.none rfl) (OfK1_call _ _ _ _ (by assumption)) ?_
  refine G_val (V_move rfl rfl) rfl rfl (.none rfl) ?_
  refine G_val (V_extract rfl rfl rfl) rfl rfl (.none rfl) ?_
  refine G_val (V_extract rfl rfl rfl) rfl rfl (.none rfl) ?_
  (refine G_alloc rfl rfl rfl (.none rfl) ?_; intro b1)
  refine G_storeA rfl rfl rfl rfl (by simp [Value.oneCell']) rfl (.none rfl) (.head _ _ _) rfl ?_
  refine G_val (V_assign rfl rfl) rfl rfl (.none rfl) ?_
  refine G_end (X_then (G_seq (G_region ?_)))
  (refine G_litZ rfl rfl (by decide) (by simp [fillS, zeros, setLs, setL, Value.cells, List.range, List.range.loop]; rfl) (by rfl) rfl rfl (.none rfl) ?_; intro b35 E35 hE35 hs35)
  replace hs30 := hs30.mono hE35
  replace hT := hT.mono hE35
  replace hnil := hnil.mono hE35
  refine G_callv (k := 12) (.mk rfl rfl rfl rfl) rfl rfl (.none rfl) (OfK2_call _ _ _ _ (by assumption)) ?_
  refine G_val (V_move rfl rfl) rfl rfl (.none rfl) ?_
  refine G_val (V_extract rfl rfl rfl) rfl rfl (.none rfl) ?_
  refine G_val (V_extract rfl rfl rfl) rfl rfl (.none rfl) ?_
  (refine G_alloc rfl rfl rfl (.none rfl) ?_; intro b3)
  refine G_storeA rfl rfl rfl rfl (by simp [Value.oneCell']) rfl (.none rfl) (.head _ _ _) rfl ?_
  refine G_val (V_assign rfl rfl) rfl rfl (.none rfl) ?_
  refine G_end (X_then (G_seq (G_region ?_)))
  (refine G_litZ rfl rfl (by decide) (by simp [fillS, zeros, setLs, setL, Value.cells, List.range, List.range.loop]; rfl) (by rfl) rfl rfl (.none rfl) ?_; intro b40 E40 hE40 hs40)
  replace hs35 := hs35.mono hE40
  replace hs30 := hs30.mono hE40
  replace hT := hT.mono hE40
  replace hnil := hnil.mono hE40
  refine G_callv (k := 12) (.mk rfl rfl rfl rfl) rfl rfl (.none rfl) (Of_call' _ _ _ _ (by assumption)) ?_
  refine G_val (V_move rfl rfl) rfl rfl (.none rfl) ?_
  refine G_val (V_extract rfl rfl rfl) rfl rfl (.none rfl) ?_
  refine G_val (V_extract rfl rfl rfl) rfl rfl (.none rfl) ?_
  (refine G_alloc rfl rfl rfl (.none rfl) ?_; intro b5)
  refine G_storeA rfl rfl rfl rfl (by simp [Value.oneCell']) rfl (.none rfl) (.head _ _ _) rfl ?_
  refine G_val (V_assign rfl rfl) rfl rfl (.none rfl) ?_
  refine G_end (X_then (G_seq (G_region ?_)))
  (refine G_litZ rfl rfl (by decide) (by simp [fillS, zeros, setLs, setL, Value.cells, List.range, List.range.loop]; rfl) (by rfl) rfl rfl (.none rfl) ?_; intro b45 E45 hE45 hs45)
  replace hs40 := hs40.mono hE45
  replace hs35 := hs35.mono hE45
  replace hs30 := hs30.mono hE45
  replace hT := hT.mono hE45
  replace hnil := hnil.mono hE45
  refine G_callv (k := 37) (.mk rfl rfl rfl rfl) rfl rfl (.none rfl) (of_1 _ _ _ _ _ (by assumption) (by omega)) ?_
  dsimp only [Go.Proofs.YthcfakmmomfcaaaDoor.lk]
  (refine G_litZ rfl rfl (by decide) (by simp [fillS, zeros, setLs, setL, Value.cells, List.range, List.range.loop]; rfl) (by rfl) rfl rfl (.none rfl) ?_; intro b47 E47 hE47 hs47)
  replace hs45 := hs45.mono hE47
  replace hs40 := hs40.mono hE47
  replace hs35 := hs35.mono hE47
  replace hs30 := hs30.mono hE47
  replace hT := hT.mono hE47
  replace hnil := hnil.mono hE47
  refine G_callv (k := 37) (.mk rfl rfl rfl rfl) rfl rfl (.none rfl) (of_1 _ _ _ _ _ (by assumption) (by omega)) ?_
  dsimp only [Go.Proofs.YthcfakmmomfcaaaDoor.lk]
  refine G_call (k := 21) (.mk rfl rfl rfl rfl) rfl rfl (.none rfl) (Join_call' _ _) ?_
  rintro r1 E2 L3 hE4 ⟨rfl, rfl⟩
  replace hs47 := hs47.mono hE4
  replace hs45 := hs45.mono hE4
  replace hs40 := hs40.mono hE4
  replace hs35 := hs35.mono hE4
  replace hs30 := hs30.mono hE4
  replace hT := hT.mono hE4
  replace hnil := hnil.mono hE4
  refine G_val (V_move rfl rfl) rfl rfl (.none rfl) ?_
  refine G_val (V_extract rfl rfl rfl) rfl rfl (.none rfl) ?_
  refine G_val (V_extract rfl rfl rfl) rfl rfl (.none rfl) ?_
  (refine G_alloc rfl rfl rfl (.none rfl) ?_; intro b7)
  refine G_storeA rfl rfl rfl rfl (by simp [Value.oneCell']) rfl (.none rfl) (.head _ _ _) rfl ?_
  refine G_val (V_assign rfl rfl) rfl rfl (.none rfl) ?_
  refine G_end (X_then (G_seq (G_region ?_)))
  (refine G_litZ rfl rfl (by decide) (by simp [fillS, zeros, setLs, setL, Value.cells, List.range, List.range.loop]; rfl) (by rfl) rfl rfl (.none rfl) ?_; intro b53 E53 hE53 hs53)
  replace hs47 := hs47.mono hE53
  replace hs45 := hs45.mono hE53
  replace hs40 := hs40.mono hE53
  replace hs35 := hs35.mono hE53
  replace hs30 := hs30.mono hE53
  replace hT := hT.mono hE53
  replace hnil := hnil.mono hE53
  refine G_callv (k := 37) (.mk rfl rfl rfl rfl) rfl rfl (.none rfl) (of_lit' _ _ _ _ _ _ _ (by assumption) (by omega) (by omega) (by omega)) ?_
  dsimp only [Go.Proofs.YthcfakmmomfcaaaDoor.lk]
  refine G_call (k := 23) (.mk rfl rfl rfl rfl) rfl rfl (.none rfl) (Cut_call' _ _) ?_
  rintro r5 E6 L7 hE8 ⟨rfl, rfl⟩
  replace hs53 := hs53.mono hE8
  replace hs47 := hs47.mono hE8
  replace hs45 := hs45.mono hE8
  replace hs40 := hs40.mono hE8
  replace hs35 := hs35.mono hE8
  replace hs30 := hs30.mono hE8
  replace hT := hT.mono hE8
  replace hnil := hnil.mono hE8
  refine G_val (V_move rfl rfl) rfl rfl (.none rfl) ?_
  refine G_val (V_extract rfl rfl rfl) rfl rfl (.none rfl) ?_
  refine G_val (V_extract rfl rfl rfl) rfl rfl (.none rfl) ?_
  (refine G_alloc rfl rfl rfl (.none rfl) ?_; intro b9)
  refine G_storeA rfl rfl rfl rfl (by simp [Value.oneCell']) rfl (.none rfl) (.head _ _ _) rfl ?_
  refine G_val (V_assign rfl rfl) rfl rfl (.none rfl) ?_
  refine G_end (X_then (G_seq (G_region ?_)))
  refine G_callv (k := 37) (.mk rfl rfl rfl rfl) rfl rfl (.none rfl) (of_0 _ _ _ _ (by assumption)) ?_
  dsimp only [Go.Proofs.YthcfakmmomfcaaaDoor.lk]
  refine G_call (k := 16) (.mk rfl rfl rfl rfl) rfl rfl (.none rfl) (Text_call' _ _) ?_
  rintro r9 E10 L11 hE12 ⟨rfl, rfl⟩
  replace hs53 := hs53.mono hE12
  replace hs47 := hs47.mono hE12
  replace hs45 := hs45.mono hE12
  replace hs40 := hs40.mono hE12
  replace hs35 := hs35.mono hE12
  replace hs30 := hs30.mono hE12
  replace hT := hT.mono hE12
  replace hnil := hnil.mono hE12
  refine G_val (V_move rfl rfl) rfl rfl (.none rfl) ?_
  refine G_val (V_extract rfl rfl rfl) rfl rfl (.none rfl) ?_
  refine G_val (V_extract rfl rfl rfl) rfl rfl (.none rfl) ?_
  refine G_val (V_assign rfl rfl) rfl rfl (.none rfl) ?_
  refine G_val (V_assign rfl rfl) rfl rfl (.none rfl) ?_
  refine G_end (X_then (G_seq (G_region ?_)))
  refine G_call (k := 35) (.mk rfl rfl rfl rfl) rfl rfl (.none rfl) (AllK1_call _ _) ?_
  rintro r13 E14 L15 hE16 ⟨z17, ⟨z18, ⟨rfl, ⟨Z19, rfl⟩⟩⟩⟩
  replace hs53 := hs53.mono hE16
  replace hs47 := hs47.mono hE16
  replace hs45 := hs45.mono hE16
  replace hs40 := hs40.mono hE16
  replace hs35 := hs35.mono hE16
  replace hs30 := hs30.mono hE16
  replace hT := hT.mono hE16
  replace hnil := hnil.mono hE16
  refine G_val (V_move rfl rfl) rfl rfl (.none rfl) ?_
  refine G_val (V_extract rfl rfl rfl) rfl rfl (.none rfl) ?_
  refine G_val (V_extract rfl rfl rfl) rfl rfl (.none rfl) ?_
  refine G_val (V_assign rfl rfl) rfl rfl (.none rfl) ?_
  refine G_val (V_assign rfl rfl) rfl rfl (.none rfl) ?_
  refine G_end (X_then (G_seq (G_region ?_)))
  refine G_call (k := 35) (.mk rfl rfl rfl rfl) rfl rfl (.none rfl) (AllK2_call _ _) ?_
  rintro r20 E21 L22 hE23 ⟨z24, ⟨z25, ⟨rfl, ⟨Z26, rfl⟩⟩⟩⟩
  replace Z19 := Z19.mono hE23
  replace hs53 := hs53.mono hE23
  replace hs47 := hs47.mono hE23
  replace hs45 := hs45.mono hE23
  replace hs40 := hs40.mono hE23
  replace hs35 := hs35.mono hE23
  replace hs30 := hs30.mono hE23
  replace hT := hT.mono hE23
  replace hnil := hnil.mono hE23
  refine G_val (V_move rfl rfl) rfl rfl (.none rfl) ?_
  refine G_val (V_extract rfl rfl rfl) rfl rfl (.none rfl) ?_
  refine G_val (V_extract rfl rfl rfl) rfl rfl (.none rfl) ?_
  refine G_val (V_assign rfl rfl) rfl rfl (.none rfl) ?_
  refine G_val (V_assign rfl rfl) rfl rfl (.none rfl) ?_
  refine G_end (X_then (G_seq (G_region ?_)))
  refine G_call (k := 35) (.mk rfl rfl rfl rfl) rfl rfl (.none rfl) (All_call' _ _) ?_
  rintro r27 E28 L29 hE31 ⟨z32, ⟨z33, ⟨rfl, ⟨Z34, rfl⟩⟩⟩⟩
  replace Z26 := Z26.mono hE31
  replace Z19 := Z19.mono hE31
  replace hs53 := hs53.mono hE31
  replace hs47 := hs47.mono hE31
  replace hs45 := hs45.mono hE31
  replace hs40 := hs40.mono hE31
  replace hs35 := hs35.mono hE31
  replace hs30 := hs30.mono hE31
  replace hT := hT.mono hE31
  replace hnil := hnil.mono hE31
  refine G_val (V_move rfl rfl) rfl rfl (.none rfl) ?_
  refine G_val (V_extract rfl rfl rfl) rfl rfl (.none rfl) ?_
  refine G_val (V_extract rfl rfl rfl) rfl rfl (.none rfl) ?_
  refine G_val (V_assign rfl rfl) rfl rfl (.none rfl) ?_
  refine G_val (V_assign rfl rfl) rfl rfl (.none rfl) ?_
  refine G_end (X_then (G_seq (G_region ?_)))
  (refine G_litZ rfl rfl (by decide) (by simp [fillS, zeros, setLs, setL, Value.cells, List.range, List.range.loop]; rfl) (by rfl) rfl rfl (.none rfl) ?_; intro b76 E76 hE76 hs76)
  replace Z34 := Z34.mono hE76
  replace Z26 := Z26.mono hE76
  replace Z19 := Z19.mono hE76
  replace hs53 := hs53.mono hE76
  replace hs47 := hs47.mono hE76
  replace hs45 := hs45.mono hE76
  replace hs40 := hs40.mono hE76
  replace hs35 := hs35.mono hE76
  replace hs30 := hs30.mono hE76
  replace hT := hT.mono hE76
  replace hnil := hnil.mono hE76
  refine G_callv (k := 37) (.mk rfl rfl rfl rfl) rfl rfl (.none rfl) (of_1 _ _ _ _ _ (by assumption) (by omega)) ?_
  dsimp only [Go.Proofs.YthcfakmmomfcaaaDoor.lk]
  refine G_call (k := 31) (.mk rfl rfl rfl rfl) rfl rfl (.none rfl) (Number_call' _ _ (by assumption)) ?_
  rintro r35 E36 L37 hE38 ⟨rfl, rfl⟩
  replace hs76 := hs76.mono hE38
  replace Z34 := Z34.mono hE38
  replace Z26 := Z26.mono hE38
  replace Z19 := Z19.mono hE38
  replace hs53 := hs53.mono hE38
  replace hs47 := hs47.mono hE38
  replace hs45 := hs45.mono hE38
  replace hs40 := hs40.mono hE38
  replace hs35 := hs35.mono hE38
  replace hs30 := hs30.mono hE38
  replace hT := hT.mono hE38
  replace hnil := hnil.mono hE38
  refine G_val (V_move rfl rfl) rfl rfl (.none rfl) ?_
  refine G_val (V_extract rfl rfl rfl) rfl rfl (.none rfl) ?_
  refine G_val (V_extract rfl rfl rfl) rfl rfl (.none rfl) ?_
  refine G_val (V_assign rfl rfl) rfl rfl (.none rfl) ?_
  refine G_val (V_assign rfl rfl) rfl rfl (.none rfl) ?_
  refine G_end (X_then (G_seq (G_region ?_)))
  refine G_call (k := 33) (.mk rfl rfl rfl rfl) rfl rfl (.none rfl) (NumberedK1_call _ _ (by assumption)) ?_
  rintro r39 E41 L42 hE43 ⟨rfl, rfl⟩
  replace hs76 := hs76.mono hE43
  replace Z34 := Z34.mono hE43
  replace Z26 := Z26.mono hE43
  replace Z19 := Z19.mono hE43
  replace hs53 := hs53.mono hE43
  replace hs47 := hs47.mono hE43
  replace hs45 := hs45.mono hE43
  replace hs40 := hs40.mono hE43
  replace hs35 := hs35.mono hE43
  replace hs30 := hs30.mono hE43
  replace hT := hT.mono hE43
  replace hnil := hnil.mono hE43
  refine G_val (V_move rfl rfl) rfl rfl (.none rfl) ?_
  refine G_val (V_extract rfl rfl rfl) rfl rfl (.none rfl) ?_
  refine G_val (V_extract rfl rfl rfl) rfl rfl (.none rfl) ?_
  (refine G_alloc rfl rfl rfl (.none rfl) ?_; intro b21)
  refine G_storeA rfl rfl rfl rfl (by simp [Value.oneCell']) rfl (.none rfl) (.head _ _ _) rfl ?_
  refine G_val (V_assign rfl rfl) rfl rfl (.none rfl) ?_
  refine G_end (X_then (G_seq (G_region ?_)))
  refine G_call (k := 33) (.mk rfl rfl rfl rfl) rfl rfl (.none rfl) (Numbered_call' _ _ (by assumption)) ?_
  rintro r44 E46 L47 hE48 ⟨rfl, rfl⟩
  replace hs76 := hs76.mono hE48
  replace Z34 := Z34.mono hE48
  replace Z26 := Z26.mono hE48
  replace Z19 := Z19.mono hE48
  replace hs53 := hs53.mono hE48
  replace hs47 := hs47.mono hE48
  replace hs45 := hs45.mono hE48
  replace hs40 := hs40.mono hE48
  replace hs35 := hs35.mono hE48
  replace hs30 := hs30.mono hE48
  replace hT := hT.mono hE48
  replace hnil := hnil.mono hE48
  refine G_val (V_move rfl rfl) rfl rfl (.none rfl) ?_
  refine G_val (V_extract rfl rfl rfl) rfl rfl (.none rfl) ?_
  refine G_val (V_extract rfl rfl rfl) rfl rfl (.none rfl) ?_
  (refine G_alloc rfl rfl rfl (.none rfl) ?_; intro b23)
  refine G_storeA rfl rfl rfl rfl (by simp [Value.oneCell']) rfl (.none rfl) (.head _ _ _) rfl ?_
  refine G_val (V_assign rfl rfl) rfl rfl (.none rfl) ?_
  refine G_end (X_then (G_seq ?_))
  refine G_drawX 52 ((0, 0) :: (1, 0) :: (2, 0) :: (3, 0) :: (4, 0) :: (5, 0) :: (6, 0) :: (7, 0) :: (8, 0) :: (9, 0) :: (10, 0) :: (11, 3) :: (12, 0) :: (13, 0) :: (14, 0) :: (15, 0) :: (16, 2) :: (17, 3) :: (18, 3) :: (19, 2) :: (20, 3) :: (21, 3) :: (22, 0) :: (23, 0) :: (24, 0) :: (25, 0) :: (26, 0) :: (27, 0) :: (28, 2) :: (29, 3) :: (30, 2) :: (31, 3) :: (32, 3) :: (33, 0) :: (34, 0) :: (35, 2) :: (36, 3) :: (37, 2) :: (38, 3) :: (39, 3) :: (40, 0) :: (41, 0) :: (42, 0) :: (43, 0) :: (44, 0) :: (45, 0) :: (46, 1) :: (47, 2) :: (48, 3) :: (49, 0) :: (50, 0) :: (51, 0) :: []) mixed (by kernel_rfl) ?_
  refine F_pure rfl (fun _ _ => V_move rfl rfl) rfl rfl (.none rfl) ?_
  refine F_pure rfl (fun _ _ => V_eql rfl rfl rfl) rfl rfl (.none rfl) ?_
  refine F_pure rfl (fun _ _ => V_move rfl rfl) rfl rfl (.none rfl) ?_
  refine GF.bool_t 91 rfl (by kernel_rfl) ?_
  refine F_pure rfl (fun _ _ => V_move rfl rfl) rfl rfl (.yes rfl rfl rfl rfl) ?_
  refine F_pure rfl (fun _ _ => V_eql rfl rfl rfl) rfl rfl (.yes rfl rfl rfl rfl) ?_
  refine F_pure rfl (fun _ _ => V_pick_t rfl rfl rfl) rfl rfl (.none rfl) ?_
  refine F_pure rfl (fun _ _ => V_move rfl rfl) rfl rfl (.none rfl) ?_
  refine GF.bool_t 95 rfl (by kernel_rfl) ?_
  refine F_pure rfl (fun _ _ => V_move rfl rfl) rfl rfl (.yes rfl rfl rfl rfl) ?_
  refine F_pure rfl (fun _ _ => V_eql rfl rfl rfl) rfl rfl (.yes rfl rfl rfl rfl) ?_
  refine F_pure rfl (fun _ _ => V_pick_t rfl rfl rfl) rfl rfl (.none rfl) ?_
  refine F_pure rfl (fun _ _ => V_move rfl rfl) rfl rfl (.none rfl) ?_
  refine GF.bool_t 99 rfl (by kernel_rfl) ?_
  refine F_callv (k := 37) rfl (.mk rfl rfl rfl rfl) rfl rfl (.yes rfl rfl rfl rfl) (fun _ => of_0 _ _ _ _ (by assumption)) ?_
  dsimp only [Go.Proofs.YthcfakmmomfcaaaDoor.lk]
  refine F_pure rfl (fun _ _ => V_build rfl rfl (by simp [fillV, setLs, setL, Value.cells]; rfl)) rfl rfl (.yes rfl rfl rfl rfl) ?_
  refine F_pure rfl (fun _ _ => V_aeql_25 rfl rfl rfl) rfl rfl (.yes rfl rfl rfl rfl) ?_
  refine F_pure rfl (fun _ _ => V_pick_t rfl rfl rfl) rfl rfl (.none rfl) ?_
  refine F_pure rfl (fun _ _ => V_move rfl rfl) rfl rfl (.none rfl) ?_
  refine GF.bool_t 104 rfl (by kernel_rfl) ?_
  (refine F_litZ rfl rfl rfl (by decide) (by simp [fillS, zeros, setLs, setL, Value.cells, List.range, List.range.loop]; rfl) (by rfl) rfl rfl (.yes rfl rfl rfl rfl) ?_; intro b105 E105 hE105 hs105)
  replace hs76 := hs76.mono hE105
  replace Z34 := Z34.mono hE105
  replace Z26 := Z26.mono hE105
  replace Z19 := Z19.mono hE105
  replace hs53 := hs53.mono hE105
  replace hs47 := hs47.mono hE105
  replace hs45 := hs45.mono hE105
  replace hs40 := hs40.mono hE105
  replace hs35 := hs35.mono hE105
  replace hs30 := hs30.mono hE105
  replace hT := hT.mono hE105
  replace hnil := hnil.mono hE105
  refine F_callv (k := 37) rfl (.mk rfl rfl rfl rfl) rfl rfl (.yes rfl rfl rfl rfl) (fun _ => of_1 _ _ _ _ _ (by assumption) (by omega)) ?_
  dsimp only [Go.Proofs.YthcfakmmomfcaaaDoor.lk]
  refine F_callv (k := 37) rfl (.mk rfl rfl rfl rfl) rfl rfl (.yes rfl rfl rfl rfl) (fun _ => of_0 _ _ _ _ (by assumption)) ?_
  dsimp only [Go.Proofs.YthcfakmmomfcaaaDoor.lk]
  (refine F_litZ rfl rfl rfl (by decide) (by simp [fillS, zeros, setLs, setL, Value.cells, List.range, List.range.loop]; rfl) (by rfl) rfl rfl (.yes rfl rfl rfl rfl) ?_; intro b108 E108 hE108 hs108)
  replace hs105 := hs105.mono hE108
  replace hs76 := hs76.mono hE108
  replace Z34 := Z34.mono hE108
  replace Z26 := Z26.mono hE108
  replace Z19 := Z19.mono hE108
  replace hs53 := hs53.mono hE108
  replace hs47 := hs47.mono hE108
  replace hs45 := hs45.mono hE108
  replace hs40 := hs40.mono hE108
  replace hs35 := hs35.mono hE108
  replace hs30 := hs30.mono hE108
  replace hT := hT.mono hE108
  replace hnil := hnil.mono hE108
  refine F_callv (k := 37) rfl (.mk rfl rfl rfl rfl) rfl rfl (.yes rfl rfl rfl rfl) (fun _ => of_1 _ _ _ _ _ (by assumption) (by omega)) ?_
  dsimp only [Go.Proofs.YthcfakmmomfcaaaDoor.lk]
  refine F_callv (k := 38) rfl (.mk rfl rfl rfl rfl) rfl rfl (.yes rfl rfl rfl rfl) (fun _ => joins3_call _ _) ?_
  refine F_pure rfl (fun _ _ => V_pick_t rfl rfl rfl) rfl rfl (.none rfl) ?_
  refine F_pure rfl (fun _ _ => V_move rfl rfl) rfl rfl (.none rfl) ?_
  refine F_pure rfl (fun _ _ => V_move rfl rfl) rfl rfl (.yes rfl rfl rfl rfl) ?_
  refine F_pure rfl (fun _ _ => V_eql rfl rfl rfl) rfl rfl (.yes rfl rfl rfl rfl) ?_
  refine F_pure rfl (fun _ _ => V_pick_t rfl rfl rfl) rfl rfl (.none rfl) ?_
  refine F_pure rfl (fun _ _ => V_move rfl rfl) rfl rfl (.none rfl) ?_
  refine GF.bool_t 116 rfl (by kernel_rfl) ?_
  (refine F_litZ rfl rfl rfl (by decide) (by simp [fillS, zeros, setLs, setL, Value.cells, List.range, List.range.loop]; rfl) (by rfl) rfl rfl (.yes rfl rfl rfl rfl) ?_; intro b117 E117 hE117 hs117)
  replace hs108 := hs108.mono hE117
  replace hs105 := hs105.mono hE117
  replace hs76 := hs76.mono hE117
  replace Z34 := Z34.mono hE117
  replace Z26 := Z26.mono hE117
  replace Z19 := Z19.mono hE117
  replace hs53 := hs53.mono hE117
  replace hs47 := hs47.mono hE117
  replace hs45 := hs45.mono hE117
  replace hs40 := hs40.mono hE117
  replace hs35 := hs35.mono hE117
  replace hs30 := hs30.mono hE117
  replace hT := hT.mono hE117
  replace hnil := hnil.mono hE117
  refine F_callv (k := 37) rfl (.mk rfl rfl rfl rfl) rfl rfl (.yes rfl rfl rfl rfl) (fun _ => of_1 _ _ _ _ _ (by assumption) (by omega)) ?_
  dsimp only [Go.Proofs.YthcfakmmomfcaaaDoor.lk]
  (refine F_litZ rfl rfl rfl (by decide) (by simp [fillS, zeros, setLs, setL, Value.cells, List.range, List.range.loop]; rfl) (by rfl) rfl rfl (.yes rfl rfl rfl rfl) ?_; intro b119 E119 hE119 hs119)
  replace hs117 := hs117.mono hE119
  replace hs108 := hs108.mono hE119
  replace hs105 := hs105.mono hE119
  replace hs76 := hs76.mono hE119
  replace Z34 := Z34.mono hE119
  replace Z26 := Z26.mono hE119
  replace Z19 := Z19.mono hE119
  replace hs53 := hs53.mono hE119
  replace hs47 := hs47.mono hE119
  replace hs45 := hs45.mono hE119
  replace hs40 := hs40.mono hE119
  replace hs35 := hs35.mono hE119
  replace hs30 := hs30.mono hE119
  replace hT := hT.mono hE119
  replace hnil := hnil.mono hE119
  refine F_callv (k := 37) rfl (.mk rfl rfl rfl rfl) rfl rfl (.yes rfl rfl rfl rfl) (fun _ => ofL_call' _ _ _ _ _ _ (by assumption) (by omega) (by omega)) ?_
  dsimp only [Go.Proofs.YthcfakmmomfcaaaDoor.lk]
  refine F_callv (k := 39) rfl (.mk rfl rfl rfl rfl) rfl rfl (.yes rfl rfl rfl rfl) (fun _ => begins1_call _ _) ?_
  refine F_pure rfl (fun _ _ => V_pick_t rfl rfl rfl) rfl rfl (.none rfl) ?_
  refine F_pure rfl (fun _ _ => V_move rfl rfl) rfl rfl (.none rfl) ?_
  (refine F_litZ rfl rfl rfl (by decide) (by simp [fillS, zeros, setLs, setL, Value.cells, List.range, List.range.loop]; rfl) (by rfl) rfl rfl (.yes rfl rfl rfl rfl) ?_; intro b124 E124 hE124 hs124)
  replace hs119 := hs119.mono hE124
  replace hs117 := hs117.mono hE124
  replace hs108 := hs108.mono hE124
  replace hs105 := hs105.mono hE124
  replace hs76 := hs76.mono hE124
  replace Z34 := Z34.mono hE124
  replace Z26 := Z26.mono hE124
  replace Z19 := Z19.mono hE124
  replace hs53 := hs53.mono hE124
  replace hs47 := hs47.mono hE124
  replace hs45 := hs45.mono hE124
  replace hs40 := hs40.mono hE124
  replace hs35 := hs35.mono hE124
  replace hs30 := hs30.mono hE124
  replace hT := hT.mono hE124
  replace hnil := hnil.mono hE124
  refine F_callv (k := 37) rfl (.mk rfl rfl rfl rfl) rfl rfl (.yes rfl rfl rfl rfl) (fun _ => ofL_call' _ _ _ _ _ _ (by assumption) (by omega) (by omega)) ?_
  dsimp only [Go.Proofs.YthcfakmmomfcaaaDoor.lk]
  (refine F_litZ rfl rfl rfl (by decide) (by simp [fillS, zeros, setLs, setL, Value.cells, List.range, List.range.loop]; rfl) (by rfl) rfl rfl (.yes rfl rfl rfl rfl) ?_; intro b126 E126 hE126 hs126)
  replace hs124 := hs124.mono hE126
  replace hs119 := hs119.mono hE126
  replace hs117 := hs117.mono hE126
  replace hs108 := hs108.mono hE126
  replace hs105 := hs105.mono hE126
  replace hs76 := hs76.mono hE126
  replace Z34 := Z34.mono hE126
  replace Z26 := Z26.mono hE126
  replace Z19 := Z19.mono hE126
  replace hs53 := hs53.mono hE126
  replace hs47 := hs47.mono hE126
  replace hs45 := hs45.mono hE126
  replace hs40 := hs40.mono hE126
  replace hs35 := hs35.mono hE126
  replace hs30 := hs30.mono hE126
  replace hT := hT.mono hE126
  replace hnil := hnil.mono hE126
  refine F_callv (k := 37) rfl (.mk rfl rfl rfl rfl) rfl rfl (.yes rfl rfl rfl rfl) (fun _ => of_1 _ _ _ _ _ (by assumption) (by omega)) ?_
  dsimp only [Go.Proofs.YthcfakmmomfcaaaDoor.lk]
  refine F_callv (k := 39) rfl (.mk rfl rfl rfl rfl) rfl rfl (.yes rfl rfl rfl rfl) (fun _ => beginsT_call' _ _) ?_
  refine F_pure rfl (fun _ _ => V_pick_t rfl rfl rfl) rfl rfl (.none rfl) ?_
  refine F_pure rfl (fun _ _ => V_move rfl rfl) rfl rfl (.none rfl) ?_
  refine F_pure rfl (fun _ _ => V_move rfl rfl) rfl rfl (.yes rfl rfl rfl rfl) ?_
  refine F_pure rfl (fun _ _ => V_eql rfl rfl rfl) rfl rfl (.yes rfl rfl rfl rfl) ?_
  refine F_pure rfl (fun _ _ => V_pick_t rfl rfl rfl) rfl rfl (.none rfl) ?_
  refine F_pure rfl (fun _ _ => V_move rfl rfl) rfl rfl (.none rfl) ?_
  refine GF.bool_t 134 rfl (by kernel_rfl) ?_
  refine F_load rfl (.tail _ (.tail _ (.head _))) (V_loadA rfl rfl (Cells.own (.head _)) rfl) rfl rfl (.yes rfl rfl rfl rfl) ?_
  (refine F_litZ rfl rfl rfl (by decide) (by simp [fillS, zeros, setLs, setL, Value.cells, List.range, List.range.loop]; rfl) (by rfl) rfl rfl (.yes rfl rfl rfl rfl) ?_; intro b136 E136 hE136 hs136)
  replace hs126 := hs126.mono hE136
  replace hs124 := hs124.mono hE136
  replace hs119 := hs119.mono hE136
  replace hs117 := hs117.mono hE136
  replace hs108 := hs108.mono hE136
  replace hs105 := hs105.mono hE136
  replace hs76 := hs76.mono hE136
  replace Z34 := Z34.mono hE136
  replace Z26 := Z26.mono hE136
  replace Z19 := Z19.mono hE136
  replace hs53 := hs53.mono hE136
  replace hs47 := hs47.mono hE136
  replace hs45 := hs45.mono hE136
  replace hs40 := hs40.mono hE136
  replace hs35 := hs35.mono hE136
  replace hs30 := hs30.mono hE136
  replace hT := hT.mono hE136
  replace hnil := hnil.mono hE136
  refine F_callv (k := 37) rfl (.mk rfl rfl rfl rfl) rfl rfl (.yes rfl rfl rfl rfl) (fun _ => ofL_call' _ _ _ _ _ _ (by assumption) (by omega) (by omega)) ?_
  dsimp only [Go.Proofs.YthcfakmmomfcaaaDoor.lk]
  refine F_pure rfl (fun _ _ => V_aeql_25 rfl rfl rfl) rfl rfl (.yes rfl rfl rfl rfl) ?_
  refine F_pure rfl (fun _ _ => V_pick_t rfl rfl rfl) rfl rfl (.none rfl) ?_
  refine F_pure rfl (fun _ _ => V_assign rfl rfl) rfl rfl (.none rfl) ?_
  (refine F_end (.nil _) ?_; dsimp only [List.drop])
  refine G_end (X_then (G_seq (G_region ?_)))
  refine G_val (V_move rfl rfl) rfl rfl (.none rfl) ?_
  refine G_val (V_eql rfl rfl rfl) rfl rfl (.none rfl) ?_
  refine G_val (V_move rfl rfl) rfl rfl (.none rfl) ?_
  refine G.bool_t 142 rfl (by kernel_rfl) ?_
  refine G_val (V_move rfl rfl) rfl rfl (.yes rfl rfl rfl rfl) ?_
  refine G_val (V_seql rfl rfl rfl) rfl rfl (.yes rfl rfl rfl rfl) ?_
  refine G_val (V_pick_t rfl rfl rfl) rfl rfl (.none rfl) ?_
  refine G_val (V_move rfl rfl) rfl rfl (.none rfl) ?_
  refine G.bool_t 146 rfl (by kernel_rfl) ?_
  refine G_callv (k := 40) (.mk rfl rfl rfl rfl) rfl rfl (.yes rfl rfl rfl rfl) (parses1_call _ _) ?_
  refine G_val (V_pick_t rfl rfl rfl) rfl rfl (.none rfl) ?_
  refine G_val (V_move rfl rfl) rfl rfl (.none rfl) ?_
  refine G_callv (k := 40) (.mk rfl rfl rfl rfl) rfl rfl (.yes rfl rfl rfl rfl) (parses2_call _ _) ?_
  refine G_val (V_pick_t rfl rfl rfl) rfl rfl (.none rfl) ?_
  refine G_val (V_move rfl rfl) rfl rfl (.none rfl) ?_
  refine G_callv (k := 40) (.mk rfl rfl rfl rfl) rfl rfl (.yes rfl rfl rfl rfl) (parses3_call _ _) ?_
  refine G_val (V_pick_t rfl rfl rfl) rfl rfl (.none rfl) ?_
  refine G_val (V_move rfl rfl) rfl rfl (.none rfl) ?_
  refine G_callv (k := 40) (.mk rfl rfl rfl rfl) rfl rfl (.yes rfl rfl rfl rfl) (parses4_call _ _) ?_
  refine G_val (V_pick_t rfl rfl rfl) rfl rfl (.none rfl) ?_
  refine G_val (V_move rfl rfl) rfl rfl (.none rfl) ?_
  refine G_callv (k := 40) (.mk rfl rfl rfl rfl) rfl rfl (.yes rfl rfl rfl rfl) (parsesT_call' _ _) ?_
  refine G_val (V_pick_t rfl rfl rfl) rfl rfl (.none rfl) ?_
  refine G_val (V_assign rfl rfl) rfl rfl (.none rfl) ?_
  refine G_end (X_then (G_seq ?_))
  refine G_drawX 52 ((0, 0) :: (1, 0) :: (2, 0) :: (3, 0) :: (4, 0) :: (5, 0) :: (6, 0) :: (7, 0) :: (8, 0) :: (9, 1) :: (10, 1) :: (11, 3) :: (12, 0) :: (13, 0) :: (14, 0) :: (15, 0) :: (16, 1) :: (17, 1) :: (18, 2) :: (19, 3) :: (20, 0) :: (21, 0) :: (22, 0) :: (23, 0) :: (24, 1) :: (25, 1) :: (26, 2) :: (27, 3) :: (28, 0) :: (29, 0) :: (30, 0) :: (31, 0) :: (32, 0) :: (33, 0) :: (34, 0) :: (35, 0) :: (36, 0) :: (37, 0) :: (38, 0) :: (39, 0) :: (40, 0) :: (41, 1) :: (42, 1) :: (43, 2) :: (44, 3) :: (45, 0) :: (46, 0) :: (47, 0) :: (48, 0) :: (49, 0) :: (50, 0) :: (51, 0) :: []) mixed (by kernel_rfl) ?_
  refine F_pure rfl (fun _ _ => V_move rfl rfl) rfl rfl (.none rfl) ?_
  refine F_pure rfl (fun _ _ => V_eql rfl rfl rfl) rfl rfl (.none rfl) ?_
  refine F_pure rfl (fun _ _ => V_move rfl rfl) rfl rfl (.none rfl) ?_
  refine GF.bool_t 163 rfl (by kernel_rfl) ?_
  refine F_pure rfl (fun _ _ => V_move rfl rfl) rfl rfl (.yes rfl rfl rfl rfl) ?_
  refine F_pure rfl (fun _ _ => V_lenS rfl rfl) rfl rfl (.yes rfl rfl rfl rfl) ?_
  refine F_pure rfl (fun _ _ => V_eql rfl rfl rfl) rfl rfl (.yes rfl rfl rfl rfl) ?_
  refine F_pure rfl (fun _ _ => V_pick_t rfl rfl rfl) rfl rfl (.none rfl) ?_
  refine F_pure rfl (fun _ _ => V_move rfl rfl) rfl rfl (.none rfl) ?_
  refine GF.bool_t 168 rfl (by kernel_rfl) ?_
  refine F_pure rfl (fun _ _ => V_move rfl rfl) rfl rfl (.yes rfl rfl rfl rfl) ?_
  refine F_loadE rfl (V_idxAddr rfl rfl rfl (SlE.rd (by assumption)) (by omega) (by omega)) rfl rfl (.yes rfl rfl rfl rfl) ?_
  refine F_loadE rfl (V_loadAS rfl rfl (SlE.rd (by assumption)) hA0 (by simp) (by rfl)) rfl rfl (.yes rfl rfl rfl rfl) ?_
  refine F_callv (k := 37) rfl (.mk rfl rfl rfl rfl) rfl rfl (.yes rfl rfl rfl rfl) (fun _ => of_0 _ _ _ _ (by assumption)) ?_
  dsimp only [Go.Proofs.YthcfakmmomfcaaaDoor.lk]
  refine F_pure rfl (fun _ _ => V_aeql_25 rfl rfl rfl) rfl rfl (.yes rfl rfl rfl rfl) ?_
  refine F_pure rfl (fun _ _ => V_pick_t rfl rfl rfl) rfl rfl (.none rfl) ?_
  refine F_pure rfl (fun _ _ => V_move rfl rfl) rfl rfl (.none rfl) ?_
  refine GF.bool_t 175 rfl (by kernel_rfl) ?_
  refine F_pure rfl (fun _ _ => V_move rfl rfl) rfl rfl (.yes rfl rfl rfl rfl) ?_
  refine F_loadE rfl (V_idxAddr rfl rfl rfl (SlE.rd (by assumption)) (by omega) (by omega)) rfl rfl (.yes rfl rfl rfl rfl) ?_
  refine F_loadE rfl (V_loadAS rfl rfl (SlE.rd (by assumption)) hA1 (by simp) (by rfl)) rfl rfl (.yes rfl rfl rfl rfl) ?_
  (refine F_litZ rfl rfl rfl (by decide) (by simp [fillS, zeros, setLs, setL, Value.cells, List.range, List.range.loop]; rfl) (by rfl) rfl rfl (.yes rfl rfl rfl rfl) ?_; intro b179 E179 hE179 hs179)
  replace hs136 := hs136.mono hE179
  replace hs126 := hs126.mono hE179
  replace hs124 := hs124.mono hE179
  replace hs119 := hs119.mono hE179
  replace hs117 := hs117.mono hE179
  replace hs108 := hs108.mono hE179
  replace hs105 := hs105.mono hE179
  replace hs76 := hs76.mono hE179
  replace Z34 := Z34.mono hE179
  replace Z26 := Z26.mono hE179
  replace Z19 := Z19.mono hE179
  replace hs53 := hs53.mono hE179
  replace hs47 := hs47.mono hE179
  replace hs45 := hs45.mono hE179
  replace hs40 := hs40.mono hE179
  replace hs35 := hs35.mono hE179
  replace hs30 := hs30.mono hE179
  replace hT := hT.mono hE179
  replace hnil := hnil.mono hE179
  refine F_callv (k := 37) rfl (.mk rfl rfl rfl rfl) rfl rfl (.yes rfl rfl rfl rfl) (fun _ => of_1 _ _ _ _ _ (by assumption) (by omega)) ?_
  dsimp only [Go.Proofs.YthcfakmmomfcaaaDoor.lk]
  refine F_pure rfl (fun _ _ => V_aeql_25 rfl rfl rfl) rfl rfl (.yes rfl rfl rfl rfl) ?_
  refine F_pure rfl (fun _ _ => V_pick_t rfl rfl rfl) rfl rfl (.none rfl) ?_
  refine F_pure rfl (fun _ _ => V_move rfl rfl) rfl rfl (.none rfl) ?_
  refine GF.bool_t 183 rfl (by kernel_rfl) ?_
  refine F_pure rfl (fun _ _ => V_move rfl rfl) rfl rfl (.yes rfl rfl rfl rfl) ?_
  refine F_loadE rfl (V_idxAddr rfl rfl rfl (SlE.rd (by assumption)) (by omega) (by omega)) rfl rfl (.yes rfl rfl rfl rfl) ?_
  refine F_loadE rfl (V_loadAS rfl rfl (SlE.rd (by assumption)) (by assumption) (by simp) (by rfl)) rfl rfl (.yes rfl rfl rfl rfl) ?_
  (refine F_litZ rfl rfl rfl (by decide) (by simp [fillS, zeros, setLs, setL, Value.cells, List.range, List.range.loop]; rfl) (by rfl) rfl rfl (.yes rfl rfl rfl rfl) ?_; intro b187 E187 hE187 hs187)
  replace hs179 := hs179.mono hE187
  replace hs136 := hs136.mono hE187
  replace hs126 := hs126.mono hE187
  replace hs124 := hs124.mono hE187
  replace hs119 := hs119.mono hE187
  replace hs117 := hs117.mono hE187
  replace hs108 := hs108.mono hE187
  replace hs105 := hs105.mono hE187
  replace hs76 := hs76.mono hE187
  replace Z34 := Z34.mono hE187
  replace Z26 := Z26.mono hE187
  replace Z19 := Z19.mono hE187
  replace hs53 := hs53.mono hE187
  replace hs47 := hs47.mono hE187
  replace hs45 := hs45.mono hE187
  replace hs40 := hs40.mono hE187
  replace hs35 := hs35.mono hE187
  replace hs30 := hs30.mono hE187
  replace hT := hT.mono hE187
  replace hnil := hnil.mono hE187
  refine F_callv (k := 37) rfl (.mk rfl rfl rfl rfl) rfl rfl (.yes rfl rfl rfl rfl) (fun _ => of_1 _ _ _ _ _ (by assumption) (by omega)) ?_
  dsimp only [Go.Proofs.YthcfakmmomfcaaaDoor.lk]
  refine F_pure rfl (fun _ _ => V_aeql_25 rfl rfl rfl) rfl rfl (.yes rfl rfl rfl rfl) ?_
  refine F_pure rfl (fun _ _ => V_pick_t rfl rfl rfl) rfl rfl (.none rfl) ?_
  refine F_pure rfl (fun _ _ => V_move rfl rfl) rfl rfl (.none rfl) ?_
  refine GF.bool_t 191 rfl (by kernel_rfl) ?_
  refine F_pure rfl (fun _ _ => V_move rfl rfl) rfl rfl (.yes rfl rfl rfl rfl) ?_
  refine F_pure rfl (fun _ _ => V_eql rfl rfl rfl) rfl rfl (.yes rfl rfl rfl rfl) ?_
  refine F_pure rfl (fun _ _ => V_pick_t rfl rfl rfl) rfl rfl (.none rfl) ?_
  refine F_pure rfl (fun _ _ => V_move rfl rfl) rfl rfl (.none rfl) ?_
  refine GF.bool_t 195 rfl (by kernel_rfl) ?_
  refine F_pure rfl (fun _ _ => V_move rfl rfl) rfl rfl (.yes rfl rfl rfl rfl) ?_
  refine F_pure rfl (fun _ _ => V_lenS rfl rfl) rfl rfl (.yes rfl rfl rfl rfl) ?_
  refine F_pure rfl (fun _ _ => V_eql rfl rfl rfl) rfl rfl (.yes rfl rfl rfl rfl) ?_
  refine F_pure rfl (fun _ _ => V_pick_t rfl rfl rfl) rfl rfl (.none rfl) ?_
  refine F_pure rfl (fun _ _ => V_move rfl rfl) rfl rfl (.none rfl) ?_
  refine GF.bool_t 200 rfl (by kernel_rfl) ?_
  refine F_pure rfl (fun _ _ => V_move rfl rfl) rfl rfl (.yes rfl rfl rfl rfl) ?_
  refine F_loadE rfl (V_idxAddr rfl rfl rfl (SlE.rd (by assumption)) (by omega) (by omega)) rfl rfl (.yes rfl rfl rfl rfl) ?_
  refine F_loadE rfl (V_loadAS rfl rfl (SlE.rd (by assumption)) (by assumption) (by simp) (by rfl)) rfl rfl (.yes rfl rfl rfl rfl) ?_
  (refine F_litZ rfl rfl rfl (by decide) (by simp [fillS, zeros, setLs, setL, Value.cells, List.range, List.range.loop]; rfl) (by rfl) rfl rfl (.yes rfl rfl rfl rfl) ?_; intro b204 E204 hE204 hs204)
  replace hs187 := hs187.mono hE204
  replace hs179 := hs179.mono hE204
  replace hs136 := hs136.mono hE204
  replace hs126 := hs126.mono hE204
  replace hs124 := hs124.mono hE204
  replace hs119 := hs119.mono hE204
  replace hs117 := hs117.mono hE204
  replace hs108 := hs108.mono hE204
  replace hs105 := hs105.mono hE204
  replace hs76 := hs76.mono hE204
  replace Z34 := Z34.mono hE204
  replace Z26 := Z26.mono hE204
  replace Z19 := Z19.mono hE204
  replace hs53 := hs53.mono hE204
  replace hs47 := hs47.mono hE204
  replace hs45 := hs45.mono hE204
  replace hs40 := hs40.mono hE204
  replace hs35 := hs35.mono hE204
  replace hs30 := hs30.mono hE204
  replace hT := hT.mono hE204
  replace hnil := hnil.mono hE204
  refine F_callv (k := 37) rfl (.mk rfl rfl rfl rfl) rfl rfl (.yes rfl rfl rfl rfl) (fun _ => ofL_call' _ _ _ _ _ _ (by assumption) (by omega) (by omega)) ?_
  dsimp only [Go.Proofs.YthcfakmmomfcaaaDoor.lk]
  refine F_pure rfl (fun _ _ => V_aeql_25 rfl rfl rfl) rfl rfl (.yes rfl rfl rfl rfl) ?_
  refine F_pure rfl (fun _ _ => V_pick_t rfl rfl rfl) rfl rfl (.none rfl) ?_
  refine F_pure rfl (fun _ _ => V_move rfl rfl) rfl rfl (.none rfl) ?_
  refine GF.bool_t 208 rfl (by kernel_rfl) ?_
  refine F_pure rfl (fun _ _ => V_move rfl rfl) rfl rfl (.yes rfl rfl rfl rfl) ?_
  refine F_pure rfl (fun _ _ => V_eql rfl rfl rfl) rfl rfl (.yes rfl rfl rfl rfl) ?_
  refine F_pure rfl (fun _ _ => V_pick_t rfl rfl rfl) rfl rfl (.none rfl) ?_
  refine F_pure rfl (fun _ _ => V_assign rfl rfl) rfl rfl (.none rfl) ?_
  (refine F_end (.nil _) ?_; dsimp only [List.drop])
  refine G_end (X_then (G_seq ?_))
  refine G_drawX 36 [(0, 3), (1, 3), (2, 0), (3, 2), (4, 3), (5, 3), (6, 0), (7, 0), (8, 2), (9, 3), (10, 3), (11, 0), (12, 0), (13, 2), (14, 3), (15, 3), (16, 0), (17, 0), (18, 0), (19, 0), (20, 0), (21, 0), (22, 0), (23, 0), (24, 0), (25, 0), (26, 1), (27, 2), (28, 3), (29, 0), (30, 0), (31, 0), (32, 0), (33, 0), (34, 0), (35, 0)] mixed (by kernel_rfl) ?_
  refine F_callv (k := 37) rfl (.mk rfl rfl rfl rfl) rfl rfl (.none rfl) (fun _ => of_0 _ _ _ _ (by assumption)) ?_
  dsimp only [Go.Proofs.YthcfakmmomfcaaaDoor.lk]
  refine F_callv (k := 41) rfl (.mk rfl rfl rfl rfl) rfl rfl (.none rfl) (fun _ => numbered1_call _ _ (by assumption)) ?_
  refine F_pure rfl (fun _ _ => V_move rfl rfl) rfl rfl (.none rfl) ?_
  (refine F_litZ rfl rfl rfl (by decide) (by simp [fillS, zeros, setLs, setL, Value.cells, List.range, List.range.loop]; rfl) (by rfl) rfl rfl (.yes rfl rfl rfl rfl) ?_; intro b215 E215 hE215 hs215)
  replace hs204 := hs204.mono hE215
  replace hs187 := hs187.mono hE215
  replace hs179 := hs179.mono hE215
  replace hs136 := hs136.mono hE215
  replace hs126 := hs126.mono hE215
  replace hs124 := hs124.mono hE215
  replace hs119 := hs119.mono hE215
  replace hs117 := hs117.mono hE215
  replace hs108 := hs108.mono hE215
  replace hs105 := hs105.mono hE215
  replace hs76 := hs76.mono hE215
  replace Z34 := Z34.mono hE215
  replace Z26 := Z26.mono hE215
  replace Z19 := Z19.mono hE215
  replace hs53 := hs53.mono hE215
  replace hs47 := hs47.mono hE215
  replace hs45 := hs45.mono hE215
  replace hs40 := hs40.mono hE215
  replace hs35 := hs35.mono hE215
  replace hs30 := hs30.mono hE215
  replace hT := hT.mono hE215
  replace hnil := hnil.mono hE215
  refine F_callv (k := 37) rfl (.mk rfl rfl rfl rfl) rfl rfl (.yes rfl rfl rfl rfl) (fun _ => of_1 _ _ _ _ _ (by assumption) (by omega)) ?_
  dsimp only [Go.Proofs.YthcfakmmomfcaaaDoor.lk]
  refine F_callv (k := 41) rfl (.mk rfl rfl rfl rfl) rfl rfl (.yes rfl rfl rfl rfl) (fun _ => numbered2_call _ _ (by assumption)) ?_
  refine F_pure rfl (fun _ _ => V_pick_t rfl rfl rfl) rfl rfl (.none rfl) ?_
  refine F_pure rfl (fun _ _ => V_move rfl rfl) rfl rfl (.none rfl) ?_
  (refine F_litZ rfl rfl rfl (by decide) (by simp [fillS, zeros, setLs, setL, Value.cells, List.range, List.range.loop]; rfl) (by rfl) rfl rfl (.yes rfl rfl rfl rfl) ?_; intro b220 E220 hE220 hs220)
  replace hs215 := hs215.mono hE220
  replace hs204 := hs204.mono hE220
  replace hs187 := hs187.mono hE220
  replace hs179 := hs179.mono hE220
  replace hs136 := hs136.mono hE220
  replace hs126 := hs126.mono hE220
  replace hs124 := hs124.mono hE220
  replace hs119 := hs119.mono hE220
  replace hs117 := hs117.mono hE220
  replace hs108 := hs108.mono hE220
  replace hs105 := hs105.mono hE220
  replace hs76 := hs76.mono hE220
  replace Z34 := Z34.mono hE220
  replace Z26 := Z26.mono hE220
  replace Z19 := Z19.mono hE220
  replace hs53 := hs53.mono hE220
  replace hs47 := hs47.mono hE220
  replace hs45 := hs45.mono hE220
  replace hs40 := hs40.mono hE220
  replace hs35 := hs35.mono hE220
  replace hs30 := hs30.mono hE220
  replace hT := hT.mono hE220
  replace hnil := hnil.mono hE220
  refine F_callv (k := 37) rfl (.mk rfl rfl rfl rfl) rfl rfl (.yes rfl rfl rfl rfl) (fun _ => of_1 _ _ _ _ _ (by assumption) (by omega)) ?_
  dsimp only [Go.Proofs.YthcfakmmomfcaaaDoor.lk]
  refine F_callv (k := 41) rfl (.mk rfl rfl rfl rfl) rfl rfl (.yes rfl rfl rfl rfl) (fun _ => numbered3_call _ _ (by assumption)) ?_
  refine F_pure rfl (fun _ _ => V_pick_t rfl rfl rfl) rfl rfl (.none rfl) ?_
  refine F_pure rfl (fun _ _ => V_move rfl rfl) rfl rfl (.none rfl) ?_
  (refine F_litZ rfl rfl rfl (by decide) (by simp [fillS, zeros, setLs, setL, Value.cells, List.range, List.range.loop]; rfl) (by rfl) rfl rfl (.yes rfl rfl rfl rfl) ?_; intro b225 E225 hE225 hs225)
  replace hs220 := hs220.mono hE225
  replace hs215 := hs215.mono hE225
  replace hs204 := hs204.mono hE225
  replace hs187 := hs187.mono hE225
  replace hs179 := hs179.mono hE225
  replace hs136 := hs136.mono hE225
  replace hs126 := hs126.mono hE225
  replace hs124 := hs124.mono hE225
  replace hs119 := hs119.mono hE225
  replace hs117 := hs117.mono hE225
  replace hs108 := hs108.mono hE225
  replace hs105 := hs105.mono hE225
  replace hs76 := hs76.mono hE225
  replace Z34 := Z34.mono hE225
  replace Z26 := Z26.mono hE225
  replace Z19 := Z19.mono hE225
  replace hs53 := hs53.mono hE225
  replace hs47 := hs47.mono hE225
  replace hs45 := hs45.mono hE225
  replace hs40 := hs40.mono hE225
  replace hs35 := hs35.mono hE225
  replace hs30 := hs30.mono hE225
  replace hT := hT.mono hE225
  replace hnil := hnil.mono hE225
  refine F_callv (k := 37) rfl (.mk rfl rfl rfl rfl) rfl rfl (.yes rfl rfl rfl rfl) (fun _ => of_4 _ _ _ _ _ _ _ _ (by assumption) (by omega) (by omega) (by omega) (by omega)) ?_
  dsimp only [Go.Proofs.YthcfakmmomfcaaaDoor.lk]
  refine F_callv (k := 41) rfl (.mk rfl rfl rfl rfl) rfl rfl (.yes rfl rfl rfl rfl) (fun _ => numberedT_call' _ _ (by assumption)) ?_
  refine F_pure rfl (fun _ _ => V_pick_t rfl rfl rfl) rfl rfl (.none rfl) ?_
  refine F_pure rfl (fun _ _ => V_move rfl rfl) rfl rfl (.none rfl) ?_
  refine F_pure rfl (fun _ _ => V_move rfl rfl) rfl rfl (.yes rfl rfl rfl rfl) ?_
  refine F_pure rfl (fun _ _ => V_eql rfl rfl rfl) rfl rfl (.yes rfl rfl rfl rfl) ?_
  refine F_pure rfl (fun _ _ => V_pick_t rfl rfl rfl) rfl rfl (.none rfl) ?_
  refine F_pure rfl (fun _ _ => V_move rfl rfl) rfl rfl (.none rfl) ?_
  refine GF.bool_t 233 rfl (by kernel_rfl) ?_
  refine F_pure rfl (fun _ _ => V_move rfl rfl) rfl rfl (.yes rfl rfl rfl rfl) ?_
  refine F_pure rfl (fun _ _ => V_eql rfl rfl rfl) rfl rfl (.yes rfl rfl rfl rfl) ?_
  refine F_pure rfl (fun _ _ => V_pick_t rfl rfl rfl) rfl rfl (.none rfl) ?_
  refine F_pure rfl (fun _ _ => V_move rfl rfl) rfl rfl (.none rfl) ?_
  refine GF.bool_t 237 rfl (by kernel_rfl) ?_
  refine F_load rfl (.tail _ (.head _)) (V_loadA rfl rfl (Cells.own (.head _)) rfl) rfl rfl (.yes rfl rfl rfl rfl) ?_
  (refine F_litZ rfl rfl rfl (by decide) (by simp [fillS, zeros, setLs, setL, Value.cells, List.range, List.range.loop]; rfl) (by rfl) rfl rfl (.yes rfl rfl rfl rfl) ?_; intro b239 E239 hE239 hs239)
  replace hs225 := hs225.mono hE239
  replace hs220 := hs220.mono hE239
  replace hs215 := hs215.mono hE239
  replace hs204 := hs204.mono hE239
  replace hs187 := hs187.mono hE239
  replace hs179 := hs179.mono hE239
  replace hs136 := hs136.mono hE239
  replace hs126 := hs126.mono hE239
  replace hs124 := hs124.mono hE239
  replace hs119 := hs119.mono hE239
  replace hs117 := hs117.mono hE239
  replace hs108 := hs108.mono hE239
  replace hs105 := hs105.mono hE239
  replace hs76 := hs76.mono hE239
  replace Z34 := Z34.mono hE239
  replace Z26 := Z26.mono hE239
  replace Z19 := Z19.mono hE239
  replace hs53 := hs53.mono hE239
  replace hs47 := hs47.mono hE239
  replace hs45 := hs45.mono hE239
  replace hs40 := hs40.mono hE239
  replace hs35 := hs35.mono hE239
  replace hs30 := hs30.mono hE239
  replace hT := hT.mono hE239
  replace hnil := hnil.mono hE239
  refine F_callv (k := 37) rfl (.mk rfl rfl rfl rfl) rfl rfl (.yes rfl rfl rfl rfl) (fun _ => of_1 _ _ _ _ _ (by assumption) (by omega)) ?_
  dsimp only [Go.Proofs.YthcfakmmomfcaaaDoor.lk]
  refine F_pure rfl (fun _ _ => V_aeql_25 rfl rfl rfl) rfl rfl (.yes rfl rfl rfl rfl) ?_
  refine F_pure rfl (fun _ _ => V_pick_t rfl rfl rfl) rfl rfl (.none rfl) ?_
  refine F_pure rfl (fun _ _ => V_move rfl rfl) rfl rfl (.none rfl) ?_
  refine GF.bool_t 243 rfl (by kernel_rfl) ?_
  refine F_pure rfl (fun _ _ => V_move rfl rfl) rfl rfl (.yes rfl rfl rfl rfl) ?_
  refine F_pure rfl (fun _ _ => V_eql rfl rfl rfl) rfl rfl (.yes rfl rfl rfl rfl) ?_
  refine F_pure rfl (fun _ _ => V_pick_t rfl rfl rfl) rfl rfl (.none rfl) ?_
  refine F_pure rfl (fun _ _ => V_assign rfl rfl) rfl rfl (.none rfl) ?_
  (refine F_end (.nil _) ?_; dsimp only [List.drop])
  refine G_end (X_then (G_seq (G_region ?_)))
  refine G_call (k := 10) (.mk rfl rfl rfl rfl) rfl rfl (.none rfl) (awake_call _ _) ?_
  rintro r49 E50 L51 hE52 ⟨rfl, rfl⟩
  replace hs239 := hs239.mono hE52
  replace hs225 := hs225.mono hE52
  replace hs220 := hs220.mono hE52
  replace hs215 := hs215.mono hE52
  replace hs204 := hs204.mono hE52
  replace hs187 := hs187.mono hE52
  replace hs179 := hs179.mono hE52
  replace hs136 := hs136.mono hE52
  replace hs126 := hs126.mono hE52
  replace hs124 := hs124.mono hE52
  replace hs119 := hs119.mono hE52
  replace hs117 := hs117.mono hE52
  replace hs108 := hs108.mono hE52
  replace hs105 := hs105.mono hE52
  replace hs76 := hs76.mono hE52
  replace Z34 := Z34.mono hE52
  replace Z26 := Z26.mono hE52
  replace Z19 := Z19.mono hE52
  replace hs53 := hs53.mono hE52
  replace hs47 := hs47.mono hE52
  replace hs45 := hs45.mono hE52
  replace hs40 := hs40.mono hE52
  replace hs35 := hs35.mono hE52
  replace hs30 := hs30.mono hE52
  replace hT := hT.mono hE52
  replace hnil := hnil.mono hE52
  refine G_val (V_move rfl rfl) rfl rfl (.none rfl) ?_
  refine G_val (V_move rfl rfl) rfl rfl (.yes rfl rfl rfl rfl) ?_
  refine G_val (V_pick_t rfl rfl rfl) rfl rfl (.none rfl) ?_
  refine G_val (V_move rfl rfl) rfl rfl (.none rfl) ?_
  refine G.bool_t 251 rfl (by kernel_rfl) ?_
  refine G_val (V_move rfl rfl) rfl rfl (.yes rfl rfl rfl rfl) ?_
  refine G_val (V_pick_t rfl rfl rfl) rfl rfl (.none rfl) ?_
  refine G_val (V_move rfl rfl) rfl rfl (.none rfl) ?_
  refine G_val (V_move rfl rfl) rfl rfl (.yes rfl rfl rfl rfl) ?_
  refine G_val (V_pick_t rfl rfl rfl) rfl rfl (.none rfl) ?_
  refine G_val (V_move rfl rfl) rfl rfl (.none rfl) ?_
  refine G.bool_t 257 rfl (by kernel_rfl) ?_
  refine G_val (V_move rfl rfl) rfl rfl (.yes rfl rfl rfl rfl) ?_
  refine G_val (V_pick_t rfl rfl rfl) rfl rfl (.none rfl) ?_
  refine G_val (V_move rfl rfl) rfl rfl (.none rfl) ?_
  refine G.bool_t 260 rfl (by kernel_rfl) ?_
  refine G_val (V_buildArr rfl rfl (by simp [fillS, setLs, setL, Value.cells]; rfl)) rfl rfl (.yes rfl rfl rfl rfl) ?_
  refine G_val (V_build rfl rfl (by simp [fillV, setLs, setL, Value.cells]; rfl)) rfl rfl (.yes rfl rfl rfl rfl) ?_
  refine G_callv (k := 18) (.mk rfl rfl rfl rfl) rfl rfl (.yes rfl rfl rfl rfl) (CheckK1_call _ _) ?_
  refine G_val (V_eql rfl rfl rfl) rfl rfl (.yes rfl rfl rfl rfl) ?_
  refine G_val (V_pick_t rfl rfl rfl) rfl rfl (.none rfl) ?_
  refine G_val (V_move rfl rfl) rfl rfl (.none rfl) ?_
  refine G.bool_t 266 rfl (by kernel_rfl) ?_
  (refine G_litZ rfl rfl (by decide) (by simp [fillS, zeros, setLs, setL, Value.cells, List.range, List.range.loop]; rfl) (by rfl) rfl rfl (.yes rfl rfl rfl rfl) ?_; intro b267 E267 hE267 hs267)
  replace hs239 := hs239.mono hE267
  replace hs225 := hs225.mono hE267
  replace hs220 := hs220.mono hE267
  replace hs215 := hs215.mono hE267
  replace hs204 := hs204.mono hE267
  replace hs187 := hs187.mono hE267
  replace hs179 := hs179.mono hE267
  replace hs136 := hs136.mono hE267
  replace hs126 := hs126.mono hE267
  replace hs124 := hs124.mono hE267
  replace hs119 := hs119.mono hE267
  replace hs117 := hs117.mono hE267
  replace hs108 := hs108.mono hE267
  replace hs105 := hs105.mono hE267
  replace hs76 := hs76.mono hE267
  replace Z34 := Z34.mono hE267
  replace Z26 := Z26.mono hE267
  replace Z19 := Z19.mono hE267
  replace hs53 := hs53.mono hE267
  replace hs47 := hs47.mono hE267
  replace hs45 := hs45.mono hE267
  replace hs40 := hs40.mono hE267
  replace hs35 := hs35.mono hE267
  replace hs30 := hs30.mono hE267
  replace hT := hT.mono hE267
  replace hnil := hnil.mono hE267
  refine G_callv (k := 37) (.mk rfl rfl rfl rfl) rfl rfl (.yes rfl rfl rfl rfl) (ofL_call' _ _ _ _ _ _ (by assumption) (by omega) (by omega)) ?_
  dsimp only [Go.Proofs.YthcfakmmomfcaaaDoor.lk]
  refine G_callv (k := 18) (.mk rfl rfl rfl rfl) rfl rfl (.yes rfl rfl rfl rfl) (Check_call' _ _) ?_
  refine G_val (V_eql rfl rfl rfl) rfl rfl (.yes rfl rfl rfl rfl) ?_
  refine G_val (V_pick_t rfl rfl rfl) rfl rfl (.none rfl) ?_
  refine G_val (V_assign rfl rfl) rfl rfl (.none rfl) ?_
  refine G_end (X_then (G_ret ?_))
  refine G_leaveS (.drop _ (.drop _ (.drop _ (.drop _ (.drop _ (.drop _ (.drop _ (.nil _)))))))) (by exact (.cons (.tmp rfl) (.nil))) rfl ?_ ?_
  · exact (((((((((((((((((((((((((((((((hE30.trans hE35).trans hE40).trans hE45).trans hE47).trans hE4).trans hE53).trans hE8).trans hE12).trans hE16).trans hE23).trans hE31).trans hE76).trans hE38).trans hE43).trans hE48).trans hE105).trans hE108).trans hE117).trans hE119).trans hE124).trans hE126).trans hE136).trans hE179).trans hE187).trans hE204).trans hE215).trans hE220).trans hE225).trans hE239).trans hE52).trans hE267)
  exact ⟨(by kernel_rfl), rfl⟩
end
end Go.Proofs.YthcfakmmomfcaaaDoor
set_option linter.unusedSimpArgs false
set_option linter.unusedVariables false
set_option maxHeartbeats 2000000
set_option maxRecDepth 20000
namespace Go.Proofs.YthcfakmmomfcaaaDoor
open Go.RowKit
/-! Looks that are made of numbers. -/
abbrev okM (l : List Int) : Prop := l.length ≤ 4 ∧ ∀ x, x ∈ l → 0 ≤ x ∧ x < 3
theorem ofM_ok {l : List Int} (h : okM l) : (ofM l).1 = lkP l := by
  unfold ofM
  rw [if_neg (by have := h.1; omega), if_pos (fun x hx => by have := h.2 x hx; omega)]
  exact lkP_eq l h.1
section
variable (E : Env) (L : List Res)
theorem madeK_call (n : Int) (hn : -9223372036854775808 ≤ n ∧ n ≤ 9223372036854775807) : CallS Tryd.prog 42 #[.int .i64 n] E L (fun r E' L' => ∃ l, r = lkP l ∧ okM l ∧ L = L') := by
  have hM2 := fun L1 => Mod_call' E L1 n 1073741824 hn (by omega)
  have hK1 : 0 ≤ n % 1073741824 := Int.emod_nonneg _ (by omega)
  have hK2 : n % 1073741824 < 1073741824 := Int.emod_lt_of_pos _ (by omega)
  generalize n % 1073741824 = K at *
  refine CallS.intro (l := [_]) _ Tryd.func42 rfl Tryd.ntmps42 rfl ?_
  refine G_seq (G_region ?_)
  (refine G_alloc rfl rfl rfl (.none rfl) ?_; intro b2)
  refine G_end (X_then (G_seq (G_region ?_)))
  refine G_val (V_move rfl rfl) rfl rfl (.none rfl) ?_
  refine G_callv (k := 45) (.mk rfl rfl rfl rfl) rfl rfl (.none rfl) (hM2 _) ?_
  refine G_val (V_assign rfl rfl) rfl rfl (.none rfl) ?_
  refine G_end (X_then (G_seq (G_region ?_)))
  refine G_val (V_assign rfl rfl) rfl rfl (.none rfl) ?_
  refine G_end (X_then (G_seq (G_seq (G_region ?_))))
  refine G_val (V_assign rfl rfl) rfl rfl (.none rfl) ?_
  refine G_end (X_then (G_block ?_))
  refine G.nilSl 3 1 ?_
  have h5a := Int.emod_nonneg K (b := 5) (by omega)
  have h5b := Int.emod_lt_of_pos K (b := 5) (by omega)
  refine G_loop (α := List Int × Option Addr × Nat) (fun x => [(2, .pointer (some ⟨b2, 0, none⟩)), (3, .int .i64 K), (4, .slice x.2.1 x.1.length x.2.2), (5, .int .i64 (x.1.length : Nat))]) (fun _ => E)
    (fun x => .sl 3 1 x.2.1 x.1.length x.2.2 (i64s x.1) :: .blk b2 (.cells (lkC 0 0 0 0 0) 25 (0, 0)) :: L)
    (fun x => (x.1.length : Int) ≤ K % 5 ∧ ∀ y, y ∈ x.1 → 0 ≤ y ∧ y < 3) (fun x => 4 - x.1.length) ([], none, 0) ⟨by simpa using h5a, fun y h => by cases h⟩ ⟨rfl, rfl, rfl, rfl, trivial⟩ rfl rfl ?_
  rintro ⟨l, p, c⟩ ⟨hl, hall⟩
  simp only at hl hall ⊢
  by_cases hlt : (l.length : Int) < K % 5
  · have hv : 0 ≤ (shrI .i64 K (3 + 2 * (l.length : Int))).tmod 3 ∧ (shrI .i64 K (3 + 2 * (l.length : Int))).tmod 3 < 3 := by
      have h0 : 0 ≤ shrI .i64 K (3 + 2 * (l.length : Int)) := by
        unfold shrI
        exact Int.fdiv_nonneg hK1 (Int.pow_nonneg (by omega))
      exact ⟨Int.tmod_nonneg _ h0, Int.tmod_lt_of_pos _ (by omega)⟩
    refine G_seq (G_seq (G_region ?_))
    refine G_val (V_move rfl rfl) rfl rfl (.none rfl) ?_
    refine G_val (V_move rfl rfl) rfl rfl (.none rfl) ?_
    refine G_val (V_rem_n rfl rfl rfl (by omega) (by omega)) rfl rfl (.none rfl) ?_
    refine G_val (V_lss rfl rfl rfl) rfl rfl (.none rfl) ?_
    refine G_end (X_then ?_)
    refine G_cond_t rfl (decide_eq_true (by omega)) ?_
    refine G_skip (X_then (G_seq (G_block (G_region ?_))))
    refine G_val (V_move rfl rfl) rfl rfl (.none rfl) ?_
    refine G_val (V_move rfl rfl) rfl rfl (.none rfl) ?_
    refine G_val (V_move rfl rfl) rfl rfl (.none rfl) ?_
    refine G_val (V_mul_i64 rfl rfl rfl (by omega) (by omega)) rfl rfl (.none rfl) ?_
    refine G_val (V_add_i64 rfl rfl rfl (by omega) (by omega)) rfl rfl (.none rfl) ?_
    refine G_val (V_conv_u64 rfl rfl (by omega) (by omega)) rfl rfl (.none rfl) ?_
    refine G_val (V_shr rfl rfl rfl (by omega)) rfl rfl (.none rfl) ?_
    refine G_val (V_rem rfl rfl rfl (by omega)) rfl rfl (.none rfl) ?_
    (refine G_lit1 rfl rfl rfl rfl rfl (.none rfl) ?_; intro b22)
    (refine G_append rfl rfl rfl (Rd.lit (.head _) rfl) (by simp [Value.oneCell']) (by omega) (by omega) rfl rfl (.none rfl) (fun _ _ => (.tail _ (.head _ _ _))) ?_; intro a23 c23; refine G.rm (.head _ _) ?_)
    refine G_val (V_assign rfl rfl) rfl rfl (.none rfl) ?_
    refine G_end (X_block (X_then (G_region ?_)))
    refine G_val (V_move rfl rfl) rfl rfl (.none rfl) ?_
    refine G_val (V_add_i64 rfl rfl rfl (by omega) (by omega)) rfl rfl (.none rfl) ?_
    refine G_val (V_assign rfl rfl) rfl rfl (.none rfl) ?_
    refine G_end (X_then ?_)
    generalize (shrI .i64 K (3 + 2 * (l.length : Int))).tmod 3 = v at *
    have hll : l.length + 1 = (l ++ [v]).length := by simp
    have hsn : i64s l ++ [.int .i64 v] = i64s (l ++ [v]) := by simp [i64s]
    rw [hsn, show (l.length : Int) + 1 = ((l.length + 1 : Nat) : Int) by omega, hll]
    exact G_again (l ++ [v], _, _) ⟨by simp only [List.length_append, List.length_singleton]; omega, fun y hy => by
      rcases List.mem_append.1 hy with h | h
      · exact hall y h
      · rw [List.mem_singleton.1 h]; exact hv⟩ (by simp only [List.length_append, List.length_singleton]; omega) ⟨rfl, rfl, rfl, rfl, trivial⟩ rfl rfl
  · have hok : okM l := ⟨by omega, hall⟩
    refine G_seq (G_seq (G_region ?_))
    refine G_val (V_move rfl rfl) rfl rfl (.none rfl) ?_
    refine G_val (V_move rfl rfl) rfl rfl (.none rfl) ?_
    refine G_val (V_rem_n rfl rfl rfl (by omega) (by omega)) rfl rfl (.none rfl) ?_
    refine G_val (V_lss rfl rfl rfl) rfl rfl (.none rfl) ?_
    refine G_end (X_then ?_)
    refine G_cond_f rfl (decide_eq_false (by omega)) ?_
    refine G_exit (X_then_exit (X_then_exit (X_block_hit (X_then (G_seq (G_region ?_))))))
    refine G_val (V_move rfl rfl) rfl rfl (.none rfl) ?_
    refine G.freezeSl (.head _ _) ?_
    intro E2 hE2 hs2 _
    refine G_callv (k := 37) (.mk rfl rfl rfl rfl) rfl rfl (.none rfl) (ofL_call _ _ p _ c l hs2 (by omega)) ?_
    rw [ofM_ok hok]
    refine G_storeA rfl rfl rfl rfl (by simp [Value.oneCell']) rfl (.none rfl) (.head _ _ _) rfl ?_
    refine G_end (X_then (G_ret ?_))
    refine G_leaveS (.drop _ (.nil _)) (by exact (.cons (.cellA rfl (Cells.own (.head _)) rfl) (.nil))) rfl ?_ ?_
    · exact hE2
    exact ⟨_, ⟨rfl, ⟨⟨(by omega), (by assumption)⟩, rfl⟩⟩⟩
end
end Go.Proofs.YthcfakmmomfcaaaDoor
set_option linter.unusedSimpArgs false
set_option linter.unusedVariables false
set_option maxHeartbeats 2000000
set_option maxRecDepth 20000
namespace Go.Proofs.YthcfakmmomfcaaaDoor
open Go.RowKit
/-! Looks of lists: what the functions give. -/
abbrev ok8 (l : List Int) : Prop := l.length ≤ 4 ∧ ∀ x, x ∈ l → 0 ≤ x ∧ x < 8
theorem okM.to8 {l : List Int} (h : okM l) : ok8 l := ⟨h.1, fun x hx => by have := h.2 x hx; omega⟩
theorem ok8_nil : ok8 [] := ⟨Nat.zero_le _, fun x h => by cases h⟩
theorem ok8.take {l : List Int} (h : ok8 l) (k : Nat) : ok8 (l.take k) := ⟨(by rw [List.length_take]; have := h.1; omega), fun x hx => h.2 x (List.mem_of_mem_take hx)⟩
theorem ok8.join {x y : List Int} (hx : ok8 x) (hy : ok8 y) {k : Nat} (hk : k ≤ 4) : ok8 ((x ++ y).take k) := ⟨by rw [List.length_take]; omega, fun z hz => by
  rcases List.mem_append.1 (List.mem_of_mem_take hz) with h | h
  · exact hx.2 z h
  · exact hy.2 z h⟩
theorem ckP {l : List Int} {t : Nat} (h : l.length ≤ 4 ∧ ∀ x, x ∈ l → 0 ≤ x ∧ x < t) (ht : 1 ≤ t ∧ t ≤ 8) : ckL (l.length : Nat) (gd l 0) (gd l 1) (gd l 2) (gd l 3) t = 0 := by
  have e := take_gd l h.1
  have hf := (ckF_iff l.length (gd l 0) (gd l 1) (gd l 2) (gd l 3) h.1).1 (by rw [e]; exact ⟨by omega, rfl, rfl, rfl, rfl⟩)
  have hs := (ckS_iff l.length (gd l 0) (gd l 1) (gd l 2) (gd l 3) t h.1).1 (by rw [e]; exact h.2)
  unfold ckL
  rw [if_neg (by omega), if_neg (not_not_intro hf), if_pos hs]
theorem ckP8 {l : List Int} (h : ok8 l) : ckL (l.length : Nat) (gd l 0) (gd l 1) (gd l 2) (gd l 3) 8 = 0 := ckP (t := 8) h (by omega)
theorem bothP {x y : List Int} (hx : ok8 x) (hy : ok8 y) : bothL (x.length : Nat) (gd x 0) (gd x 1) (gd x 2) (gd x 3) (y.length : Nat) (gd y 0) (gd y 1) (gd y 2) (gd y 3) = 0 := by
  unfold bothL
  rw [if_neg (by rw [ckP8 hx]; omega), ckP8 hy]
theorem cmpP {x y : List Int} (hx : ok8 x) (hy : ok8 y) : cmpM (x.length : Nat) (gd x 0) (gd x 1) (gd x 2) (gd x 3) (y.length : Nat) (gd y 0) (gd y 1) (gd y 2) (gd y 3) = (cmpL x y, 0) := by
  unfold cmpM
  rw [if_neg (by rw [bothP hx hy]; omega), Int.toNat_natCast, Int.toNat_natCast, take_gd x hx.1, take_gd y hy.1]
theorem joinP {x y : List Int} (hx : ok8 x) (hy : ok8 y) {k : Nat} (hk : 1 ≤ k ∧ k ≤ 4) : joinM (k : Nat) (x.length : Nat) (gd x 0) (gd x 1) (gd x 2) (gd x 3) (y.length : Nat) (gd y 0) (gd y 1) (gd y 2) (gd y 3) = (lkP ((x ++ y).take k), 0) := by
  unfold joinM
  rw [if_neg (by rw [bothP hx hy]; omega), if_neg (by omega), Int.toNat_natCast, Int.toNat_natCast, Int.toNat_natCast, take_gd x hx.1, take_gd y hy.1, plusM_eq _ _ _ hk.2, lkP_eq _ (hx.join hy hk.2).1]
theorem gd_takeE (l : List Int) (n j : Nat) : gd (l.take n) j = if j < n then gd l j else 0 := by
  unfold gd
  rw [List.getD_eq_getElem?_getD, List.getD_eq_getElem?_getD, List.getElem?_take]
  split <;> rfl
theorem cutP {x : List Int} (hx : ok8 x) {k : Nat} (hk : k ≤ 4) : cutM (x.length : Nat) (gd x 0) (gd x 1) (gd x 2) (gd x 3) (k : Nat) = (lkP (x.take k), 0) := by
  unfold cutM
  rw [if_neg (by rw [ckP8 hx]; omega), if_neg (by omega), Int.toNat_natCast, Int.toNat_natCast]
  have hl : (x.take k).length = min x.length k := by rw [List.length_take, Nat.min_comm]
  have hg : ∀ j, (if j < min x.length k then gd x j else 0) = gd (x.take k) j := fun j => by
    rw [gd_takeE]
    by_cases h1 : j < k
    · rw [if_pos h1]
      by_cases h2 : j < x.length
      · rw [if_pos (by omega)]
      · rw [if_neg (by omega)]
        unfold gd
        rw [List.getD_eq_getElem?_getD, List.getElem?_eq_none (by omega)]
        rfl
    · rw [if_neg h1, if_neg (by omega)]
  simp only [cutV, lkP, hl, hg]
abbrev begB (x y : List Int) : Prop := x.length ≤ y.length ∧ y.take x.length = x
theorem begPP {x y : List Int} (hx : ok8 x) (hy : ok8 y) : begL' (x.length : Nat) (gd x 0) (gd x 1) (gd x 2) (gd x 3) (y.length : Nat) (gd y 0) (gd y 1) (gd y 2) (gd y 3) = (decide (begB x y), 0) := by
  unfold begL'
  rw [if_neg (by rw [bothP hx hy]; omega)]
  congr 1
  refine decide_eq_decide.2 ?_
  have hg : ∀ j : Nat, (if (j : Int) < (x.length : Nat) then gd y j else 0) = gd (y.take x.length) j := fun j => by
    rw [gd_takeE]
    by_cases h1 : j < x.length
    · rw [if_pos h1, if_pos (by omega)]
    · rw [if_neg h1, if_neg (by omega)]
  have h0 := hg 0; have h1 := hg 1; have h2 := hg 2; have h3 := hg 3
  simp only [Int.natCast_zero, Int.cast_ofNat_Int, Int.natCast_one] at h0 h1 h2 h3
  unfold begP
  rw [h0, h1, h2, h3]
  constructor
  · rintro ⟨q0, q1, q2, q3, q4⟩
    have hl : x.length ≤ y.length := by omega
    refine ⟨hl, ?_⟩
    have hlt : (y.take x.length).length = x.length := by rw [List.length_take]; omega
    exact (lk_same (xs := x) (ys := y.take x.length) hx.1 (by omega)).1 ⟨by rw [hlt], q1, q2, q3, q4⟩
  · rintro ⟨q0, q1⟩
    rw [q1]
    exact ⟨by omega, rfl, rfl, rfl, rfl⟩
theorem txP {x : List Int} (hx : ok8 x) : txM (x.length : Nat) (gd x 0) (gd x 1) (gd x 2) (gd x 3) = (if x = [] then [45] else txR x, 0) := by
  unfold txM
  rw [if_neg (by rw [ckP8 hx]; omega)]
  by_cases h : x = []
  · subst h; rfl
  · have : x.length ≠ 0 := fun e => h (List.eq_nil_of_length_eq_zero e)
    rw [if_neg (by omega), if_neg h, Int.toNat_natCast, take_gd x hx.1]
/-! The order. -/
theorem cmpL_anti : ∀ x y : List Int, cmpL y x = - cmpL x y := by
  intro x
  induction x with
  | nil => intro y; cases y <;> rfl
  | cons a x ih =>
    intro y
    cases y with
    | nil => rfl
    | cons b y =>
      simp only [cmpL]
      by_cases h : a = b
      · rw [if_pos h, if_pos h.symm, ih]
      · rw [if_neg h, if_neg (fun e => h e.symm)]
        by_cases h2 : a < b
        · rw [if_pos h2, if_neg (by omega)]; rfl
        · rw [if_neg h2, if_pos (by omega)]
theorem cmpL_val : ∀ x y : List Int, cmpL x y = -1 ∨ cmpL x y = 0 ∨ cmpL x y = 1 := by
  intro x
  induction x with
  | nil => intro y; cases y <;> simp [cmpL]
  | cons a x ih =>
    intro y
    cases y with
    | nil => simp [cmpL]
    | cons b y =>
      simp only [cmpL]
      split
      · exact ih y
      · split <;> simp
theorem cmpL_zero : ∀ x y : List Int, cmpL x y = 0 → x = y := by
  intro x
  induction x with
  | nil => intro y h; cases y with
    | nil => rfl
    | cons b y => simp [cmpL] at h
  | cons a x ih =>
    intro y h
    cases y with
    | nil => simp [cmpL] at h
    | cons b y =>
      simp only [cmpL] at h
      split at h
      · rename_i e; rw [e, ih y h]
      · split at h <;> omega
theorem cmpL_trans : ∀ x y z : List Int, cmpL x y ≤ 0 → cmpL y z ≤ 0 → cmpL x z ≤ 0 ∧ (cmpL x y < 0 → cmpL x z < 0) := by
  intro x
  induction x with
  | nil =>
    intro y z h1 h2
    cases z with
    | nil => cases y with
      | nil => simp [cmpL]
      | cons b y => simp [cmpL] at h2
    | cons c z => simp [cmpL]
  | cons a x ih =>
    intro y z h1 h2
    cases y with
    | nil => simp [cmpL] at h1
    | cons b y =>
      cases z with
      | nil => simp [cmpL] at h2
      | cons c z =>
        simp only [cmpL] at h1 h2 ⊢
        by_cases hab : a = b
        · subst hab
          rw [if_pos rfl] at h1 ⊢
          by_cases hac : a = c
          · subst hac
            rw [if_pos rfl] at h2 ⊢
            exact ih y z h1 h2
          · rw [if_neg hac] at h2 ⊢
            by_cases hl : a < c
            · rw [if_pos hl]; exact ⟨by omega, fun _ => by omega⟩
            · rw [if_neg hl] at h2; omega
        · rw [if_neg hab] at h1 ⊢
          by_cases hl : a < b
          · rw [if_pos hl] at h1 ⊢
            by_cases hbc : b = c
            · subst hbc
              rw [if_neg hab, if_pos hl]
              exact ⟨by omega, fun _ => by omega⟩
            · rw [if_neg hbc] at h2
              by_cases hl2 : b < c
              · rw [if_neg (by omega), if_pos (by omega)]
                exact ⟨by omega, fun _ => by omega⟩
              · rw [if_neg hl2] at h2; omega
          · rw [if_neg hl] at h1; omega
theorem cmpL_beg : ∀ x y : List Int, begB x y → cmpL x y ≤ 0 := by
  intro x
  induction x with
  | nil => intro y _; cases y <;> simp [cmpL]
  | cons a x ih =>
    intro y h
    cases y with
    | nil => have := h.1; simp at this
    | cons b y =>
      obtain ⟨h1, h2⟩ := h
      simp only [List.length_cons, List.take_succ_cons, List.cons.injEq] at h1 h2
      simp only [cmpL]
      rw [if_pos h2.1.symm]
      exact ih y ⟨by omega, h2.2⟩
end Go.Proofs.YthcfakmmomfcaaaDoor
set_option linter.unusedSimpArgs false
set_option linter.unusedVariables false
set_option maxHeartbeats 2000000
set_option maxRecDepth 20000
namespace Go.Proofs.YthcfakmmomfcaaaDoor
open Go.RowKit
/-! Contracts for looks of lists. -/
structure Ok8 (l : List Int) : Prop where
  ok : ok8 l
def leastM (x : List Int) : Int := if x = [] then 0 else -1
theorem leastM_cmp (x : List Int) : cmpL [] x = leastM x := by
  cases x <;> simp [cmpL, leastM]
section
variable (E : Env) (L : List Res)
theorem Compare_call' (x y : List Int) (hx : Ok8 x) (hy : Ok8 y) : CallS Tryd.prog 25 #[lkP x, lkP y] E L (fun r E' L' => r = .tuple #[.int .i64 (cmpL x y), .int .i64 0] ∧ L = L') := by
  have := Compare_call E L (x.length : Nat) (gd x 0) (gd x 1) (gd x 2) (gd x 3) (y.length : Nat) (gd y 0) (gd y 1) (gd y 2) (gd y 3)
  rwa [cmpP hx.ok hy.ok] at this
theorem Begins_call' (x y : List Int) (hx : Ok8 x) (hy : Ok8 y) : CallS Tryd.prog 27 #[lkP x, lkP y] E L (fun r E' L' => r = .tuple #[.bool (decide (begB x y)), .int .i64 0] ∧ L = L') := by
  have := Begins_call E L (x.length : Nat) (gd x 0) (gd x 1) (gd x 2) (gd x 3) (y.length : Nat) (gd y 0) (gd y 1) (gd y 2) (gd y 3)
  rwa [begPP hx.ok hy.ok] at this
theorem JoinP_call (x y : List Int) (k : Nat) (hx : Ok8 x) (hy : Ok8 y) (hk : 1 ≤ k ∧ k ≤ 4) : CallS Tryd.prog 21 #[.int .i64 (k : Nat), lkP x, lkP y] E L (fun r E' L' => r = .tuple #[lkP ((x ++ y).take k), .int .i64 0] ∧ L = L') := by
  have := Join_call E L (k : Nat) (x.length : Nat) (gd x 0) (gd x 1) (gd x 2) (gd x 3) (y.length : Nat) (gd y 0) (gd y 1) (gd y 2) (gd y 3)
  rwa [joinP hx.ok hy.ok hk] at this
theorem CutP_call (x : List Int) (k : Nat) (hx : Ok8 x) (hk : k ≤ 4) : CallS Tryd.prog 23 #[lkP x, .int .i64 (k : Nat)] E L (fun r E' L' => r = .tuple #[lkP (x.take k), .int .i64 0] ∧ L = L') := by
  have := Cut_call E L (x.length : Nat) (gd x 0) (gd x 1) (gd x 2) (gd x 3) (k : Nat)
  rwa [cutP hx.ok hk] at this
theorem made8_call (n : Int) (hn : -9223372036854775808 ≤ n ∧ n ≤ 9223372036854775807) : CallS Tryd.prog 42 #[.int .i64 n] E L (fun r E' L' => ∃ l, r = lkP l ∧ Ok8 l ∧ L = L') := CallS.mono (madeK_call E L n hn) fun _ _ _ _ ⟨l, h1, h2, h3⟩ => ⟨l, h1, ⟨h2.to8⟩, h3⟩
theorem least_call (x : List Int) : CallV Tryd.prog 44 #[lkP x] E L (.int .i64 (leastM x)) := by
  unfold leastM
  by_cases h : x = []
  · subst h
    refine CallS.toV (CallS.intro (l := [_]) _ Tryd.func44 rfl Tryd.ntmps44 rfl ?_)
    refine G_seq (G_region ?_)
    (refine G_boxA rfl rfl rfl rfl (.none rfl) ?_; intro b1)
    refine G_val (V_assign rfl rfl) rfl rfl (.none rfl) ?_
    refine G_end (X_then (G_seq (G_seq (G_region ?_))))
    refine G_val (V_fieldAddr rfl rfl (by decide)) rfl rfl (.none rfl) ?_
    refine G_val (V_load rfl rfl (Cell.own (.head _) rfl)) rfl rfl (.none rfl) ?_
    refine G_val (V_eql rfl rfl rfl) rfl rfl (.none rfl) ?_
    refine G_end (X_then ?_)
    refine G_cond_t rfl (by kernel_rfl) ?_
    refine G_seq (G_region ?_)
    refine G_val (V_assign rfl rfl) rfl rfl (.none rfl) ?_
    refine G_end (X_then (G_ret (X_then_ret ?_)))
    refine G_leaveS (.drop _ (.nil _)) (by exact (.cons (.tmp rfl) (.nil))) rfl ?_ ?_
    · exact (.refl _)
    exact ⟨(by kernel_rfl), rfl⟩
  · have hl : x.length ≠ 0 := fun e => h (List.eq_nil_of_length_eq_zero e)
    rw [if_neg h]
    refine CallS.toV (CallS.intro (l := [_]) _ Tryd.func44 rfl Tryd.ntmps44 rfl ?_)
    refine G_seq (G_region ?_)
    (refine G_boxA rfl rfl rfl rfl (.none rfl) ?_; intro b1)
    refine G_val (V_assign rfl rfl) rfl rfl (.none rfl) ?_
    refine G_end (X_then (G_seq (G_seq (G_region ?_))))
    refine G_val (V_fieldAddr rfl rfl (by decide)) rfl rfl (.none rfl) ?_
    refine G_val (V_load rfl rfl (Cell.own (.head _) rfl)) rfl rfl (.none rfl) ?_
    refine G_val (V_eql rfl rfl rfl) rfl rfl (.none rfl) ?_
    refine G_end (X_then ?_)
    refine G_cond_f rfl (decide_eq_false (by omega)) ?_
    refine G_skip (X_then (G_seq (G_region ?_)))
    refine G_val (V_assign rfl rfl) rfl rfl (.none rfl) ?_
    refine G_end (X_then (G_ret ?_))
    refine G_leaveS (.drop _ (.nil _)) (by exact (.cons (.tmp rfl) (.nil))) rfl ?_ ?_
    · exact (.refl _)
    exact ⟨(by kernel_rfl), rfl⟩
theorem comparesL_call (x : List Int) (hx : Ok8 x) : CallV Tryd.prog 43 #[lk 0 0 0 0 0, lkP x, .int .i64 (leastM x)] E L (.bool true) :=
  comparesT_call E L _ _ _ _ _ _ _ _ _ _ _ (by
    have := cmpP ok8_nil hx.ok
    rw [leastM_cmp] at this
    exact this)
end
end Go.Proofs.YthcfakmmomfcaaaDoor
set_option linter.unusedSimpArgs false
set_option linter.unusedVariables false
set_option maxHeartbeats 2000000
set_option maxRecDepth 20000
namespace Go.Proofs.YthcfakmmomfcaaaDoor
open Go.RowKit
/-! The law LookOrder. -/
section
variable (E : Env) (L : List Res)
theorem LookOrder_call (hT : SlE E 1 (some ⟨5, 1, none⟩) 1 [.int .u8 1]) (n m o : Int) (hn : -9223372036854775808 ≤ n ∧ n ≤ 9223372036854775807) (hm : -9223372036854775808 ≤ m ∧ m ≤ 9223372036854775807) (ho : -9223372036854775808 ≤ o ∧ o ≤ 9223372036854775807) :
    CallS Tryd.prog 7 #[.int .i64 n, .int .i64 m, .int .i64 o] E L (fun r E' L' => r = .bool true ∧ L = L') := by
  have hnil : SlE E 1 none 0 [] := SlE.nil
  refine CallS.intro (l := [_, _, _]) _ Tryd.func7 rfl Tryd.ntmps7 rfl ?_
  refine G_seq (G_region ?_)
  refine G_val (V_assign rfl rfl) rfl rfl (.none rfl) ?_
  refine G_end (X_then (G_seq (G_region ?_)))
  refine G_call (k := 6) (.mk rfl rfl rfl rfl) rfl rfl (.none rfl) (LookKnown_call _ _ hT) ?_
  rintro r1 E1 L1 hE1 ⟨rfl, rfl⟩
  refine G_val (V_assign rfl rfl) rfl rfl (.none rfl) ?_
  refine G_end (X_then (G_seq (G_region ?_)))
  refine G_val (V_move rfl rfl) rfl rfl (.none rfl) ?_
  refine G_call (k := 42) (.mk rfl rfl rfl rfl) rfl rfl (.none rfl) (made8_call _ _ n hn) ?_
  rintro r2 E2 L2 hE2 ⟨x, rfl, hx, rfl⟩
  refine G_val (V_move rfl rfl) rfl rfl (.none rfl) ?_
  refine G_call (k := 42) (.mk rfl rfl rfl rfl) rfl rfl (.none rfl) (made8_call _ _ m hm) ?_
  rintro r3 E3 L3 hE3 ⟨y, rfl, hy, rfl⟩
  refine G_val (V_move rfl rfl) rfl rfl (.none rfl) ?_
  refine G_call (k := 42) (.mk rfl rfl rfl rfl) rfl rfl (.none rfl) (made8_call _ _ o ho) ?_
  rintro r4 E4 L4 hE4 ⟨z, rfl, hz, rfl⟩
  replace hnil := hnil.mono (hE1.trans (hE2.trans (hE3.trans hE4)))
  have hd := cmpL_anti x y
  have hv := cmpL_val x y
  have hv2 := cmpL_val y z
  have hv3 := cmpL_val x z
  have ht := cmpL_trans x y z
  have hb := cmpL_beg x y
  have hs := lk_same (xs := y) (ys := x) hy.ok.1 hx.ok.1
  have h0 := cmpL_zero x y
  have hAB : (cmpL x y = 0) ↔ (((x.length : Nat) : Int) = ((y.length : Nat) : Int) ∧ gd x 0 = gd y 0 ∧ gd x 1 = gd y 1 ∧ gd x 2 = gd y 2 ∧ gd x 3 = gd y 3) := by
    rw [hs]
    exact ⟨h0, fun e => by rw [e]; exact cmpL_refl y⟩
  have ht1 : (0 < cmpL x y ∨ 0 < cmpL y z) ∨ cmpL x z ≤ 0 := by omega
  have ht2 : (0 ≤ cmpL x y ∨ 0 < cmpL y z) ∨ cmpL x z < 0 := by omega
  have hb1 : ¬ begB x y ∨ cmpL x y ≤ 0 := by
    by_cases q : begB x y
    · exact .inr (hb q)
    · exact .inl q
  clear hs h0 ht hb
  (refine G_alloc rfl rfl rfl (.none rfl) ?_; intro b8)
  (refine G_alloc rfl rfl rfl (.none rfl) ?_; intro b9)
  (refine G_alloc rfl rfl rfl (.none rfl) ?_; intro b10)
  refine G_storeA rfl rfl rfl rfl (by simp [Value.oneCell']) rfl (.none rfl) (.tail _ (.tail _ (.head _ _ _))) rfl ?_
  refine G_storeA rfl rfl rfl rfl (by simp [Value.oneCell']) rfl (.none rfl) (.tail _ (.head _ _ _)) rfl ?_
  refine G_storeA rfl rfl rfl rfl (by simp [Value.oneCell']) rfl (.none rfl) (.head _ _ _) rfl ?_
  refine G_end (X_then (G_seq (G_region ?_)))
  refine G_val (V_loadA rfl rfl (Cells.own (.tail _ (.tail _ (.head _)))) rfl) rfl rfl (.none rfl) ?_
  refine G_val (V_loadA rfl rfl (Cells.own (.tail _ (.head _))) rfl) rfl rfl (.none rfl) ?_
  refine G_call (k := 25) (.mk rfl rfl rfl rfl) rfl rfl (.none rfl) (Compare_call' _ _ _ _ (by assumption) (by assumption)) ?_
  rintro r1 E5 L6 hE7 ⟨rfl, rfl⟩
  replace hnil := hnil.mono hE7
  refine G_val (V_move rfl rfl) rfl rfl (.none rfl) ?_
  refine G_val (V_extract rfl rfl rfl) rfl rfl (.none rfl) ?_
  refine G_val (V_extract rfl rfl rfl) rfl rfl (.none rfl) ?_
  refine G_val (V_assign rfl rfl) rfl rfl (.none rfl) ?_
  refine G_val (V_assign rfl rfl) rfl rfl (.none rfl) ?_
  refine G_end (X_then (G_seq (G_region ?_)))
  refine G_val (V_loadA rfl rfl (Cells.own (.tail _ (.head _))) rfl) rfl rfl (.none rfl) ?_
  refine G_val (V_loadA rfl rfl (Cells.own (.head _)) rfl) rfl rfl (.none rfl) ?_
  refine G_call (k := 25) (.mk rfl rfl rfl rfl) rfl rfl (.none rfl) (Compare_call' _ _ _ _ (by assumption) (by assumption)) ?_
  rintro r8 E9 L10 hE11 ⟨rfl, rfl⟩
  replace hnil := hnil.mono hE11
  refine G_val (V_move rfl rfl) rfl rfl (.none rfl) ?_
  refine G_val (V_extract rfl rfl rfl) rfl rfl (.none rfl) ?_
  refine G_val (V_extract rfl rfl rfl) rfl rfl (.none rfl) ?_
  refine G_val (V_assign rfl rfl) rfl rfl (.none rfl) ?_
  refine G_val (V_assign rfl rfl) rfl rfl (.none rfl) ?_
  refine G_end (X_then (G_seq (G_region ?_)))
  refine G_val (V_loadA rfl rfl (Cells.own (.tail _ (.tail _ (.head _)))) rfl) rfl rfl (.none rfl) ?_
  refine G_val (V_loadA rfl rfl (Cells.own (.head _)) rfl) rfl rfl (.none rfl) ?_
  refine G_call (k := 25) (.mk rfl rfl rfl rfl) rfl rfl (.none rfl) (Compare_call' _ _ _ _ (by assumption) (by assumption)) ?_
  rintro r12 E13 L14 hE15 ⟨rfl, rfl⟩
  replace hnil := hnil.mono hE15
  refine G_val (V_move rfl rfl) rfl rfl (.none rfl) ?_
  refine G_val (V_extract rfl rfl rfl) rfl rfl (.none rfl) ?_
  refine G_val (V_extract rfl rfl rfl) rfl rfl (.none rfl) ?_
  refine G_val (V_assign rfl rfl) rfl rfl (.none rfl) ?_
  refine G_val (V_assign rfl rfl) rfl rfl (.none rfl) ?_
  refine G_end (X_then (G_seq (G_region ?_)))
  refine G_val (V_loadA rfl rfl (Cells.own (.tail _ (.head _))) rfl) rfl rfl (.none rfl) ?_
  refine G_val (V_loadA rfl rfl (Cells.own (.tail _ (.tail _ (.head _)))) rfl) rfl rfl (.none rfl) ?_
  refine G_call (k := 25) (.mk rfl rfl rfl rfl) rfl rfl (.none rfl) (Compare_call' _ _ _ _ (by assumption) (by assumption)) ?_
  rintro r16 E17 L18 hE19 ⟨rfl, rfl⟩
  replace hnil := hnil.mono hE19
  refine G_val (V_move rfl rfl) rfl rfl (.none rfl) ?_
  refine G_val (V_extract rfl rfl rfl) rfl rfl (.none rfl) ?_
  refine G_val (V_extract rfl rfl rfl) rfl rfl (.none rfl) ?_
  refine G_val (V_assign rfl rfl) rfl rfl (.none rfl) ?_
  refine G_val (V_assign rfl rfl) rfl rfl (.none rfl) ?_
  refine G_end (X_then (G_seq (G_region ?_)))
  refine G_val (V_loadA rfl rfl (Cells.own (.tail _ (.tail _ (.head _)))) rfl) rfl rfl (.none rfl) ?_
  refine G_val (V_loadA rfl rfl (Cells.own (.tail _ (.head _))) rfl) rfl rfl (.none rfl) ?_
  refine G_call (k := 27) (.mk rfl rfl rfl rfl) rfl rfl (.none rfl) (Begins_call' _ _ _ _ (by assumption) (by assumption)) ?_
  rintro r20 E21 L22 hE23 ⟨rfl, rfl⟩
  replace hnil := hnil.mono hE23
  refine G_val (V_move rfl rfl) rfl rfl (.none rfl) ?_
  refine G_val (V_extract rfl rfl rfl) rfl rfl (.none rfl) ?_
  refine G_val (V_extract rfl rfl rfl) rfl rfl (.none rfl) ?_
  refine G_val (V_assign rfl rfl) rfl rfl (.none rfl) ?_
  refine G_val (V_assign rfl rfl) rfl rfl (.none rfl) ?_
  refine G_end (X_then (G_seq ?_))
  simp only [List.append_eq, List.cons_append, List.nil_append]
  have hw : IntKind.i64.wrap (0 - cmpL x y) = -cmpL x y := by rcases hv with h | h | h <;> rw [h] <;> rfl
  have q1 : decide (cmpL y x = IntKind.i64.wrap (0 - cmpL x y)) = true := decide_eq_true (by rw [hw, hd])
  have q2 := (decide_eq_true (decide_eq_decide.2 hAB) : decide (decide (cmpL x y = 0) = decide (((x.length : Nat) : Int) = ((y.length : Nat) : Int) ∧ gd x 0 = gd y 0 ∧ gd x 1 = gd y 1 ∧ gd x 2 = gd y 2 ∧ gd x 3 = gd y 3)) = true)
  have q3 : (decide (0 < cmpL x y) || decide (0 < cmpL y z) || decide (cmpL x z ≤ 0)) = true := by simpa only [Bool.or_eq_true, decide_eq_true_eq] using ht1
  have q4 : (decide (0 ≤ cmpL x y) || decide (0 < cmpL y z) || decide (cmpL x z < 0)) = true := by simpa only [Bool.or_eq_true, decide_eq_true_eq] using ht2
  have q5 : (!decide (begB x y) || decide (cmpL x y ≤ 0)) = true := by simpa only [Bool.or_eq_true, Bool.not_eq_true', decide_eq_true_eq, decide_eq_false_iff_not] using hb1
  clear hd hv hv2 hv3 hAB ht1 ht2 hb1 hw
  refine G_draw mixed (by kernel_rfl) ?_
  refine Q_val (V_move rfl rfl) rfl rfl (.none rfl) ?_
  refine Q_val (V_move rfl rfl) rfl rfl (.none rfl) ?_
  refine Q_val (V_move rfl rfl) rfl rfl (.yes rfl rfl rfl rfl) ?_
  refine Q_val (V_eql rfl rfl rfl) rfl rfl (.yes rfl rfl rfl rfl) ?_
  refine Q_val (V_pick_t rfl rfl rfl) rfl rfl (.none rfl) ?_
  refine Q_val (V_move rfl rfl) rfl rfl (.none rfl) ?_
  refine Q_bool_t 63 rfl (by kernel_rfl) ?_
  refine Q_val (V_move rfl rfl) rfl rfl (.yes rfl rfl rfl rfl) ?_
  refine Q_val (V_eql rfl rfl rfl) rfl rfl (.yes rfl rfl rfl rfl) ?_
  refine Q_val (V_pick_t rfl rfl rfl) rfl rfl (.none rfl) ?_
  refine Q_val (V_move rfl rfl) rfl rfl (.none rfl) ?_
  refine Q_bool_t 67 rfl (by kernel_rfl) ?_
  refine Q_val (V_move rfl rfl) rfl rfl (.yes rfl rfl rfl rfl) ?_
  refine Q_val (V_eql rfl rfl rfl) rfl rfl (.yes rfl rfl rfl rfl) ?_
  refine Q_val (V_pick_t rfl rfl rfl) rfl rfl (.none rfl) ?_
  refine Q_val (V_move rfl rfl) rfl rfl (.none rfl) ?_
  refine Q_bool_t 71 rfl (by kernel_rfl) ?_
  refine Q_val (V_move rfl rfl) rfl rfl (.yes rfl rfl rfl rfl) ?_
  refine Q_val (V_eql rfl rfl rfl) rfl rfl (.yes rfl rfl rfl rfl) ?_
  refine Q_val (V_pick_t rfl rfl rfl) rfl rfl (.none rfl) ?_
  refine Q_val (V_move rfl rfl) rfl rfl (.none rfl) ?_
  refine Q_bool_t 75 rfl (by kernel_rfl) ?_
  refine Q_val (V_move rfl rfl) rfl rfl (.yes rfl rfl rfl rfl) ?_
  refine Q_val (V_eql rfl rfl rfl) rfl rfl (.yes rfl rfl rfl rfl) ?_
  refine Q_val (V_pick_t rfl rfl rfl) rfl rfl (.none rfl) ?_
  refine Q_val (V_move rfl rfl) rfl rfl (.none rfl) ?_
  refine Q_bool_t 79 rfl (by kernel_rfl) ?_
  refine Q_val (V_move rfl rfl) rfl rfl (.yes rfl rfl rfl rfl) ?_
  refine Q_val (V_move rfl rfl) rfl rfl (.yes rfl rfl rfl rfl) ?_
  refine Q_val (V_neg rfl rfl) rfl rfl (.yes rfl rfl rfl rfl) ?_
  refine Q_val (V_eql rfl rfl rfl) rfl rfl (.yes rfl rfl rfl rfl) ?_
  refine Q_val (V_pick_t rfl rfl rfl) rfl rfl (.none rfl) ?_
  refine Q_val (V_move rfl rfl) rfl rfl (.none rfl) ?_
  refine Q_bool_t 85 rfl (by assumption) ?_
  refine Q_val (V_move rfl rfl) rfl rfl (.yes rfl rfl rfl rfl) ?_
  refine Q_val (V_eql rfl rfl rfl) rfl rfl (.yes rfl rfl rfl rfl) ?_
  refine Q_val (V_loadA rfl rfl (Cells.own (.tail _ (.tail _ (.head _)))) rfl) rfl rfl (.yes rfl rfl rfl rfl) ?_
  refine Q_val (V_loadA rfl rfl (Cells.own (.tail _ (.head _))) rfl) rfl rfl (.yes rfl rfl rfl rfl) ?_
  refine Q_val (V_aeql_25 rfl rfl rfl) rfl rfl (.yes rfl rfl rfl rfl) ?_
  refine Q_val (V_beql rfl rfl rfl) rfl rfl (.yes rfl rfl rfl rfl) ?_
  refine Q_val (V_pick_t rfl rfl rfl) rfl rfl (.none rfl) ?_
  refine Q_val (V_move rfl rfl) rfl rfl (.none rfl) ?_
  refine Q_bool_t 93 rfl (by assumption) ?_
  refine Q_val (V_move rfl rfl) rfl rfl (.yes rfl rfl rfl rfl) ?_
  refine Q_val (V_gtr rfl rfl rfl) rfl rfl (.yes rfl rfl rfl rfl) ?_
  refine Q_val (V_move rfl rfl) rfl rfl (.yes rfl rfl rfl rfl) ?_
  apply Q_joinOr 3 96 99 rfl
  · intro H1
    dsimp only [List.take]
    simp only [Bool.and_eq_true, Bool.or_eq_true, Bool.not_eq_true', Bool.not_eq_false', Bool.and_eq_false_iff, Bool.or_eq_false_iff, Bool.not_not, decide_eq_true_eq, decide_eq_false_iff_not, ne_eq, Decidable.not_not, Bool.decide_eq_true] at H1
    refine Q_stay (.no rfl rfl rfl rfl) rfl rfl ?_
    refine Q_stay (.no rfl rfl rfl rfl) rfl rfl ?_
    refine Q_val (V_pick_t rfl rfl rfl) rfl rfl (.yes rfl rfl rfl rfl) ?_
    exact FQ_end 3 rfl rfl (by kernel_rfl)
  · intro H2
    dsimp only [List.take]
    simp only [Bool.and_eq_true, Bool.or_eq_true, Bool.not_eq_true', Bool.not_eq_false', Bool.and_eq_false_iff, Bool.or_eq_false_iff, Bool.not_not, decide_eq_true_eq, decide_eq_false_iff_not, ne_eq, Decidable.not_not, Bool.decide_eq_true] at H2
    refine Q_val (V_move rfl rfl) rfl rfl (.yes rfl rfl rfl rfl) ?_
    refine Q_val (V_gtr rfl rfl rfl) rfl rfl (.yes rfl rfl rfl rfl) ?_
    refine Q_val (V_pick_f rfl rfl rfl) rfl rfl (.yes rfl rfl rfl rfl) ?_
    exact FQ_end 3 rfl rfl (by kernel_rfl)
  dsimp only [List.drop]
  refine Q_val (V_move rfl rfl) rfl rfl (.yes rfl rfl rfl rfl) ?_
  apply Q_joinOr 3 100 103 rfl
  · intro H3
    dsimp only [List.take]
    simp only [Bool.and_eq_true, Bool.or_eq_true, Bool.not_eq_true', Bool.not_eq_false', Bool.and_eq_false_iff, Bool.or_eq_false_iff, Bool.not_not, decide_eq_true_eq, decide_eq_false_iff_not, ne_eq, Decidable.not_not, Bool.decide_eq_true] at H3
    refine Q_stay (.no rfl rfl rfl rfl) rfl rfl ?_
    refine Q_stay (.no rfl rfl rfl rfl) rfl rfl ?_
    refine Q_val (V_pick_t rfl rfl rfl) rfl rfl (.yes rfl rfl rfl rfl) ?_
    exact FQ_end 3 rfl rfl (by kernel_rfl)
  · intro H4
    dsimp only [List.take]
    simp only [Bool.and_eq_true, Bool.or_eq_true, Bool.not_eq_true', Bool.not_eq_false', Bool.and_eq_false_iff, Bool.or_eq_false_iff, Bool.not_not, decide_eq_true_eq, decide_eq_false_iff_not, ne_eq, Decidable.not_not, Bool.decide_eq_true] at H4
    refine Q_val (V_move rfl rfl) rfl rfl (.yes rfl rfl rfl rfl) ?_
    refine Q_val (V_leq rfl rfl rfl) rfl rfl (.yes rfl rfl rfl rfl) ?_
    refine Q_val (V_pick_f rfl rfl rfl) rfl rfl (.yes rfl rfl rfl rfl) ?_
    exact FQ_end 3 rfl rfl (by kernel_rfl)
  dsimp only [List.drop]
  refine Q_val (V_pick_t rfl rfl rfl) rfl rfl (.none rfl) ?_
  refine Q_val (V_move rfl rfl) rfl rfl (.none rfl) ?_
  refine Q_bool_t 105 rfl (by assumption) ?_
  refine Q_val (V_move rfl rfl) rfl rfl (.yes rfl rfl rfl rfl) ?_
  refine Q_val (V_geq rfl rfl rfl) rfl rfl (.yes rfl rfl rfl rfl) ?_
  refine Q_val (V_move rfl rfl) rfl rfl (.yes rfl rfl rfl rfl) ?_
  apply Q_joinOr 3 108 111 rfl
  · intro H5
    dsimp only [List.take]
    simp only [Bool.and_eq_true, Bool.or_eq_true, Bool.not_eq_true', Bool.not_eq_false', Bool.and_eq_false_iff, Bool.or_eq_false_iff, Bool.not_not, decide_eq_true_eq, decide_eq_false_iff_not, ne_eq, Decidable.not_not, Bool.decide_eq_true] at H5
    refine Q_stay (.no rfl rfl rfl rfl) rfl rfl ?_
    refine Q_stay (.no rfl rfl rfl rfl) rfl rfl ?_
    refine Q_val (V_pick_t rfl rfl rfl) rfl rfl (.yes rfl rfl rfl rfl) ?_
    exact FQ_end 3 rfl rfl (by kernel_rfl)
  · intro H6
    dsimp only [List.take]
    simp only [Bool.and_eq_true, Bool.or_eq_true, Bool.not_eq_true', Bool.not_eq_false', Bool.and_eq_false_iff, Bool.or_eq_false_iff, Bool.not_not, decide_eq_true_eq, decide_eq_false_iff_not, ne_eq, Decidable.not_not, Bool.decide_eq_true] at H6
    refine Q_val (V_move rfl rfl) rfl rfl (.yes rfl rfl rfl rfl) ?_
    refine Q_val (V_gtr rfl rfl rfl) rfl rfl (.yes rfl rfl rfl rfl) ?_
    refine Q_val (V_pick_f rfl rfl rfl) rfl rfl (.yes rfl rfl rfl rfl) ?_
    exact FQ_end 3 rfl rfl (by kernel_rfl)
  dsimp only [List.drop]
  refine Q_val (V_move rfl rfl) rfl rfl (.yes rfl rfl rfl rfl) ?_
  apply Q_joinOr 3 112 115 rfl
  · intro H7
    dsimp only [List.take]
    simp only [Bool.and_eq_true, Bool.or_eq_true, Bool.not_eq_true', Bool.not_eq_false', Bool.and_eq_false_iff, Bool.or_eq_false_iff, Bool.not_not, decide_eq_true_eq, decide_eq_false_iff_not, ne_eq, Decidable.not_not, Bool.decide_eq_true] at H7
    refine Q_stay (.no rfl rfl rfl rfl) rfl rfl ?_
    refine Q_stay (.no rfl rfl rfl rfl) rfl rfl ?_
    refine Q_val (V_pick_t rfl rfl rfl) rfl rfl (.yes rfl rfl rfl rfl) ?_
    exact FQ_end 3 rfl rfl (by kernel_rfl)
  · intro H8
    dsimp only [List.take]
    simp only [Bool.and_eq_true, Bool.or_eq_true, Bool.not_eq_true', Bool.not_eq_false', Bool.and_eq_false_iff, Bool.or_eq_false_iff, Bool.not_not, decide_eq_true_eq, decide_eq_false_iff_not, ne_eq, Decidable.not_not, Bool.decide_eq_true] at H8
    refine Q_val (V_move rfl rfl) rfl rfl (.yes rfl rfl rfl rfl) ?_
    refine Q_val (V_lss rfl rfl rfl) rfl rfl (.yes rfl rfl rfl rfl) ?_
    refine Q_val (V_pick_f rfl rfl rfl) rfl rfl (.yes rfl rfl rfl rfl) ?_
    exact FQ_end 3 rfl rfl (by kernel_rfl)
  dsimp only [List.drop]
  refine Q_val (V_pick_t rfl rfl rfl) rfl rfl (.none rfl) ?_
  refine Q_val (V_move rfl rfl) rfl rfl (.none rfl) ?_
  refine Q_bool_t 117 rfl (by assumption) ?_
  refine Q_val (V_move rfl rfl) rfl rfl (.yes rfl rfl rfl rfl) ?_
  refine Q_val (V_not rfl rfl) rfl rfl (.yes rfl rfl rfl rfl) ?_
  refine Q_val (V_move rfl rfl) rfl rfl (.yes rfl rfl rfl rfl) ?_
  apply Q_joinOr 3 120 123 rfl
  · intro H9
    dsimp only [List.take]
    simp only [Bool.and_eq_true, Bool.or_eq_true, Bool.not_eq_true', Bool.not_eq_false', Bool.and_eq_false_iff, Bool.or_eq_false_iff, Bool.not_not, decide_eq_true_eq, decide_eq_false_iff_not, ne_eq, Decidable.not_not, Bool.decide_eq_true] at H9
    refine Q_stay (.no rfl rfl rfl rfl) rfl rfl ?_
    refine Q_stay (.no rfl rfl rfl rfl) rfl rfl ?_
    refine Q_val (V_pick_t rfl rfl rfl) rfl rfl (.yes rfl rfl rfl rfl) ?_
    exact FQ_end 3 rfl rfl (by kernel_rfl)
  · intro H10
    dsimp only [List.take]
    simp only [Bool.and_eq_true, Bool.or_eq_true, Bool.not_eq_true', Bool.not_eq_false', Bool.and_eq_false_iff, Bool.or_eq_false_iff, Bool.not_not, decide_eq_true_eq, decide_eq_false_iff_not, ne_eq, Decidable.not_not, Bool.decide_eq_true] at H10
    refine Q_val (V_move rfl rfl) rfl rfl (.yes rfl rfl rfl rfl) ?_
    refine Q_val (V_leq rfl rfl rfl) rfl rfl (.yes rfl rfl rfl rfl) ?_
    refine Q_val (V_pick_f rfl rfl rfl) rfl rfl (.yes rfl rfl rfl rfl) ?_
    exact FQ_end 3 rfl rfl (by kernel_rfl)
  dsimp only [List.drop]
  refine Q_val (V_pick_t rfl rfl rfl) rfl rfl (.none rfl) ?_
  refine Q_val (V_move rfl rfl) rfl rfl (.none rfl) ?_
  refine Q_bool_t 125 rfl (by assumption) ?_
  refine Q_callv (k := 37) (.mk rfl rfl rfl rfl) rfl rfl (.yes rfl rfl rfl rfl) (of_0 _ _ _ _ (by assumption)) ?_
  dsimp only [Go.Proofs.YthcfakmmomfcaaaDoor.lk]
  refine Q_val (V_loadA rfl rfl (Cells.own (.tail _ (.tail _ (.head _)))) rfl) rfl rfl (.yes rfl rfl rfl rfl) ?_
  refine Q_val (V_loadA rfl rfl (Cells.own (.tail _ (.tail _ (.head _)))) rfl) rfl rfl (.yes rfl rfl rfl rfl) ?_
  refine Q_callv (k := 44) (.mk rfl rfl rfl rfl) rfl rfl (.yes rfl rfl rfl rfl) (least_call _ _ _) ?_
  refine Q_callv (k := 43) (.mk rfl rfl rfl rfl) rfl rfl (.yes rfl rfl rfl rfl) (comparesL_call _ _ _ (by assumption)) ?_
  refine Q_val (V_pick_t rfl rfl rfl) rfl rfl (.none rfl) ?_
  refine Q_val (V_assign rfl rfl) rfl rfl (.none rfl) ?_
  refine Q_end ?_
  refine X_then (G_ret ?_)
  refine G_leaveS (.drop _ (.drop _ (.drop _ (.nil _)))) (by exact (.cons (.tmp rfl) (.nil))) rfl ?_ ?_
  · exact ((((((((hE1.trans hE2).trans hE3).trans hE4).trans hE7).trans hE11).trans hE15).trans hE19).trans hE23)
  exact ⟨(by kernel_rfl), rfl⟩
end
end Go.Proofs.YthcfakmmomfcaaaDoor
set_option linter.unusedSimpArgs false
set_option linter.unusedVariables false
set_option maxHeartbeats 2000000
set_option maxRecDepth 20000
namespace Go.Proofs.YthcfakmmomfcaaaDoor
open Go.RowKit
/-! Plain: texts and looks, numbers in order. -/
theorem parseP_m' : parseP [45] = (lk 0 0 0 0 0, 0) := by unfold parseP; rw [if_pos rfl]
abbrev txB (x : List Int) : List UInt8 := if x = [] then [45] else txR x
theorem dgb_nat {a : Int} (h : 0 ≤ a ∧ a < 10) : ((dgb a).toNat : Int) = 48 + a := (dgb_eq h).symm
theorem txR_cons (a : Int) {l : List Int} (h : l ≠ []) : txR (a :: l) = dgb a :: 32 :: txR l := by
  cases l with
  | nil => exact absurd rfl h
  | cons b l => simp [txR]
theorem alt_tx : ∀ (l : List Int), l ≠ [] → (∀ x, x ∈ l → 0 ≤ x ∧ x < 8) → altP (txR l) ∧ digs (txR l) = l := by
  intro l
  induction l with
  | nil => intro h; exact absurd rfl h
  | cons a l ih =>
    intro _ hall
    have ha := hall a (.head _)
    have hd := dgb_nat (a := a) (by omega)
    by_cases hl : l = []
    · subst hl
      refine ⟨?_, ?_⟩
      · show 48 ≤ (dgb a).toNat ∧ (dgb a).toNat ≤ 57
        omega
      · show [((dgb a).toNat : Int) - 48] = [a]
        rw [hd]
        congr 1
        omega
    · obtain ⟨h1, h2⟩ := ih hl (fun x hx => hall x (.tail _ hx))
      rw [txR_cons a hl]
      refine ⟨⟨by omega, rfl, h1⟩, ?_⟩
      show (((dgb a).toNat : Int) - 48) :: digs (txR l) = a :: l
      rw [h2, hd]
      congr 1
      omega
theorem tx_alt : ∀ (n : Nat) (s : List UInt8), s.length ≤ n → altP s → digs s ≠ [] ∧ txR (digs s) = s ∧ ∀ x, x ∈ digs s → 0 ≤ x ∧ x < 10 := by
  intro n
  induction n using Nat.strongRecOn with
  | ind n ih =>
    intro s hs ha
    have hdg : ∀ b : UInt8, 48 ≤ b.toNat ∧ b.toNat ≤ 57 → dgb ((b.toNat : Int) - 48) = b := fun b hb => by
      refine UInt8.toNat_inj.1 ?_
      have := dgb_nat (a := (b.toNat : Int) - 48) (by omega)
      omega
    rcases s with _ | ⟨b, _ | ⟨c, r⟩⟩
    · exact ha.elim
    · refine ⟨by simp [digs], ?_, fun x hx => ?_⟩
      · show [dgb ((b.toNat : Int) - 48)] = [b]
        rw [hdg b ha]
      · simp only [digs, List.mem_singleton] at hx
        have : 48 ≤ b.toNat ∧ b.toNat ≤ 57 := ha
        omega
    · obtain ⟨hd, rfl, hr⟩ := ha
      obtain ⟨h1, h2, h3⟩ := ih (n - 2) (by simp only [List.length_cons] at hs; omega) r (by simp only [List.length_cons] at hs; omega) hr
      refine ⟨by simp [digs], ?_, fun x hx => ?_⟩
      · show txR (((b.toNat : Int) - 48) :: digs r) = b :: 32 :: r
        rw [txR_cons _ h1, hdg b hd, h2]
      · simp only [digs, List.mem_cons] at hx
        rcases hx with rfl | hx
        · omega
        · exact h3 x hx
theorem ofM_ok8 {l : List Int} (h : ok8 l) : ofM l = (lkP l, 0) := by
  unfold ofM
  rw [if_neg (by have := h.1; omega), if_pos h.2, lkP_eq l h.1]
theorem txR_head {l : List Int} (h : l ≠ []) (hall : ∀ x, x ∈ l → 0 ≤ x ∧ x < 8) : txR l ≠ [45] := by
  cases l with
  | nil => exact absurd rfl h
  | cons a l =>
    intro e
    have ha := hall a (.head _)
    have hd := dgb_nat (a := a) (by omega)
    have : dgb a = 45 := (List.cons.inj e).1
    rw [this] at hd
    have : ((45 : UInt8).toNat : Int) = 45 := rfl
    omega
theorem parse_tx {x : List Int} (hx : ok8 x) : parseP (txB x) = (lkP x, 0) := by
  by_cases h : x = []
  · subst h
    exact parseP_m'
  · rw [txB, if_neg h, parseP_alt (txR_head h hx.2) (alt_tx x h hx.2).1, (alt_tx x h hx.2).2, ofM_ok8 hx]
theorem txB_len {x : List Int} (hx : x.length ≤ 4) : (txB x).length ≤ 8 := by
  unfold txB
  split
  · simp
  · have := txR_len x; omega
theorem parse_cases (s : List UInt8) : (∃ l, parseP s = (lkP l, 0) ∧ ok8 l ∧ txB l = s) ∨ ∃ o1 o2 o3 o4 o5 e, parseP s = (lk o1 o2 o3 o4 o5, e) ∧ e ≠ 0 := by
  by_cases h0 : s = [45]
  · subst h0
    exact .inl ⟨[], parseP_m', ok8_nil, rfl⟩
  by_cases ha : altP s
  · obtain ⟨h1, h2, h3⟩ := tx_alt s.length s (Nat.le_refl _) ha
    rw [parseP_alt h0 ha]
    by_cases h4 : 4 < (digs s).length
    · exact .inr ⟨_, _, _, _, _, _, by unfold ofM; rw [if_pos h4], by omega⟩
    by_cases h8 : ∀ x, x ∈ digs s → 0 ≤ x ∧ x < 8
    · have hok : ok8 (digs s) := ⟨by omega, h8⟩
      exact .inl ⟨digs s, ofM_ok8 hok, hok, by rw [txB, if_neg h1, h2]⟩
    · exact .inr ⟨_, _, _, _, _, _, by unfold ofM; rw [if_neg h4, if_neg h8], by omega⟩
  · exact .inr ⟨_, _, _, _, _, _, parseP_bad h0 ha, by omega⟩
theorem numT_mono {t : Nat} : ∀ (f g : Nat) (x y : List Int), okT t f x → okT t f y → f ≤ g → numT t f x < numT t f y → numT t g x < numT t g y := by
  intro f
  induction f with
  | zero =>
    intro g x y hx hy _ h
    have ex : x = [] := List.eq_nil_of_length_eq_zero (by have := hx.1; omega)
    have ey : y = [] := List.eq_nil_of_length_eq_zero (by have := hy.1; omega)
    subst ex ey
    omega
  | succ f ih =>
    intro g x y hx hy hg h
    obtain ⟨g, rfl⟩ : ∃ g', g = g' + 1 := ⟨g - 1, by omega⟩
    cases x with
    | nil =>
      cases y with
      | nil => omega
      | cons b y => rw [numT_nil, numT_cons]; omega
    | cons a x =>
      cases y with
      | nil => rw [numT_nil, numT_cons] at h; omega
      | cons b y =>
        have hx' : okT t f x := ⟨by have := hx.1; simp only [List.length_cons] at this; omega, fun z hz => hx.2 z (.tail _ hz)⟩
        have hy' : okT t f y := ⟨by have := hy.1; simp only [List.length_cons] at this; omega, fun z hz => hy.2 z (.tail _ hz)⟩
        have ha := hx.2 a (.head _)
        have hb := hy.2 b (.head _)
        rw [numT_cons, numT_cons] at h ⊢
        have l1 := numT_lt t f x hx'
        have l2 := numT_lt t f y hy'
        have l3 := numT_lt t g x ⟨by have := hx'.1; omega, hx'.2⟩
        rcases Nat.lt_trichotomy a.toNat b.toNat with h5 | h5 | h5
        · have := Nat.mul_le_mul_right (lenT t g) (show a.toNat + 1 ≤ b.toNat by omega)
          rw [Nat.succ_mul] at this
          omega
        · rw [h5] at h ⊢
          have := ih g x y hx' hy' (by omega) (by omega)
          omega
        · exfalso
          have := Nat.mul_le_mul_right (lenT t f) (show b.toNat + 1 ≤ a.toNat by omega)
          rw [Nat.succ_mul] at this
          omega
theorem take_joins (x y z : List Int) (k : Nat) : ((x ++ y).take k ++ z).take k = (x ++ (y ++ z).take k).take k := by
  have h1 : ∀ (a b : List Int), (a.take k ++ b).take k = (a ++ b).take k := fun a b => by
    rw [List.take_append, List.take_append, List.take_take, Nat.min_self]
    by_cases h : k ≤ a.length
    · rw [List.length_take, Nat.min_eq_left h, Nat.sub_self, Nat.sub_eq_zero_of_le h]
    · rw [List.length_take, Nat.min_eq_right (by omega)]
  have h2 : ∀ (a b : List Int), (a ++ b.take k).take k = (a ++ b).take k := fun a b => by
    rw [List.take_append, List.take_append, List.take_take]
    congr 2
    omega
  rw [h1, h2, List.append_assoc]
theorem take_cut (x y : List Int) (k : Nat) : (x.take k ++ y).take k = (x ++ y).take k := by
  rw [List.take_append, List.take_append, List.take_take, Nat.min_self]
  by_cases h : k ≤ x.length
  · rw [List.length_take, Nat.min_eq_left h, Nat.sub_self, Nat.sub_eq_zero_of_le h]
  · rw [List.length_take, Nat.min_eq_right (by omega)]
end Go.Proofs.YthcfakmmomfcaaaDoor
set_option linter.unusedSimpArgs false
set_option linter.unusedVariables false
set_option maxHeartbeats 2000000
set_option maxRecDepth 20000
namespace Go.Proofs.YthcfakmmomfcaaaDoor
open Go.RowKit
/-! The law LookSums. -/
theorem Ok8.join {x y : List Int} (hx : Ok8 x) (hy : Ok8 y) {k : Nat} (hk : k ≤ 4) : Ok8 ((x ++ y).take k) := ⟨hx.ok.join hy.ok hk⟩
section
variable (E : Env) (L : List Res)
theorem LookSums_call (hT : SlE E 1 (some ⟨5, 1, none⟩) 1 [.int .u8 1]) (n m o k : Int) (hn : -9223372036854775808 ≤ n ∧ n ≤ 9223372036854775807) (hm : -9223372036854775808 ≤ m ∧ m ≤ 9223372036854775807) (ho : -9223372036854775808 ≤ o ∧ o ≤ 9223372036854775807) (hk : -9223372036854775808 ≤ k ∧ k ≤ 9223372036854775807) :
    CallS Tryd.prog 8 #[.int .i64 n, .int .i64 m, .int .i64 o, .int .i64 k] E L (fun r E' L' => r = .bool true ∧ L = L') := by
  have hnil : SlE E 1 none 0 [] := SlE.nil
  have hM := fun E1 L1 => Mod_call' E1 L1 k 4 hk (by omega)
  obtain ⟨j, hj, hj4⟩ : ∃ j : Nat, k % 4 = j ∧ j < 4 := ⟨(k % 4).toNat, by omega, by omega⟩
  rw [hj] at hM
  refine CallS.intro (l := [_, _, _, _]) _ Tryd.func8 rfl Tryd.ntmps8 rfl ?_
  refine G_seq (G_region ?_)
  refine G_val (V_assign rfl rfl) rfl rfl (.none rfl) ?_
  refine G_end (X_then (G_seq (G_region ?_)))
  refine G_call (k := 6) (.mk rfl rfl rfl rfl) rfl rfl (.none rfl) (LookKnown_call _ _ hT) ?_
  rintro r1 E1 L1 hE1 ⟨rfl, rfl⟩
  refine G_val (V_assign rfl rfl) rfl rfl (.none rfl) ?_
  refine G_end (X_then (G_seq (G_region ?_)))
  refine G_val (V_move rfl rfl) rfl rfl (.none rfl) ?_
  refine G_call (k := 42) (.mk rfl rfl rfl rfl) rfl rfl (.none rfl) (made8_call _ _ n hn) ?_
  rintro r2 E2 L2 hE2 ⟨x, rfl, hx, rfl⟩
  refine G_val (V_move rfl rfl) rfl rfl (.none rfl) ?_
  refine G_call (k := 42) (.mk rfl rfl rfl rfl) rfl rfl (.none rfl) (made8_call _ _ m hm) ?_
  rintro r3 E3 L3 hE3 ⟨y, rfl, hy, rfl⟩
  refine G_val (V_move rfl rfl) rfl rfl (.none rfl) ?_
  refine G_call (k := 42) (.mk rfl rfl rfl rfl) rfl rfl (.none rfl) (made8_call _ _ o ho) ?_
  rintro r4 E4 L4 hE4 ⟨z, rfl, hz, rfl⟩
  (refine G_alloc rfl rfl rfl (.none rfl) ?_; intro b10)
  (refine G_alloc rfl rfl rfl (.none rfl) ?_; intro b11)
  (refine G_alloc rfl rfl rfl (.none rfl) ?_; intro b12)
  refine G_storeA rfl rfl rfl rfl (by simp [Value.oneCell']) rfl (.none rfl) (.tail _ (.tail _ (.head _ _ _))) rfl ?_
  refine G_storeA rfl rfl rfl rfl (by simp [Value.oneCell']) rfl (.none rfl) (.tail _ (.head _ _ _)) rfl ?_
  refine G_storeA rfl rfl rfl rfl (by simp [Value.oneCell']) rfl (.none rfl) (.head _ _ _) rfl ?_
  refine G_end (X_then (G_seq (G_region ?_)))
  refine G_val (V_move rfl rfl) rfl rfl (.none rfl) ?_
  refine G_callv (k := 45) (.mk rfl rfl rfl rfl) rfl rfl (.none rfl) (hM _ _) ?_
  replace hnil := hnil.mono (hE1.trans (hE2.trans (hE3.trans hE4)))
  refine G_val (V_add_i64 rfl rfl rfl (by omega) (by omega)) rfl rfl (.none rfl) ?_
  refine G_val (V_assign rfl rfl) rfl rfl (.none rfl) ?_
  refine G_end (X_then (G_seq (G_region ?_)))
  refine G_val (V_move rfl rfl) rfl rfl (.none rfl) ?_
  refine G_val (V_loadA rfl rfl (Cells.own (.tail _ (.tail _ (.head _)))) rfl) rfl rfl (.none rfl) ?_
  refine G_val (V_loadA rfl rfl (Cells.own (.tail _ (.head _))) rfl) rfl rfl (.none rfl) ?_
  rw [show (1 : Int) + j = ((1 + j : Nat) : Int) by omega]
  have hK : 1 ≤ 1 + j ∧ 1 + j ≤ 4 := by omega
  generalize 1 + j = K at hK ⊢
  have h1 := hx.join hy hK.2
  have h2 := hy.join hz hK.2
  have h3 : Ok8 (x.take K) := ⟨hx.ok.take K⟩
  have hJZ : ∀ E1 L0, CallS Tryd.prog 21 #[.int .i64 (K : Nat), lkP x, lk 0 0 0 0 0] E1 L0 (fun r E' L' => r = .tuple #[lkP (x.take K), .int .i64 0] ∧ L0 = L') := fun E1 L0 => by
    have := JoinP_call E1 L0 x [] K hx ⟨ok8_nil⟩ hK
    rw [List.append_nil] at this
    exact this
  have q1 := take_joins x y z K
  have q2 := take_cut x y K
  have l1 : (x.take K).length = min K x.length := List.length_take
  have l2 : ((x ++ y).take K).length = min K (x.length + y.length) := by rw [List.length_take, List.length_append]
  skip
  refine G_call (k := 21) (.mk rfl rfl rfl rfl) rfl rfl (.none rfl) (JoinP_call _ _ x y K hx hy hK) ?_
  rintro s1 s2 s4 s3 ⟨rfl, rfl⟩
  refine G_val (V_move rfl rfl) rfl rfl (.none rfl) ?_
  refine G_val (V_extract rfl rfl rfl) rfl rfl (.none rfl) ?_
  refine G_val (V_extract rfl rfl rfl) rfl rfl (.none rfl) ?_
  (refine G_alloc rfl rfl rfl (.none rfl) ?_; intro b13)
  refine G_storeA rfl rfl rfl rfl (by simp [Value.oneCell']) rfl (.none rfl) (.head _ _ _) rfl ?_
  refine G_val (V_assign rfl rfl) rfl rfl (.none rfl) ?_
  refine G_end (X_then (G_seq (G_region ?_)))
  refine G_val (V_move rfl rfl) rfl rfl (.none rfl) ?_
  refine G_val (V_loadA rfl rfl (Cells.own (.tail _ (.tail _ (.head _)))) rfl) rfl rfl (.none rfl) ?_
  refine G_val (V_loadA rfl rfl (Cells.own (.tail _ (.head _))) rfl) rfl rfl (.none rfl) ?_
  refine G_call (k := 21) (.mk rfl rfl rfl rfl) rfl rfl (.none rfl) (JoinP_call _ _ y z K hy hz hK) ?_
  rintro t1 t2 t4 t3 ⟨rfl, rfl⟩
  refine G_val (V_move rfl rfl) rfl rfl (.none rfl) ?_
  refine G_val (V_extract rfl rfl rfl) rfl rfl (.none rfl) ?_
  refine G_val (V_extract rfl rfl rfl) rfl rfl (.none rfl) ?_
  (refine G_alloc rfl rfl rfl (.none rfl) ?_; intro b15)
  refine G_storeA rfl rfl rfl rfl (by simp [Value.oneCell']) rfl (.none rfl) (.head _ _ _) rfl ?_
  refine G_val (V_assign rfl rfl) rfl rfl (.none rfl) ?_
  refine G_end (X_then (G_seq (G_region ?_)))
  refine G_val (V_move rfl rfl) rfl rfl (.none rfl) ?_
  refine G_val (V_loadA rfl rfl (Cells.own (.tail _ (.head _))) rfl) rfl rfl (.none rfl) ?_
  refine G_val (V_loadA rfl rfl (Cells.own (.tail _ (.tail _ (.head _)))) rfl) rfl rfl (.none rfl) ?_
  refine G_call (k := 21) (.mk rfl rfl rfl rfl) rfl rfl (.none rfl) (JoinP_call _ _ _ z K h1 hz hK) ?_
  rintro u1 u2 u4 u3 ⟨rfl, rfl⟩
  refine G_val (V_move rfl rfl) rfl rfl (.none rfl) ?_
  refine G_val (V_extract rfl rfl rfl) rfl rfl (.none rfl) ?_
  refine G_val (V_extract rfl rfl rfl) rfl rfl (.none rfl) ?_
  (refine G_alloc rfl rfl rfl (.none rfl) ?_; intro b17)
  refine G_storeA rfl rfl rfl rfl (by simp [Value.oneCell']) rfl (.none rfl) (.head _ _ _) rfl ?_
  refine G_val (V_assign rfl rfl) rfl rfl (.none rfl) ?_
  refine G_end (X_then (G_seq (G_region ?_)))
  refine G_val (V_move rfl rfl) rfl rfl (.none rfl) ?_
  refine G_val (V_loadA rfl rfl (Cells.own (.tail _ (.tail _ (.tail _ (.tail _ (.tail _ (.head _))))))) rfl) rfl rfl (.none rfl) ?_
  refine G_val (V_loadA rfl rfl (Cells.own (.tail _ (.head _))) rfl) rfl rfl (.none rfl) ?_
  refine G_call (k := 21) (.mk rfl rfl rfl rfl) rfl rfl (.none rfl) (JoinP_call _ _ x _ K hx h2 hK) ?_
  rintro v1 v2 v4 v3 ⟨rfl, rfl⟩
  refine G_val (V_move rfl rfl) rfl rfl (.none rfl) ?_
  refine G_val (V_extract rfl rfl rfl) rfl rfl (.none rfl) ?_
  refine G_val (V_extract rfl rfl rfl) rfl rfl (.none rfl) ?_
  (refine G_alloc rfl rfl rfl (.none rfl) ?_; intro b19)
  refine G_storeA rfl rfl rfl rfl (by simp [Value.oneCell']) rfl (.none rfl) (.head _ _ _) rfl ?_
  refine G_val (V_assign rfl rfl) rfl rfl (.none rfl) ?_
  refine G_end (X_then (G_seq (G_region ?_)))
  refine G_val (V_loadA rfl rfl (Cells.own (.tail _ (.tail _ (.tail _ (.tail _ (.tail _ (.tail _ (.head _)))))))) rfl) rfl rfl (.none rfl) ?_
  refine G_val (V_move rfl rfl) rfl rfl (.none rfl) ?_
  refine G_call (k := 23) (.mk rfl rfl rfl rfl) rfl rfl (.none rfl) (CutP_call _ _ x K hx hK.2) ?_
  rintro w1 w2 w4 w3 ⟨rfl, rfl⟩
  refine G_val (V_move rfl rfl) rfl rfl (.none rfl) ?_
  refine G_val (V_extract rfl rfl rfl) rfl rfl (.none rfl) ?_
  refine G_val (V_extract rfl rfl rfl) rfl rfl (.none rfl) ?_
  (refine G_alloc rfl rfl rfl (.none rfl) ?_; intro b21)
  refine G_storeA rfl rfl rfl rfl (by simp [Value.oneCell']) rfl (.none rfl) (.head _ _ _) rfl ?_
  refine G_val (V_assign rfl rfl) rfl rfl (.none rfl) ?_
  refine G_end (X_then (G_seq (G_region ?_)))
  refine G_val (V_move rfl rfl) rfl rfl (.none rfl) ?_
  refine G_val (V_loadA rfl rfl (Cells.own (.head _)) rfl) rfl rfl (.none rfl) ?_
  refine G_val (V_loadA rfl rfl (Cells.own (.tail _ (.tail _ (.tail _ (.tail _ (.tail _ (.tail _ (.head _)))))))) rfl) rfl rfl (.none rfl) ?_
  refine G_call (k := 21) (.mk rfl rfl rfl rfl) rfl rfl (.none rfl) (JoinP_call _ _ _ y K h3 hy hK) ?_
  rintro e1 e2 e4 e3 ⟨rfl, rfl⟩
  replace hnil := hnil.mono (s3.trans (t3.trans (u3.trans (v3.trans (w3.trans e3)))))
  rw [q1, q2]
  refine G_val (V_move rfl rfl) rfl rfl (.none rfl) ?_
  refine G_val (V_extract rfl rfl rfl) rfl rfl (.none rfl) ?_
  refine G_val (V_extract rfl rfl rfl) rfl rfl (.none rfl) ?_
  (refine G_alloc rfl rfl rfl (.none rfl) ?_; intro b23)
  refine G_storeA rfl rfl rfl rfl (by simp [Value.oneCell']) rfl (.none rfl) (.head _ _ _) rfl ?_
  refine G_val (V_assign rfl rfl) rfl rfl (.none rfl) ?_
  refine G_end (X_then (G_seq ?_))
  refine G_drawX 10 [(0, 0), (1, 1), (2, 3), (3, 3), (4, 0), (5, 0), (6, 0), (7, 2), (8, 4), (9, 0)] mixed (by kernel_rfl) ?_
  refine F_pure rfl (fun _ _ => V_move rfl rfl) rfl rfl (.none rfl) ?_
  refine F_load rfl (.tail _ (.tail _ (.tail _ (.tail _ (.tail _ (.tail _ (.tail _ (.tail _ (.head _))))))))) (V_loadA rfl rfl (Cells.own (.head _)) rfl) rfl rfl (.none rfl) ?_
  refine F_callv (k := 37) rfl (.mk rfl rfl rfl rfl) rfl rfl (.none rfl) (fun _ => of_0 _ _ _ _ (by assumption)) ?_
  dsimp only [Go.Proofs.YthcfakmmomfcaaaDoor.lk]
  refine F_call (k := 21) (Post := fun L0 r E' L' => r = .tuple #[lkP (x.take K), .int .i64 0] ∧ L0 = L') rfl (.mk rfl rfl rfl rfl) rfl rfl (.none rfl) (fun L0 => hJZ _ L0) (fun L0 r E' L' ⟨h1, h2⟩ => ⟨h2.symm, h1, rfl⟩) ?_
  rintro f1 f2 f3 ⟨rfl, _⟩
  clear hJZ q1 q2
  have lx := hx.ok.1
  have ly := hy.ok.1
  refine F_pure rfl (fun _ _ => V_move rfl rfl) rfl rfl (.none rfl) ?_
  refine F_pure rfl (fun _ _ => V_extract rfl rfl rfl) rfl rfl (.none rfl) ?_
  refine F_pure rfl (fun _ _ => V_extract rfl rfl rfl) rfl rfl (.none rfl) ?_
  (refine F_alloc rfl rfl rfl rfl (.none rfl) ?_; intro b25)
  refine F_storeF rfl rfl rfl rfl rfl (by simp [Value.oneCell']) rfl (.none rfl) (.head _ _ _) (Nat.le_of_ble_eq_true rfl) (by simp only [putAll, Nat.zero_add, Nat.reduceAdd, List.setIfInBounds_toArray, List.set_cons_succ, List.set_cons_zero]; rfl) (.cons (by assumption) (by simp) (.nil)) ?_
  refine F_pure rfl (fun _ _ => V_assign rfl rfl) rfl rfl (.none rfl) ?_
  (refine F_end (.nil _) ?_; dsimp only [List.drop])
  refine G_end (X_then (G_seq (G_region ?_)))
  simp only [List.append_eq, List.cons_append, List.nil_append]
  refine G_val (V_move rfl rfl) rfl rfl (.none rfl) ?_
  refine G_val (V_move rfl rfl) rfl rfl (.none rfl) ?_
  refine G_val (V_move rfl rfl) rfl rfl (.yes rfl rfl rfl rfl) ?_
  refine G_val (V_eql rfl rfl rfl) rfl rfl (.yes rfl rfl rfl rfl) ?_
  refine G_val (V_pick_t rfl rfl rfl) rfl rfl (.none rfl) ?_
  refine G_val (V_move rfl rfl) rfl rfl (.none rfl) ?_
  refine G.bool_t 90 rfl (by kernel_rfl) ?_
  refine G_val (V_move rfl rfl) rfl rfl (.yes rfl rfl rfl rfl) ?_
  refine G_val (V_eql rfl rfl rfl) rfl rfl (.yes rfl rfl rfl rfl) ?_
  refine G_val (V_pick_t rfl rfl rfl) rfl rfl (.none rfl) ?_
  refine G_val (V_move rfl rfl) rfl rfl (.none rfl) ?_
  refine G.bool_t 94 rfl (by kernel_rfl) ?_
  refine G_val (V_move rfl rfl) rfl rfl (.yes rfl rfl rfl rfl) ?_
  refine G_val (V_eql rfl rfl rfl) rfl rfl (.yes rfl rfl rfl rfl) ?_
  refine G_val (V_pick_t rfl rfl rfl) rfl rfl (.none rfl) ?_
  refine G_val (V_move rfl rfl) rfl rfl (.none rfl) ?_
  refine G.bool_t 98 rfl (by kernel_rfl) ?_
  refine G_val (V_move rfl rfl) rfl rfl (.yes rfl rfl rfl rfl) ?_
  refine G_val (V_eql rfl rfl rfl) rfl rfl (.yes rfl rfl rfl rfl) ?_
  refine G_val (V_pick_t rfl rfl rfl) rfl rfl (.none rfl) ?_
  refine G_val (V_move rfl rfl) rfl rfl (.none rfl) ?_
  refine G.bool_t 102 rfl (by kernel_rfl) ?_
  refine G_val (V_move rfl rfl) rfl rfl (.yes rfl rfl rfl rfl) ?_
  refine G_val (V_eql rfl rfl rfl) rfl rfl (.yes rfl rfl rfl rfl) ?_
  refine G_val (V_pick_t rfl rfl rfl) rfl rfl (.none rfl) ?_
  refine G_val (V_move rfl rfl) rfl rfl (.none rfl) ?_
  refine G.bool_t 106 rfl (by kernel_rfl) ?_
  refine G_val (V_move rfl rfl) rfl rfl (.yes rfl rfl rfl rfl) ?_
  refine G_val (V_eql rfl rfl rfl) rfl rfl (.yes rfl rfl rfl rfl) ?_
  refine G_val (V_pick_t rfl rfl rfl) rfl rfl (.none rfl) ?_
  refine G_val (V_move rfl rfl) rfl rfl (.none rfl) ?_
  refine G.bool_t 110 rfl (by kernel_rfl) ?_
  refine G_val (V_move rfl rfl) rfl rfl (.yes rfl rfl rfl rfl) ?_
  refine G_val (V_eql rfl rfl rfl) rfl rfl (.yes rfl rfl rfl rfl) ?_
  refine G_val (V_pick_t rfl rfl rfl) rfl rfl (.none rfl) ?_
  refine G_val (V_move rfl rfl) rfl rfl (.none rfl) ?_
  refine G.bool_t 114 rfl (by kernel_rfl) ?_
  refine G_val (V_loadA rfl rfl (Cells.own (.tail _ (.tail _ (.tail _ (.tail _ (.head _)))))) rfl) rfl rfl (.yes rfl rfl rfl rfl) ?_
  refine G_val (V_loadA rfl rfl (Cells.own (.tail _ (.tail _ (.tail _ (.head _))))) rfl) rfl rfl (.yes rfl rfl rfl rfl) ?_
  refine G_val (V_aeql_25 rfl rfl rfl) rfl rfl (.yes rfl rfl rfl rfl) ?_
  refine G_val (V_pick_t rfl rfl rfl) rfl rfl (.none rfl) ?_
  refine G_val (V_move rfl rfl) rfl rfl (.none rfl) ?_
  refine G.bool_t 119 rfl (decide_eq_true (by omega)) ?_
  refine G_val (V_loadA rfl rfl (Cells.own (.tail _ (.head _))) rfl) rfl rfl (.yes rfl rfl rfl rfl) ?_
  refine G_val (V_loadA rfl rfl (Cells.own (.tail _ (.tail _ (.tail _ (.tail _ (.tail _ (.tail _ (.head _)))))))) rfl) rfl rfl (.yes rfl rfl rfl rfl) ?_
  refine G_val (V_aeql_25 rfl rfl rfl) rfl rfl (.yes rfl rfl rfl rfl) ?_
  refine G_val (V_pick_t rfl rfl rfl) rfl rfl (.none rfl) ?_
  refine G_val (V_move rfl rfl) rfl rfl (.none rfl) ?_
  refine G.bool_t 124 rfl (decide_eq_true (by omega)) ?_
  refine G_val (V_loadA rfl rfl (Cells.own (.head _)) rfl) rfl rfl (.yes rfl rfl rfl rfl) ?_
  refine G_val (V_loadA rfl rfl (Cells.own (.tail _ (.tail _ (.head _)))) rfl) rfl rfl (.yes rfl rfl rfl rfl) ?_
  refine G_val (V_aeql_25 rfl rfl rfl) rfl rfl (.yes rfl rfl rfl rfl) ?_
  refine G_val (V_pick_t rfl rfl rfl) rfl rfl (.none rfl) ?_
  refine G_val (V_move rfl rfl) rfl rfl (.none rfl) ?_
  refine G.bool_t 129 rfl (decide_eq_true (by omega)) ?_
  refine G_val (V_fieldAddr rfl rfl (by decide)) rfl rfl (.yes rfl rfl rfl rfl) ?_
  refine G_val (V_load rfl rfl (Cell.own (.tail _ (.tail _ (.head _))) rfl)) rfl rfl (.yes rfl rfl rfl rfl) ?_
  refine G_val (V_move rfl rfl) rfl rfl (.yes rfl rfl rfl rfl) ?_
  refine G_val (V_fieldAddr rfl rfl (by decide)) rfl rfl (.yes rfl rfl rfl rfl) ?_
  refine G_val (V_load rfl rfl (Cell.own (.tail _ (.tail _ (.tail _ (.tail _ (.tail _ (.tail _ (.tail _ (.tail _ (.tail _ (.head _)))))))))) rfl)) rfl rfl (.yes rfl rfl rfl rfl) ?_
  refine G_val (V_min rfl rfl rfl) rfl rfl (.yes rfl rfl rfl rfl) ?_
  refine G_val (V_eql rfl rfl rfl) rfl rfl (.yes rfl rfl rfl rfl) ?_
  refine G_val (V_pick_t rfl rfl rfl) rfl rfl (.none rfl) ?_
  refine G_val (V_move rfl rfl) rfl rfl (.none rfl) ?_
  refine G.bool_t 138 rfl (decide_eq_true (by omega)) ?_
  refine G_val (V_fieldAddr rfl rfl (by decide)) rfl rfl (.yes rfl rfl rfl rfl) ?_
  refine G_val (V_load rfl rfl (Cell.own (.tail _ (.tail _ (.tail _ (.tail _ (.tail _ (.tail _ (.head _))))))) rfl)) rfl rfl (.yes rfl rfl rfl rfl) ?_
  refine G_val (V_move rfl rfl) rfl rfl (.yes rfl rfl rfl rfl) ?_
  refine G_val (V_fieldAddr rfl rfl (by decide)) rfl rfl (.yes rfl rfl rfl rfl) ?_
  refine G_val (V_load rfl rfl (Cell.own (.tail _ (.tail _ (.tail _ (.tail _ (.tail _ (.tail _ (.tail _ (.tail _ (.tail _ (.head _)))))))))) rfl)) rfl rfl (.yes rfl rfl rfl rfl) ?_
  refine G_val (V_fieldAddr rfl rfl (by decide)) rfl rfl (.yes rfl rfl rfl rfl) ?_
  refine G_val (V_load rfl rfl (Cell.own (.tail _ (.tail _ (.tail _ (.tail _ (.tail _ (.tail _ (.tail _ (.tail _ (.head _))))))))) rfl)) rfl rfl (.yes rfl rfl rfl rfl) ?_
  refine G_val (V_add_i64 rfl rfl rfl (by omega) (by omega)) rfl rfl (.yes rfl rfl rfl rfl) ?_
  refine G_val (V_min rfl rfl rfl) rfl rfl (.yes rfl rfl rfl rfl) ?_
  refine G_val (V_eql rfl rfl rfl) rfl rfl (.yes rfl rfl rfl rfl) ?_
  refine G_val (V_pick_t rfl rfl rfl) rfl rfl (.none rfl) ?_
  refine G_val (V_assign rfl rfl) rfl rfl (.none rfl) ?_
  refine G_end (X_then (G_ret ?_))
  refine G_leaveS (.drop _ (.drop _ (.drop _ (.drop _ (.drop _ (.drop _ (.drop _ (.drop _ (.drop _ (.drop _ (.nil _))))))))))) (by exact (.cons (.tmp rfl) (.nil))) rfl ?_ ?_
  · exact ((((((((((hE1.trans hE2).trans hE3).trans hE4).trans s3).trans t3).trans u3).trans v3).trans w3).trans e3).trans f3)
  exact ⟨(by ((try simp only [resVal]); (repeat' split) <;> first | rfl | (exfalso; omega) | (simp_all; done) | (simp_all; omega))), (by rfl)⟩
end
end Go.Proofs.YthcfakmmomfcaaaDoor
