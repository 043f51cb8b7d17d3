import Derived.Test.YtaoinojdijbhaaaSep19
import Derived.Test.YtaoinojdijbhaaaSep20
import Derived.Test.YtaoinojdijbhaaaSep21
import Derived.Test.YtaoinojdijbhaaaSep22
import Derived.Test.YtaoinojdijbhaaaSep23
import Derived.Test.YtaoinojdijbhaaaSep24
import Derived.Test.YtaoinojdijbhaaaInst
import Derived.Test.YtaoinojdijbhaaaD23
set_option linter.unusedSimpArgs false
set_option linter.unusedVariables false
set_option maxHeartbeats 2000000
set_option maxRecDepth 20000
namespace Go.Proofs.Ytaoinojdijbhaaa
open Go.RowKit
theorem first_reachM : reachM firstG = [true, true, false] := by kernel_rfl
theorem first_nullM : nullM firstG = [false, true, false] := by kernel_rfl
theorem first_lengthsM : lengthsM firstG = [1, 0, -1] := by kernel_rfl
theorem first_treesM : treesM firstG = [0, 1, 0] := by kernel_rfl
theorem second_nullM : nullM secondG = [true, true, true] := by kernel_rfl
theorem second_lengthsM : lengthsM secondG = [0, 0, 0] := by kernel_rfl
theorem first_red : redM firstG = (2, 16) := by kernel_rfl
theorem second_red : redM secondG = (0, 0) := by kernel_rfl
theorem empty1 : emptyM secondG [17, 18] = (true, 0) := by kernel_rfl
theorem empty2 : emptyM secondG [17, 0] = (false, 0) := by kernel_rfl
theorem empty3 : emptyM secondG [] = (true, 0) := by kernel_rfl
theorem empty4 : emptyM secondG [9] = (false, 14) := by kernel_rfl
theorem third_belowE : belowE thirdG 2 = 0 := by kernel_rfl
theorem third_belowM : belowL thirdG 2 = [true, false, true] := by kernel_rfl
section
variable (E : Env) (L : List Res)
theorem empty_call (rp : Option Addr) (n rc : Nat) (r : List Int) (hr : SlE E 1 rp n (i64s r)) (h12 : n ≤ 1000) (hri : ∀ s, s ∈ r → -9223372036854775808 ≤ s ∧ s ≤ 9223372036854775807) :
    CallV Try.prog 53 #[.slice rp n rc] E L (.tuple #[.bool (emptyM secondG r).1, .int .i64 (emptyM secondG r).2]) := by
  have e1 := hr.nI
  subst e1
  have l2 := secondL
  refine CallS.toV (CallS.intro (l := [.slice rp r.length rc]) _ Try.func53 rfl Try.ntmps53 rfl ?_)
  refine G_seq (G_region ?_)
  refine G_val (V_assign rfl rfl) rfl rfl (.none rfl) ?_
  refine G_val (V_assign rfl rfl) rfl rfl (.none rfl) ?_
  refine G_end (X_then (G_seq (G_region ?_)))
  refine G_call (k := 51) (.mk rfl rfl rfl rfl) rfl rfl (.none rfl) (second_call _ _) ?_
  rintro r1 E2 L3 hE4 ⟨Z5, rfl⟩
  replace hr := hr.mono hE4
  refine G_val (V_move rfl rfl) rfl rfl (.none rfl) ?_
  refine G_callv (k := 46) (.mk rfl rfl rfl rfl) rfl rfl (.none rfl) (Empty_call _ _ _ _ (by assumption) (by assumption) _ _ _ (by assumption) (by assumption) (by assumption)) ?_
  refine G_val (V_extract rfl rfl rfl) rfl rfl (.none rfl) ?_
  refine G_val (V_extract rfl rfl rfl) rfl rfl (.none rfl) ?_
  refine G_val (V_assign rfl rfl) rfl rfl (.none rfl) ?_
  refine G_val (V_assign rfl rfl) rfl rfl (.none rfl) ?_
  refine G_end (X_then (G_ret ?_))
  refine G_leaveS (.nil _) (by exact (.cons (.tmp rfl) (.cons (.tmp rfl) (.nil)))) rfl ?_ ?_
  · exact hE4
  exact ⟨rfl, rfl⟩
theorem Known_call : CallV Try.prog 6 #[] E L (.bool true) := by
  refine CallS.toV (CallS.intro (l := []) _ Try.func6 rfl Try.ntmps6 rfl ?_)
  have hnil : SlE E 1 none 0 (i64s []) := SlE.nil
  have l1 := firstL
  have l2 := secondL
  have l3 := thirdL
  have c1 := firstC
  have c2 := secondC
  have c3 := thirdC
  have f1 : okL firstG (reachM firstG) = [true, true, false] := by rw [okL_pos c1, first_reachM]
  have g1 : (okL firstG (reachM firstG)).length = 3 := by rw [f1]; rfl
  have f2 : okL firstG (nullM firstG) = [false, true, false] := by rw [okL_pos c1, first_nullM]
  have g2 : (okL firstG (nullM firstG)).length = 3 := by rw [f2]; rfl
  have f3 : okL firstG (lengthsM firstG) = [1, 0, -1] := by rw [okL_pos c1, first_lengthsM]
  have g3 : (okL firstG (lengthsM firstG)).length = 3 := by rw [f3]; rfl
  have f4 : okL firstG (treesM firstG) = [0, 1, 0] := by rw [okL_pos c1, first_treesM]
  have g4 : (okL firstG (treesM firstG)).length = 3 := by rw [f4]; rfl
  have f5 : okL secondG (nullM secondG) = [true, true, true] := by rw [okL_pos c2, second_nullM]
  have g5 : (okL secondG (nullM secondG)).length = 3 := by rw [f5]; rfl
  have f6 : okL secondG (lengthsM secondG) = [0, 0, 0] := by rw [okL_pos c2, second_lengthsM]
  have g6 : (okL secondG (lengthsM secondG)).length = 3 := by rw [f6]; rfl
  have pfirst_red : (redM firstG).1 = 2 := by rw [first_red]
  have qfirst_red : (redM firstG).2 = 16 := by rw [first_red]
  have psecond_red : (redM secondG).1 = 0 := by rw [second_red]
  have qsecond_red : (redM secondG).2 = 0 := by rw [second_red]
  have pempty1 : (emptyM secondG [17, 18]).1 = true := by rw [empty1]
  have qempty1 : (emptyM secondG [17, 18]).2 = 0 := by rw [empty1]
  have pempty2 : (emptyM secondG [17, 0]).1 = false := by rw [empty2]
  have qempty2 : (emptyM secondG [17, 0]).2 = 0 := by rw [empty2]
  have pempty3 : (emptyM secondG []).1 = true := by rw [empty3]
  have qempty3 : (emptyM secondG []).2 = 0 := by rw [empty3]
  have pempty4 : (emptyM secondG [9]).1 = false := by rw [empty4]
  have qempty4 : (emptyM secondG [9]).2 = 14 := by rw [empty4]
  have b1 := third_belowE
  have b2 := third_belowM
  have b3 : (belowL thirdG 2).length = 3 := by rw [b2]; rfl
  refine G_seq (G_region ?_)
  refine G_val (V_assign rfl rfl) rfl rfl (.none rfl) ?_
  refine G_end (X_then (G_seq (G_region ?_)))
  refine G_call (k := 50) (.mk rfl rfl rfl rfl) rfl rfl (.none rfl) (first_call _ _) ?_
  rintro r1 E2 L3 hE4 ⟨Z5, rfl⟩
  replace hnil := hnil.mono hE4
  refine G_call (k := 36) (.mk rfl rfl rfl rfl) rfl rfl (.none rfl) (Reached_call _ _ _ _ (by assumption) (by assumption)) ?_
  rintro r6 E7 L8 hE9 ⟨z10, ⟨z11, ⟨rfl, ⟨Z12, rfl⟩⟩⟩⟩
  replace Z5 := Z5.mono hE9
  replace hnil := hnil.mono hE9
  refine G_val (V_move rfl rfl) rfl rfl (.none rfl) ?_
  refine G_val (V_extract rfl rfl rfl) rfl rfl (.none rfl) ?_
  refine G_val (V_extract rfl rfl rfl) rfl rfl (.none rfl) ?_
  refine G_val (V_assign rfl rfl) rfl rfl (.none rfl) ?_
  refine G_val (V_assign rfl rfl) rfl rfl (.none rfl) ?_
  refine G_end (X_then (G_seq (G_region ?_)))
  refine G_call (k := 50) (.mk rfl rfl rfl rfl) rfl rfl (.none rfl) (first_call _ _) ?_
  rintro r13 E14 L15 hE16 ⟨Z17, rfl⟩
  replace Z12 := Z12.mono hE16
  replace Z5 := Z5.mono hE16
  replace hnil := hnil.mono hE16
  refine G_call (k := 38) (.mk rfl rfl rfl rfl) rfl rfl (.none rfl) (Nullable_call _ _ _ _ (by assumption) (by assumption)) ?_
  rintro r18 E19 L20 hE21 ⟨z22, ⟨z23, ⟨rfl, ⟨Z24, rfl⟩⟩⟩⟩
  replace Z17 := Z17.mono hE21
  replace Z12 := Z12.mono hE21
  replace Z5 := Z5.mono hE21
  replace hnil := hnil.mono hE21
  refine G_val (V_move rfl rfl) rfl rfl (.none rfl) ?_
  refine G_val (V_extract rfl rfl rfl) rfl rfl (.none rfl) ?_
  refine G_val (V_extract rfl rfl rfl) rfl rfl (.none rfl) ?_
  refine G_val (V_assign rfl rfl) rfl rfl (.none rfl) ?_
  refine G_val (V_assign rfl rfl) rfl rfl (.none rfl) ?_
  refine G_end (X_then (G_seq (G_region ?_)))
  refine G_call (k := 50) (.mk rfl rfl rfl rfl) rfl rfl (.none rfl) (first_call _ _) ?_
  rintro r25 E26 L27 hE28 ⟨Z29, rfl⟩
  replace Z24 := Z24.mono hE28
  replace Z17 := Z17.mono hE28
  replace Z12 := Z12.mono hE28
  replace Z5 := Z5.mono hE28
  replace hnil := hnil.mono hE28
  refine G_call (k := 40) (.mk rfl rfl rfl rfl) rfl rfl (.none rfl) (Lengths_call _ _ _ _ (by assumption) (by assumption)) ?_
  rintro r30 E31 L32 hE33 ⟨z34, ⟨z35, ⟨rfl, ⟨Z36, rfl⟩⟩⟩⟩
  replace Z29 := Z29.mono hE33
  replace Z24 := Z24.mono hE33
  replace Z17 := Z17.mono hE33
  replace Z12 := Z12.mono hE33
  replace Z5 := Z5.mono hE33
  replace hnil := hnil.mono hE33
  refine G_val (V_move rfl rfl) rfl rfl (.none rfl) ?_
  refine G_val (V_extract rfl rfl rfl) rfl rfl (.none rfl) ?_
  refine G_val (V_extract rfl rfl rfl) rfl rfl (.none rfl) ?_
  refine G_val (V_assign rfl rfl) rfl rfl (.none rfl) ?_
  refine G_val (V_assign rfl rfl) rfl rfl (.none rfl) ?_
  refine G_end (X_then (G_seq (G_region ?_)))
  refine G_call (k := 50) (.mk rfl rfl rfl rfl) rfl rfl (.none rfl) (first_call _ _) ?_
  rintro r37 E38 L39 hE40 ⟨Z41, rfl⟩
  replace Z36 := Z36.mono hE40
  replace Z29 := Z29.mono hE40
  replace Z24 := Z24.mono hE40
  replace Z17 := Z17.mono hE40
  replace Z12 := Z12.mono hE40
  replace Z5 := Z5.mono hE40
  replace hnil := hnil.mono hE40
  refine G_call (k := 42) (.mk rfl rfl rfl rfl) rfl rfl (.none rfl) (Trees_call _ _ _ _ (by assumption) (by assumption)) ?_
  rintro r42 E43 L44 hE45 ⟨z46, ⟨z47, ⟨rfl, ⟨Z48, rfl⟩⟩⟩⟩
  replace Z41 := Z41.mono hE45
  replace Z36 := Z36.mono hE45
  replace Z29 := Z29.mono hE45
  replace Z24 := Z24.mono hE45
  replace Z17 := Z17.mono hE45
  replace Z12 := Z12.mono hE45
  replace Z5 := Z5.mono hE45
  replace hnil := hnil.mono hE45
  refine G_val (V_move rfl rfl) rfl rfl (.none rfl) ?_
  refine G_val (V_extract rfl rfl rfl) rfl rfl (.none rfl) ?_
  refine G_val (V_extract rfl rfl rfl) rfl rfl (.none rfl) ?_
  refine G_val (V_assign rfl rfl) rfl rfl (.none rfl) ?_
  refine G_val (V_assign rfl rfl) rfl rfl (.none rfl) ?_
  refine G_end (X_then (G_seq (G_region ?_)))
  refine G_call (k := 50) (.mk rfl rfl rfl rfl) rfl rfl (.none rfl) (first_call _ _) ?_
  rintro r49 E50 L51 hE52 ⟨Z53, rfl⟩
  replace Z48 := Z48.mono hE52
  replace Z41 := Z41.mono hE52
  replace Z36 := Z36.mono hE52
  replace Z29 := Z29.mono hE52
  replace Z24 := Z24.mono hE52
  replace Z17 := Z17.mono hE52
  replace Z12 := Z12.mono hE52
  replace Z5 := Z5.mono hE52
  replace hnil := hnil.mono hE52
  refine G_callv (k := 44) (.mk rfl rfl rfl rfl) rfl rfl (.none rfl) (Reduced_call _ _ _ _ (by assumption) (by assumption)) ?_
  refine G_val (V_move rfl rfl) rfl rfl (.none rfl) ?_
  refine G_val (V_extract rfl rfl rfl) rfl rfl (.none rfl) ?_
  refine G_val (V_extract rfl rfl rfl) rfl rfl (.none rfl) ?_
  refine G_val (V_assign rfl rfl) rfl rfl (.none rfl) ?_
  refine G_val (V_assign rfl rfl) rfl rfl (.none rfl) ?_
  refine G_end (X_then (G_seq (G_region ?_)))
  refine G_val (V_move rfl rfl) rfl rfl (.none rfl) ?_
  refine G_val (V_eql rfl rfl rfl) rfl rfl (.none rfl) ?_
  refine G_val (V_move rfl rfl) rfl rfl (.none rfl) ?_
  refine G.bool_t 56 rfl (by kernel_rfl) ?_
  refine G_val (V_move rfl rfl) rfl rfl (.yes rfl rfl rfl rfl) ?_
  (refine G_litZ rfl rfl (by decide) (by simp [fillS, zeros, setLs, setL, Value.cells, List.range, List.range.loop]; rfl) (by rfl) rfl rfl (.yes rfl rfl rfl rfl) ?_; intro b58 E58 hE58 hs58)
  replace Z53 := Z53.mono hE58
  replace Z48 := Z48.mono hE58
  replace Z41 := Z41.mono hE58
  replace Z36 := Z36.mono hE58
  replace Z29 := Z29.mono hE58
  replace Z24 := Z24.mono hE58
  replace Z17 := Z17.mono hE58
  replace Z12 := Z12.mono hE58
  replace Z5 := Z5.mono hE58
  replace hnil := hnil.mono hE58
  refine G_callv (k := 35) (.mk rfl rfl rfl rfl) rfl rfl (.yes rfl rfl rfl rfl) (same_call _ _ _ _ _ _ _ _ _ _ (by assumption) (by exact SlE.toB (by assumption) rfl) (by omega) (by omega)) ?_
  refine G_val (V_pick_t rfl rfl rfl) rfl rfl (.none rfl) ?_
  refine G_val (V_move rfl rfl) rfl rfl (.none rfl) ?_
  refine G.bool_t 61 rfl (by kernel_rfl) ?_
  refine G_val (V_move rfl rfl) rfl rfl (.yes rfl rfl rfl rfl) ?_
  refine G_val (V_eql rfl rfl rfl) rfl rfl (.yes rfl rfl rfl rfl) ?_
  refine G_val (V_pick_t rfl rfl rfl) rfl rfl (.none rfl) ?_
  refine G_val (V_move rfl rfl) rfl rfl (.none rfl) ?_
  refine G.bool_t 65 rfl (by kernel_rfl) ?_
  refine G_val (V_move rfl rfl) rfl rfl (.yes rfl rfl rfl rfl) ?_
  (refine G_litZ rfl rfl (by decide) (by simp [fillS, zeros, setLs, setL, Value.cells, List.range, List.range.loop]; rfl) (by rfl) rfl rfl (.yes rfl rfl rfl rfl) ?_; intro b67 E67 hE67 hs67)
  replace hs58 := hs58.mono hE67
  replace Z53 := Z53.mono hE67
  replace Z48 := Z48.mono hE67
  replace Z41 := Z41.mono hE67
  replace Z36 := Z36.mono hE67
  replace Z29 := Z29.mono hE67
  replace Z24 := Z24.mono hE67
  replace Z17 := Z17.mono hE67
  replace Z12 := Z12.mono hE67
  replace Z5 := Z5.mono hE67
  replace hnil := hnil.mono hE67
  refine G_callv (k := 35) (.mk rfl rfl rfl rfl) rfl rfl (.yes rfl rfl rfl rfl) (same_call _ _ _ _ _ _ _ _ _ _ (by assumption) (by exact SlE.toB (by assumption) rfl) (by omega) (by omega)) ?_
  refine G_val (V_pick_t rfl rfl rfl) rfl rfl (.none rfl) ?_
  refine G_val (V_move rfl rfl) rfl rfl (.none rfl) ?_
  refine G.bool_t 70 rfl (by kernel_rfl) ?_
  refine G_val (V_move rfl rfl) rfl rfl (.yes rfl rfl rfl rfl) ?_
  refine G_val (V_eql rfl rfl rfl) rfl rfl (.yes rfl rfl rfl rfl) ?_
  refine G_val (V_pick_t rfl rfl rfl) rfl rfl (.none rfl) ?_
  refine G_val (V_move rfl rfl) rfl rfl (.none rfl) ?_
  refine G.bool_t 74 rfl (by kernel_rfl) ?_
  refine G_val (V_move rfl rfl) rfl rfl (.yes rfl rfl rfl rfl) ?_
  (refine G_litZ rfl rfl (by decide) (by simp [fillS, zeros, setLs, setL, Value.cells, List.range, List.range.loop]; rfl) (by rfl) rfl rfl (.yes rfl rfl rfl rfl) ?_; intro b76 E76 hE76 hs76)
  replace hs67 := hs67.mono hE76
  replace hs58 := hs58.mono hE76
  replace Z53 := Z53.mono hE76
  replace Z48 := Z48.mono hE76
  replace Z41 := Z41.mono hE76
  replace Z36 := Z36.mono hE76
  replace Z29 := Z29.mono hE76
  replace Z24 := Z24.mono hE76
  replace Z17 := Z17.mono hE76
  replace Z12 := Z12.mono hE76
  replace Z5 := Z5.mono hE76
  replace hnil := hnil.mono hE76
  refine G_callv (k := 27) (.mk rfl rfl rfl rfl) rfl rfl (.yes rfl rfl rfl rfl) (SameInts_call' _ _ _ _ _ _ _ _ _ _ (by assumption) (by exact SlE.toI (by assumption) rfl) (by omega) (by omega)) ?_
  refine G_val (V_pick_t rfl rfl rfl) rfl rfl (.none rfl) ?_
  refine G_val (V_move rfl rfl) rfl rfl (.none rfl) ?_
  refine G.bool_t 79 rfl (by kernel_rfl) ?_
  refine G_val (V_move rfl rfl) rfl rfl (.yes rfl rfl rfl rfl) ?_
  refine G_val (V_eql rfl rfl rfl) rfl rfl (.yes rfl rfl rfl rfl) ?_
  refine G_val (V_pick_t rfl rfl rfl) rfl rfl (.none rfl) ?_
  refine G_val (V_move rfl rfl) rfl rfl (.none rfl) ?_
  refine G.bool_t 83 rfl (by kernel_rfl) ?_
  refine G_val (V_move rfl rfl) rfl rfl (.yes rfl rfl rfl rfl) ?_
  (refine G_litZ rfl rfl (by decide) (by simp [fillS, zeros, setLs, setL, Value.cells, List.range, List.range.loop]; rfl) (by rfl) rfl rfl (.yes rfl rfl rfl rfl) ?_; intro b85 E85 hE85 hs85)
  replace hs76 := hs76.mono hE85
  replace hs67 := hs67.mono hE85
  replace hs58 := hs58.mono hE85
  replace Z53 := Z53.mono hE85
  replace Z48 := Z48.mono hE85
  replace Z41 := Z41.mono hE85
  replace Z36 := Z36.mono hE85
  replace Z29 := Z29.mono hE85
  replace Z24 := Z24.mono hE85
  replace Z17 := Z17.mono hE85
  replace Z12 := Z12.mono hE85
  replace Z5 := Z5.mono hE85
  replace hnil := hnil.mono hE85
  refine G_callv (k := 27) (.mk rfl rfl rfl rfl) rfl rfl (.yes rfl rfl rfl rfl) (SameInts_call' _ _ _ _ _ _ _ _ _ _ (by assumption) (by exact SlE.toI (by assumption) rfl) (by omega) (by omega)) ?_
  refine G_val (V_pick_t rfl rfl rfl) rfl rfl (.none rfl) ?_
  refine G_val (V_move rfl rfl) rfl rfl (.none rfl) ?_
  refine G.bool_t 88 rfl (by kernel_rfl) ?_
  refine G_val (V_move rfl rfl) rfl rfl (.yes rfl rfl rfl rfl) ?_
  refine G_val (V_eql rfl rfl rfl) rfl rfl (.yes rfl rfl rfl rfl) ?_
  refine G_val (V_pick_t rfl rfl rfl) rfl rfl (.none rfl) ?_
  refine G_val (V_move rfl rfl) rfl rfl (.none rfl) ?_
  refine G.bool_t 92 rfl (by kernel_rfl) ?_
  refine G_val (V_move rfl rfl) rfl rfl (.yes rfl rfl rfl rfl) ?_
  refine G_val (V_eql rfl rfl rfl) rfl rfl (.yes rfl rfl rfl rfl) ?_
  refine G_val (V_pick_t rfl rfl rfl) rfl rfl (.none rfl) ?_
  refine G_val (V_assign rfl rfl) rfl rfl (.none rfl) ?_
  refine G_end (X_then (G_seq (G_region ?_)))
  refine G_call (k := 51) (.mk rfl rfl rfl rfl) rfl rfl (.none rfl) (second_call _ _) ?_
  rintro r54 E55 L56 hE57 ⟨Z58, rfl⟩
  replace hs85 := hs85.mono hE57
  replace hs76 := hs76.mono hE57
  replace hs67 := hs67.mono hE57
  replace hs58 := hs58.mono hE57
  replace Z53 := Z53.mono hE57
  replace Z48 := Z48.mono hE57
  replace Z41 := Z41.mono hE57
  replace Z36 := Z36.mono hE57
  replace Z29 := Z29.mono hE57
  replace Z24 := Z24.mono hE57
  replace Z17 := Z17.mono hE57
  replace Z12 := Z12.mono hE57
  replace Z5 := Z5.mono hE57
  replace hnil := hnil.mono hE57
  refine G_call (k := 38) (.mk rfl rfl rfl rfl) rfl rfl (.none rfl) (Nullable_call _ _ _ _ (by assumption) (by assumption)) ?_
  rintro r59 E60 L61 hE62 ⟨z63, ⟨z64, ⟨rfl, ⟨Z65, rfl⟩⟩⟩⟩
  replace Z58 := Z58.mono hE62
  replace hs85 := hs85.mono hE62
  replace hs76 := hs76.mono hE62
  replace hs67 := hs67.mono hE62
  replace hs58 := hs58.mono hE62
  replace Z53 := Z53.mono hE62
  replace Z48 := Z48.mono hE62
  replace Z41 := Z41.mono hE62
  replace Z36 := Z36.mono hE62
  replace Z29 := Z29.mono hE62
  replace Z24 := Z24.mono hE62
  replace Z17 := Z17.mono hE62
  replace Z12 := Z12.mono hE62
  replace Z5 := Z5.mono hE62
  replace hnil := hnil.mono hE62
  refine G_val (V_move rfl rfl) rfl rfl (.none rfl) ?_
  refine G_val (V_extract rfl rfl rfl) rfl rfl (.none rfl) ?_
  refine G_val (V_extract rfl rfl rfl) rfl rfl (.none rfl) ?_
  refine G_val (V_assign rfl rfl) rfl rfl (.none rfl) ?_
  refine G_val (V_assign rfl rfl) rfl rfl (.none rfl) ?_
  refine G_end (X_then (G_seq (G_region ?_)))
  refine G_call (k := 51) (.mk rfl rfl rfl rfl) rfl rfl (.none rfl) (second_call _ _) ?_
  rintro r66 E68 L69 hE70 ⟨Z71, rfl⟩
  replace Z65 := Z65.mono hE70
  replace Z58 := Z58.mono hE70
  replace hs85 := hs85.mono hE70
  replace hs76 := hs76.mono hE70
  replace hs67 := hs67.mono hE70
  replace hs58 := hs58.mono hE70
  replace Z53 := Z53.mono hE70
  replace Z48 := Z48.mono hE70
  replace Z41 := Z41.mono hE70
  replace Z36 := Z36.mono hE70
  replace Z29 := Z29.mono hE70
  replace Z24 := Z24.mono hE70
  replace Z17 := Z17.mono hE70
  replace Z12 := Z12.mono hE70
  replace Z5 := Z5.mono hE70
  replace hnil := hnil.mono hE70
  refine G_call (k := 40) (.mk rfl rfl rfl rfl) rfl rfl (.none rfl) (Lengths_call _ _ _ _ (by assumption) (by assumption)) ?_
  rintro r72 E73 L74 hE75 ⟨z76, ⟨z77, ⟨rfl, ⟨Z78, rfl⟩⟩⟩⟩
  replace Z71 := Z71.mono hE75
  replace Z65 := Z65.mono hE75
  replace Z58 := Z58.mono hE75
  replace hs85 := hs85.mono hE75
  replace hs76 := hs76.mono hE75
  replace hs67 := hs67.mono hE75
  replace hs58 := hs58.mono hE75
  replace Z53 := Z53.mono hE75
  replace Z48 := Z48.mono hE75
  replace Z41 := Z41.mono hE75
  replace Z36 := Z36.mono hE75
  replace Z29 := Z29.mono hE75
  replace Z24 := Z24.mono hE75
  replace Z17 := Z17.mono hE75
  replace Z12 := Z12.mono hE75
  replace Z5 := Z5.mono hE75
  replace hnil := hnil.mono hE75
  refine G_val (V_move rfl rfl) rfl rfl (.none rfl) ?_
  refine G_val (V_extract rfl rfl rfl) rfl rfl (.none rfl) ?_
  refine G_val (V_extract rfl rfl rfl) rfl rfl (.none rfl) ?_
  refine G_val (V_assign rfl rfl) rfl rfl (.none rfl) ?_
  refine G_val (V_assign rfl rfl) rfl rfl (.none rfl) ?_
  refine G_end (X_then (G_seq (G_region ?_)))
  refine G_call (k := 51) (.mk rfl rfl rfl rfl) rfl rfl (.none rfl) (second_call _ _) ?_
  rintro r79 E80 L81 hE82 ⟨Z83, rfl⟩
  replace Z78 := Z78.mono hE82
  replace Z71 := Z71.mono hE82
  replace Z65 := Z65.mono hE82
  replace Z58 := Z58.mono hE82
  replace hs85 := hs85.mono hE82
  replace hs76 := hs76.mono hE82
  replace hs67 := hs67.mono hE82
  replace hs58 := hs58.mono hE82
  replace Z53 := Z53.mono hE82
  replace Z48 := Z48.mono hE82
  replace Z41 := Z41.mono hE82
  replace Z36 := Z36.mono hE82
  replace Z29 := Z29.mono hE82
  replace Z24 := Z24.mono hE82
  replace Z17 := Z17.mono hE82
  replace Z12 := Z12.mono hE82
  replace Z5 := Z5.mono hE82
  replace hnil := hnil.mono hE82
  refine G_callv (k := 44) (.mk rfl rfl rfl rfl) rfl rfl (.none rfl) (Reduced_call _ _ _ _ (by assumption) (by assumption)) ?_
  refine G_val (V_move rfl rfl) rfl rfl (.none rfl) ?_
  refine G_val (V_extract rfl rfl rfl) rfl rfl (.none rfl) ?_
  refine G_val (V_extract rfl rfl rfl) rfl rfl (.none rfl) ?_
  refine G_val (V_assign rfl rfl) rfl rfl (.none rfl) ?_
  refine G_val (V_assign rfl rfl) rfl rfl (.none rfl) ?_
  refine G_end (X_then (G_seq (G_region ?_)))
  refine G_call (k := 52) (.mk rfl rfl rfl rfl) rfl rfl (.none rfl) (third_call _ _) ?_
  rintro r84 E86 L87 hE88 ⟨Z89, rfl⟩
  replace Z83 := Z83.mono hE88
  replace Z78 := Z78.mono hE88
  replace Z71 := Z71.mono hE88
  replace Z65 := Z65.mono hE88
  replace Z58 := Z58.mono hE88
  replace hs85 := hs85.mono hE88
  replace hs76 := hs76.mono hE88
  replace hs67 := hs67.mono hE88
  replace hs58 := hs58.mono hE88
  replace Z53 := Z53.mono hE88
  replace Z48 := Z48.mono hE88
  replace Z41 := Z41.mono hE88
  replace Z36 := Z36.mono hE88
  replace Z29 := Z29.mono hE88
  replace Z24 := Z24.mono hE88
  replace Z17 := Z17.mono hE88
  replace Z12 := Z12.mono hE88
  replace Z5 := Z5.mono hE88
  replace hnil := hnil.mono hE88
  refine G_call (k := 48) (.mk rfl rfl rfl rfl) rfl rfl (.none rfl) (Below_call _ _ _ _ (by assumption) (by assumption) _) ?_
  rintro r90 E91 L92 hE93 ⟨z94, ⟨z95, ⟨rfl, ⟨Z96, rfl⟩⟩⟩⟩
  replace Z89 := Z89.mono hE93
  replace Z83 := Z83.mono hE93
  replace Z78 := Z78.mono hE93
  replace Z71 := Z71.mono hE93
  replace Z65 := Z65.mono hE93
  replace Z58 := Z58.mono hE93
  replace hs85 := hs85.mono hE93
  replace hs76 := hs76.mono hE93
  replace hs67 := hs67.mono hE93
  replace hs58 := hs58.mono hE93
  replace Z53 := Z53.mono hE93
  replace Z48 := Z48.mono hE93
  replace Z41 := Z41.mono hE93
  replace Z36 := Z36.mono hE93
  replace Z29 := Z29.mono hE93
  replace Z24 := Z24.mono hE93
  replace Z17 := Z17.mono hE93
  replace Z12 := Z12.mono hE93
  replace Z5 := Z5.mono hE93
  replace hnil := hnil.mono hE93
  refine G_val (V_move rfl rfl) rfl rfl (.none rfl) ?_
  refine G_val (V_extract rfl rfl rfl) rfl rfl (.none rfl) ?_
  refine G_val (V_extract rfl rfl rfl) rfl rfl (.none rfl) ?_
  refine G_val (V_assign rfl rfl) rfl rfl (.none rfl) ?_
  refine G_val (V_assign rfl rfl) rfl rfl (.none rfl) ?_
  refine G_end (X_then (G_seq (G_region ?_)))
  refine G_val (V_move rfl rfl) rfl rfl (.none rfl) ?_
  refine G_val (V_eql rfl rfl rfl) rfl rfl (.none rfl) ?_
  refine G_val (V_move rfl rfl) rfl rfl (.none rfl) ?_
  refine G.bool_t 118 rfl (by kernel_rfl) ?_
  refine G_val (V_move rfl rfl) rfl rfl (.yes rfl rfl rfl rfl) ?_
  (refine G_litZ rfl rfl (by decide) (by simp [fillS, zeros, setLs, setL, Value.cells, List.range, List.range.loop]; rfl) (by rfl) rfl rfl (.yes rfl rfl rfl rfl) ?_; intro b120 E120 hE120 hs120)
  replace Z96 := Z96.mono hE120
  replace Z89 := Z89.mono hE120
  replace Z83 := Z83.mono hE120
  replace Z78 := Z78.mono hE120
  replace Z71 := Z71.mono hE120
  replace Z65 := Z65.mono hE120
  replace Z58 := Z58.mono hE120
  replace hs85 := hs85.mono hE120
  replace hs76 := hs76.mono hE120
  replace hs67 := hs67.mono hE120
  replace hs58 := hs58.mono hE120
  replace Z53 := Z53.mono hE120
  replace Z48 := Z48.mono hE120
  replace Z41 := Z41.mono hE120
  replace Z36 := Z36.mono hE120
  replace Z29 := Z29.mono hE120
  replace Z24 := Z24.mono hE120
  replace Z17 := Z17.mono hE120
  replace Z12 := Z12.mono hE120
  replace Z5 := Z5.mono hE120
  replace hnil := hnil.mono hE120
  refine G_callv (k := 35) (.mk rfl rfl rfl rfl) rfl rfl (.yes rfl rfl rfl rfl) (same_call _ _ _ _ _ _ _ _ _ _ (by assumption) (by exact SlE.toB (by assumption) rfl) (by omega) (by omega)) ?_
  refine G_val (V_pick_t rfl rfl rfl) rfl rfl (.none rfl) ?_
  refine G_val (V_move rfl rfl) rfl rfl (.none rfl) ?_
  refine G.bool_t 123 rfl (by kernel_rfl) ?_
  refine G_val (V_move rfl rfl) rfl rfl (.yes rfl rfl rfl rfl) ?_
  refine G_val (V_eql rfl rfl rfl) rfl rfl (.yes rfl rfl rfl rfl) ?_
  refine G_val (V_pick_t rfl rfl rfl) rfl rfl (.none rfl) ?_
  refine G_val (V_move rfl rfl) rfl rfl (.none rfl) ?_
  refine G.bool_t 127 rfl (by kernel_rfl) ?_
  refine G_val (V_move rfl rfl) rfl rfl (.yes rfl rfl rfl rfl) ?_
  (refine G_litZ rfl rfl (by decide) (by simp [fillS, zeros, setLs, setL, Value.cells, List.range, List.range.loop]; rfl) (by rfl) rfl rfl (.yes rfl rfl rfl rfl) ?_; intro b129 E129 hE129 hs129)
  replace hs120 := hs120.mono hE129
  replace Z96 := Z96.mono hE129
  replace Z89 := Z89.mono hE129
  replace Z83 := Z83.mono hE129
  replace Z78 := Z78.mono hE129
  replace Z71 := Z71.mono hE129
  replace Z65 := Z65.mono hE129
  replace Z58 := Z58.mono hE129
  replace hs85 := hs85.mono hE129
  replace hs76 := hs76.mono hE129
  replace hs67 := hs67.mono hE129
  replace hs58 := hs58.mono hE129
  replace Z53 := Z53.mono hE129
  replace Z48 := Z48.mono hE129
  replace Z41 := Z41.mono hE129
  replace Z36 := Z36.mono hE129
  replace Z29 := Z29.mono hE129
  replace Z24 := Z24.mono hE129
  replace Z17 := Z17.mono hE129
  replace Z12 := Z12.mono hE129
  replace Z5 := Z5.mono hE129
  replace hnil := hnil.mono hE129
  refine G_callv (k := 27) (.mk rfl rfl rfl rfl) rfl rfl (.yes rfl rfl rfl rfl) (SameInts_call' _ _ _ _ _ _ _ _ _ _ (by assumption) (by exact SlE.toI (by assumption) rfl) (by omega) (by omega)) ?_
  refine G_val (V_pick_t rfl rfl rfl) rfl rfl (.none rfl) ?_
  refine G_val (V_move rfl rfl) rfl rfl (.none rfl) ?_
  refine G.bool_t 132 rfl (by kernel_rfl) ?_
  refine G_val (V_move rfl rfl) rfl rfl (.yes rfl rfl rfl rfl) ?_
  refine G_val (V_eql rfl rfl rfl) rfl rfl (.yes rfl rfl rfl rfl) ?_
  refine G_val (V_pick_t rfl rfl rfl) rfl rfl (.none rfl) ?_
  refine G_val (V_move rfl rfl) rfl rfl (.none rfl) ?_
  refine G.bool_t 136 rfl (by kernel_rfl) ?_
  refine G_val (V_move rfl rfl) rfl rfl (.yes rfl rfl rfl rfl) ?_
  refine G_val (V_eql rfl rfl rfl) rfl rfl (.yes rfl rfl rfl rfl) ?_
  refine G_val (V_pick_t rfl rfl rfl) rfl rfl (.none rfl) ?_
  refine G_val (V_move rfl rfl) rfl rfl (.none rfl) ?_
  refine G.bool_t 140 rfl (by kernel_rfl) ?_
  refine G_val (V_move rfl rfl) rfl rfl (.yes rfl rfl rfl rfl) ?_
  refine G_val (V_eql rfl rfl rfl) rfl rfl (.yes rfl rfl rfl rfl) ?_
  refine G_val (V_pick_t rfl rfl rfl) rfl rfl (.none rfl) ?_
  refine G_val (V_move rfl rfl) rfl rfl (.none rfl) ?_
  refine G.bool_t 144 rfl (by kernel_rfl) ?_
  refine G_val (V_move rfl rfl) rfl rfl (.yes rfl rfl rfl rfl) ?_
  (refine G_litZ rfl rfl (by decide) (by simp [fillS, zeros, setLs, setL, Value.cells, List.range, List.range.loop]; rfl) (by rfl) rfl rfl (.yes rfl rfl rfl rfl) ?_; intro b146 E146 hE146 hs146)
  replace hs129 := hs129.mono hE146
  replace hs120 := hs120.mono hE146
  replace Z96 := Z96.mono hE146
  replace Z89 := Z89.mono hE146
  replace Z83 := Z83.mono hE146
  replace Z78 := Z78.mono hE146
  replace Z71 := Z71.mono hE146
  replace Z65 := Z65.mono hE146
  replace Z58 := Z58.mono hE146
  replace hs85 := hs85.mono hE146
  replace hs76 := hs76.mono hE146
  replace hs67 := hs67.mono hE146
  replace hs58 := hs58.mono hE146
  replace Z53 := Z53.mono hE146
  replace Z48 := Z48.mono hE146
  replace Z41 := Z41.mono hE146
  replace Z36 := Z36.mono hE146
  replace Z29 := Z29.mono hE146
  replace Z24 := Z24.mono hE146
  replace Z17 := Z17.mono hE146
  replace Z12 := Z12.mono hE146
  replace Z5 := Z5.mono hE146
  replace hnil := hnil.mono hE146
  refine G_callv (k := 35) (.mk rfl rfl rfl rfl) rfl rfl (.yes rfl rfl rfl rfl) (same_call _ _ _ _ _ _ _ _ _ _ (by assumption) (by exact SlE.toB (by assumption) rfl) (by omega) (by omega)) ?_
  refine G_val (V_pick_t rfl rfl rfl) rfl rfl (.none rfl) ?_
  refine G_val (V_assign rfl rfl) rfl rfl (.none rfl) ?_
  refine G_end (X_then (G_seq (G_region ?_)))
  (refine G_litZ rfl rfl (by decide) (by simp [fillS, zeros, setLs, setL, Value.cells, List.range, List.range.loop]; rfl) (by rfl) rfl rfl (.none rfl) ?_; intro b150 E150 hE150 hs150)
  replace hs146 := hs146.mono hE150
  replace hs129 := hs129.mono hE150
  replace hs120 := hs120.mono hE150
  replace Z96 := Z96.mono hE150
  replace Z89 := Z89.mono hE150
  replace Z83 := Z83.mono hE150
  replace Z78 := Z78.mono hE150
  replace Z71 := Z71.mono hE150
  replace Z65 := Z65.mono hE150
  replace Z58 := Z58.mono hE150
  replace hs85 := hs85.mono hE150
  replace hs76 := hs76.mono hE150
  replace hs67 := hs67.mono hE150
  replace hs58 := hs58.mono hE150
  replace Z53 := Z53.mono hE150
  replace Z48 := Z48.mono hE150
  replace Z41 := Z41.mono hE150
  replace Z36 := Z36.mono hE150
  replace Z29 := Z29.mono hE150
  replace Z24 := Z24.mono hE150
  replace Z17 := Z17.mono hE150
  replace Z12 := Z12.mono hE150
  replace Z5 := Z5.mono hE150
  replace hnil := hnil.mono hE150
  refine G_callv (k := 53) (.mk rfl rfl rfl rfl) rfl rfl (.none rfl) (empty_call _ _ _ _ _ _ (by exact SlE.toI (by assumption) rfl) (by omega) (by (simp; done))) ?_
  refine G_val (V_move rfl rfl) rfl rfl (.none rfl) ?_
  refine G_val (V_extract rfl rfl rfl) rfl rfl (.none rfl) ?_
  refine G_val (V_extract rfl rfl rfl) rfl rfl (.none rfl) ?_
  refine G_val (V_assign rfl rfl) rfl rfl (.none rfl) ?_
  refine G_val (V_assign rfl rfl) rfl rfl (.none rfl) ?_
  refine G_end (X_then (G_seq (G_region ?_)))
  (refine G_litZ rfl rfl (by decide) (by simp [fillS, zeros, setLs, setL, Value.cells, List.range, List.range.loop]; rfl) (by rfl) rfl rfl (.none rfl) ?_; intro b155 E155 hE155 hs155)
  replace hs150 := hs150.mono hE155
  replace hs146 := hs146.mono hE155
  replace hs129 := hs129.mono hE155
  replace hs120 := hs120.mono hE155
  replace Z96 := Z96.mono hE155
  replace Z89 := Z89.mono hE155
  replace Z83 := Z83.mono hE155
  replace Z78 := Z78.mono hE155
  replace Z71 := Z71.mono hE155
  replace Z65 := Z65.mono hE155
  replace Z58 := Z58.mono hE155
  replace hs85 := hs85.mono hE155
  replace hs76 := hs76.mono hE155
  replace hs67 := hs67.mono hE155
  replace hs58 := hs58.mono hE155
  replace Z53 := Z53.mono hE155
  replace Z48 := Z48.mono hE155
  replace Z41 := Z41.mono hE155
  replace Z36 := Z36.mono hE155
  replace Z29 := Z29.mono hE155
  replace Z24 := Z24.mono hE155
  replace Z17 := Z17.mono hE155
  replace Z12 := Z12.mono hE155
  replace Z5 := Z5.mono hE155
  replace hnil := hnil.mono hE155
  refine G_callv (k := 53) (.mk rfl rfl rfl rfl) rfl rfl (.none rfl) (empty_call _ _ _ _ _ _ (by exact SlE.toI (by assumption) rfl) (by omega) (by (simp; done))) ?_
  refine G_val (V_move rfl rfl) rfl rfl (.none rfl) ?_
  refine G_val (V_extract rfl rfl rfl) rfl rfl (.none rfl) ?_
  refine G_val (V_extract rfl rfl rfl) rfl rfl (.none rfl) ?_
  refine G_val (V_assign rfl rfl) rfl rfl (.none rfl) ?_
  refine G_val (V_assign rfl rfl) rfl rfl (.none rfl) ?_
  refine G_end (X_then (G_seq (G_region ?_)))
  refine G_callv (k := 53) (.mk rfl rfl rfl rfl) rfl rfl (.none rfl) (empty_call _ _ _ _ _ _ (by assumption) (by omega) (by (simp; done))) ?_
  refine G_val (V_move rfl rfl) rfl rfl (.none rfl) ?_
  refine G_val (V_extract rfl rfl rfl) rfl rfl (.none rfl) ?_
  refine G_val (V_extract rfl rfl rfl) rfl rfl (.none rfl) ?_
  refine G_val (V_assign rfl rfl) rfl rfl (.none rfl) ?_
  refine G_val (V_assign rfl rfl) rfl rfl (.none rfl) ?_
  refine G_end (X_then (G_seq (G_region ?_)))
  (refine G_litZ rfl rfl (by decide) (by simp [fillS, zeros, setLs, setL, Value.cells, List.range, List.range.loop]; rfl) (by rfl) rfl rfl (.none rfl) ?_; intro b164 E164 hE164 hs164)
  replace hs155 := hs155.mono hE164
  replace hs150 := hs150.mono hE164
  replace hs146 := hs146.mono hE164
  replace hs129 := hs129.mono hE164
  replace hs120 := hs120.mono hE164
  replace Z96 := Z96.mono hE164
  replace Z89 := Z89.mono hE164
  replace Z83 := Z83.mono hE164
  replace Z78 := Z78.mono hE164
  replace Z71 := Z71.mono hE164
  replace Z65 := Z65.mono hE164
  replace Z58 := Z58.mono hE164
  replace hs85 := hs85.mono hE164
  replace hs76 := hs76.mono hE164
  replace hs67 := hs67.mono hE164
  replace hs58 := hs58.mono hE164
  replace Z53 := Z53.mono hE164
  replace Z48 := Z48.mono hE164
  replace Z41 := Z41.mono hE164
  replace Z36 := Z36.mono hE164
  replace Z29 := Z29.mono hE164
  replace Z24 := Z24.mono hE164
  replace Z17 := Z17.mono hE164
  replace Z12 := Z12.mono hE164
  replace Z5 := Z5.mono hE164
  replace hnil := hnil.mono hE164
  refine G_callv (k := 53) (.mk rfl rfl rfl rfl) rfl rfl (.none rfl) (empty_call _ _ _ _ _ _ (by exact SlE.toI (by assumption) rfl) (by omega) (by (simp; done))) ?_
  refine G_val (V_move rfl rfl) rfl rfl (.none rfl) ?_
  refine G_val (V_extract rfl rfl rfl) rfl rfl (.none rfl) ?_
  refine G_val (V_extract rfl rfl rfl) rfl rfl (.none rfl) ?_
  refine G_val (V_assign rfl rfl) rfl rfl (.none rfl) ?_
  refine G_val (V_assign rfl rfl) rfl rfl (.none rfl) ?_
  refine G_end (X_then (G_seq (G_region ?_)))
  refine G_callv (k := 31) (.mk rfl rfl rfl rfl) rfl rfl (.none rfl) (awake_call _ _) ?_
  refine G_val (V_move rfl rfl) rfl rfl (.none rfl) ?_
  refine G_val (V_move rfl rfl) rfl rfl (.yes rfl rfl rfl rfl) ?_
  refine G_val (V_pick_t rfl rfl rfl) rfl rfl (.none rfl) ?_
  refine G_val (V_move rfl rfl) rfl rfl (.none rfl) ?_
  refine G.bool_t 172 rfl (by kernel_rfl) ?_
  refine G_val (V_move rfl rfl) rfl rfl (.yes rfl rfl rfl rfl) ?_
  refine G_val (V_pick_t rfl rfl rfl) rfl rfl (.none rfl) ?_
  refine G_val (V_move rfl rfl) rfl rfl (.none rfl) ?_
  refine G.bool_t 175 rfl (by kernel_rfl) ?_
  refine G_val (V_move rfl rfl) rfl rfl (.yes rfl rfl rfl rfl) ?_
  refine G_val (V_eql rfl rfl rfl) rfl rfl (.yes rfl rfl rfl rfl) ?_
  refine G_val (V_pick_t rfl rfl rfl) rfl rfl (.none rfl) ?_
  refine G_val (V_move rfl rfl) rfl rfl (.none rfl) ?_
  refine G.bool_t 179 rfl (by kernel_rfl) ?_
  refine G_val (V_move rfl rfl) rfl rfl (.yes rfl rfl rfl rfl) ?_
  refine G_val (V_pick_t rfl rfl rfl) rfl rfl (.none rfl) ?_
  refine G_val (V_move rfl rfl) rfl rfl (.none rfl) ?_
  refine G.bool_t 182 rfl (by kernel_rfl) ?_
  refine G_val (V_move rfl rfl) rfl rfl (.yes rfl rfl rfl rfl) ?_
  refine G_val (V_eql rfl rfl rfl) rfl rfl (.yes rfl rfl rfl rfl) ?_
  refine G_val (V_pick_t rfl rfl rfl) rfl rfl (.none rfl) ?_
  refine G_val (V_move rfl rfl) rfl rfl (.none rfl) ?_
  refine G.bool_t 186 rfl (by kernel_rfl) ?_
  refine G_val (V_move rfl rfl) rfl rfl (.yes rfl rfl rfl rfl) ?_
  refine G_val (V_not rfl rfl) rfl rfl (.yes rfl rfl rfl rfl) ?_
  refine G_val (V_pick_t rfl rfl rfl) rfl rfl (.none rfl) ?_
  refine G_val (V_move rfl rfl) rfl rfl (.none rfl) ?_
  refine G.bool_t 190 rfl (by kernel_rfl) ?_
  refine G_val (V_move rfl rfl) rfl rfl (.yes rfl rfl rfl rfl) ?_
  refine G_val (V_eql rfl rfl rfl) rfl rfl (.yes rfl rfl rfl rfl) ?_
  refine G_val (V_pick_t rfl rfl rfl) rfl rfl (.none rfl) ?_
  refine G_val (V_move rfl rfl) rfl rfl (.none rfl) ?_
  refine G.bool_t 194 rfl (by kernel_rfl) ?_
  refine G_val (V_move rfl rfl) rfl rfl (.yes rfl rfl rfl rfl) ?_
  refine G_val (V_pick_t rfl rfl rfl) rfl rfl (.none rfl) ?_
  refine G_val (V_move rfl rfl) rfl rfl (.none rfl) ?_
  refine G.bool_t 197 rfl (by kernel_rfl) ?_
  refine G_val (V_move rfl rfl) rfl rfl (.yes rfl rfl rfl rfl) ?_
  refine G_val (V_eql rfl rfl rfl) rfl rfl (.yes rfl rfl rfl rfl) ?_
  refine G_val (V_pick_t rfl rfl rfl) rfl rfl (.none rfl) ?_
  refine G_val (V_assign rfl rfl) rfl rfl (.none rfl) ?_
  refine G_end (X_then (G_ret ?_))
  refine G_leaveS (.nil _) (by exact (.cons (.tmp rfl) (.nil))) rfl ?_ ?_
  · exact (((((((((((((((((((((((((hE4.trans hE9).trans hE16).trans hE21).trans hE28).trans hE33).trans hE40).trans hE45).trans hE52).trans hE58).trans hE67).trans hE76).trans hE85).trans hE57).trans hE62).trans hE70).trans hE75).trans hE82).trans hE88).trans hE93).trans hE120).trans hE129).trans hE146).trans hE150).trans hE155).trans hE164)
  exact ⟨(by kernel_rfl), rfl⟩
end
end Go.Proofs.Ytaoinojdijbhaaa
