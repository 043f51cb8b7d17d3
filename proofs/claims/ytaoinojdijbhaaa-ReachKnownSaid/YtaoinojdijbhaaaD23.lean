import Derived.Test.YtaoinojdijbhaaaSep19
import Derived.Test.YtaoinojdijbhaaaSep20
import Derived.Test.YtaoinojdijbhaaaSep21
import Derived.Test.YtaoinojdijbhaaaSep22
import Derived.Test.YtaoinojdijbhaaaSep23
import Derived.Test.YtaoinojdijbhaaaSep24
import Derived.Test.YtaoinojdijbhaaaInst
import Derived.Test.YtaoinojdijbhaaaD22
set_option linter.unusedSimpArgs false
set_option linter.unusedVariables false
set_option maxHeartbeats 2000000
set_option maxRecDepth 20000
namespace Go.Proofs.Ytaoinojdijbhaaa
open Go.RowKit
theorem firstL : Light firstG := lightB_iff.1 (by decide)
theorem secondL : Light secondG := lightB_iff.1 (by decide)
theorem thirdL : Light thirdG := lightB_iff.1 (by decide)
theorem firstC : gcheck firstG = 0 := by kernel_rfl
theorem secondC : gcheck secondG = 0 := by kernel_rfl
theorem thirdC : gcheck thirdG = 0 := by kernel_rfl
theorem first_yields : yieldsM firstG = [true, true, false] := by kernel_rfl
theorem second_trees : treesM secondG = [7, 3, 1] := by kernel_rfl
theorem third_red : redM thirdG = (1, 15) := by kernel_rfl
section
variable (E : Env) (L : List Res)
theorem awake_call : CallV Try.prog 31 #[] E L (.bool true) := by
  refine CallS.toV (CallS.intro (l := []) _ Try.func31 rfl Try.ntmps31 rfl ?_)
  have l1 := firstL
  have l2 := secondL
  have l3 := thirdL
  have c1 := firstC
  have c2 := secondC
  have c3 := thirdC
  have e1 : okL firstG (yieldsM firstG) = [true, true, false] := by rw [okL_pos c1, first_yields]
  have e2 : okL secondG (treesM secondG) = [7, 3, 1] := by rw [okL_pos c2, second_trees]
  have e3 := third_red
  have e31 : (redM thirdG).1 = 1 := by rw [e3]
  have e32 : (redM thirdG).2 = 15 := by rw [e3]
  have n1 : (okL firstG (yieldsM firstG)).length = 3 := by rw [e1]; rfl
  have n2 : (okL secondG (treesM secondG)).length = 3 := by rw [e2]; rfl
  refine G_seq (G_region ?_)
  refine G_val (V_assign rfl rfl) rfl rfl (.none rfl) ?_
  refine G_end (X_then (G_seq (G_region ?_)))
  refine G_call (k := 50) (.mk rfl rfl rfl rfl) rfl rfl (.none rfl) (first_call _ _) ?_
  rintro r1 E2 L3 hE4 ⟨Z5, rfl⟩
  refine G_call (k := 33) (.mk rfl rfl rfl rfl) rfl rfl (.none rfl) (Yields_call _ _ _ _ (by assumption) (by assumption)) ?_
  rintro r6 E7 L8 hE9 ⟨z10, ⟨z11, ⟨rfl, ⟨Z12, rfl⟩⟩⟩⟩
  replace Z5 := Z5.mono hE9
  refine G_val (V_move rfl rfl) rfl rfl (.none rfl) ?_
  refine G_val (V_extract rfl rfl rfl) rfl rfl (.none rfl) ?_
  refine G_val (V_extract rfl rfl rfl) rfl rfl (.none rfl) ?_
  refine G_val (V_assign rfl rfl) rfl rfl (.none rfl) ?_
  refine G_val (V_assign rfl rfl) rfl rfl (.none rfl) ?_
  refine G_end (X_then (G_seq (G_region ?_)))
  refine G_call (k := 51) (.mk rfl rfl rfl rfl) rfl rfl (.none rfl) (second_call _ _) ?_
  rintro r13 E14 L15 hE16 ⟨Z17, rfl⟩
  replace Z12 := Z12.mono hE16
  replace Z5 := Z5.mono hE16
  refine G_call (k := 42) (.mk rfl rfl rfl rfl) rfl rfl (.none rfl) (Trees_call _ _ _ _ (by assumption) (by assumption)) ?_
  rintro r18 E19 L20 hE21 ⟨z22, ⟨z23, ⟨rfl, ⟨Z24, rfl⟩⟩⟩⟩
  replace Z17 := Z17.mono hE21
  replace Z12 := Z12.mono hE21
  replace Z5 := Z5.mono hE21
  refine G_val (V_move rfl rfl) rfl rfl (.none rfl) ?_
  refine G_val (V_extract rfl rfl rfl) rfl rfl (.none rfl) ?_
  refine G_val (V_extract rfl rfl rfl) rfl rfl (.none rfl) ?_
  refine G_val (V_assign rfl rfl) rfl rfl (.none rfl) ?_
  refine G_val (V_assign rfl rfl) rfl rfl (.none rfl) ?_
  refine G_end (X_then (G_seq (G_region ?_)))
  refine G_call (k := 52) (.mk rfl rfl rfl rfl) rfl rfl (.none rfl) (third_call _ _) ?_
  rintro r25 E26 L27 hE28 ⟨Z29, rfl⟩
  replace Z24 := Z24.mono hE28
  replace Z17 := Z17.mono hE28
  replace Z12 := Z12.mono hE28
  replace Z5 := Z5.mono hE28
  refine G_callv (k := 44) (.mk rfl rfl rfl rfl) rfl rfl (.none rfl) (Reduced_call _ _ _ _ (by assumption) (by assumption)) ?_
  refine G_val (V_move rfl rfl) rfl rfl (.none rfl) ?_
  refine G_val (V_extract rfl rfl rfl) rfl rfl (.none rfl) ?_
  refine G_val (V_extract rfl rfl rfl) rfl rfl (.none rfl) ?_
  refine G_val (V_assign rfl rfl) rfl rfl (.none rfl) ?_
  refine G_val (V_assign rfl rfl) rfl rfl (.none rfl) ?_
  refine G_end (X_then (G_seq (G_region ?_)))
  refine G_val (V_move rfl rfl) rfl rfl (.none rfl) ?_
  refine G_val (V_eql rfl rfl rfl) rfl rfl (.none rfl) ?_
  refine G_val (V_move rfl rfl) rfl rfl (.none rfl) ?_
  refine G.bool_t 24 rfl (by kernel_rfl) ?_
  refine G_val (V_move rfl rfl) rfl rfl (.yes rfl rfl rfl rfl) ?_
  (refine G_litZ rfl rfl (by decide) (by simp [fillS, zeros, setLs, setL, Value.cells, List.range, List.range.loop]; rfl) (by rfl) rfl rfl (.yes rfl rfl rfl rfl) ?_; intro b26 E26 hE26 hs26)
  replace Z29 := Z29.mono hE26
  replace Z24 := Z24.mono hE26
  replace Z17 := Z17.mono hE26
  replace Z12 := Z12.mono hE26
  replace Z5 := Z5.mono hE26
  refine G_callv (k := 35) (.mk rfl rfl rfl rfl) rfl rfl (.yes rfl rfl rfl rfl) (same_call _ _ _ _ _ _ _ _ _ _ (by assumption) (by exact SlE.toB (by assumption) rfl) (by omega) (by omega)) ?_
  refine G_val (V_pick_t rfl rfl rfl) rfl rfl (.none rfl) ?_
  refine G_val (V_move rfl rfl) rfl rfl (.none rfl) ?_
  refine G.bool_t 29 rfl (by kernel_rfl) ?_
  refine G_val (V_move rfl rfl) rfl rfl (.yes rfl rfl rfl rfl) ?_
  refine G_val (V_eql rfl rfl rfl) rfl rfl (.yes rfl rfl rfl rfl) ?_
  refine G_val (V_pick_t rfl rfl rfl) rfl rfl (.none rfl) ?_
  refine G_val (V_move rfl rfl) rfl rfl (.none rfl) ?_
  refine G.bool_t 33 rfl (by kernel_rfl) ?_
  refine G_val (V_move rfl rfl) rfl rfl (.yes rfl rfl rfl rfl) ?_
  (refine G_litZ rfl rfl (by decide) (by simp [fillS, zeros, setLs, setL, Value.cells, List.range, List.range.loop]; rfl) (by rfl) rfl rfl (.yes rfl rfl rfl rfl) ?_; intro b35 E35 hE35 hs35)
  replace hs26 := hs26.mono hE35
  replace Z29 := Z29.mono hE35
  replace Z24 := Z24.mono hE35
  replace Z17 := Z17.mono hE35
  replace Z12 := Z12.mono hE35
  replace Z5 := Z5.mono hE35
  refine G_callv (k := 27) (.mk rfl rfl rfl rfl) rfl rfl (.yes rfl rfl rfl rfl) (SameInts_call' _ _ _ _ _ _ _ _ _ _ (by assumption) (by exact SlE.toI (by assumption) rfl) (by omega) (by omega)) ?_
  refine G_val (V_pick_t rfl rfl rfl) rfl rfl (.none rfl) ?_
  refine G_val (V_move rfl rfl) rfl rfl (.none rfl) ?_
  refine G.bool_t 38 rfl (by kernel_rfl) ?_
  refine G_val (V_move rfl rfl) rfl rfl (.yes rfl rfl rfl rfl) ?_
  refine G_val (V_eql rfl rfl rfl) rfl rfl (.yes rfl rfl rfl rfl) ?_
  refine G_val (V_pick_t rfl rfl rfl) rfl rfl (.none rfl) ?_
  refine G_val (V_move rfl rfl) rfl rfl (.none rfl) ?_
  refine G.bool_t 42 rfl (by kernel_rfl) ?_
  refine G_val (V_move rfl rfl) rfl rfl (.yes rfl rfl rfl rfl) ?_
  refine G_val (V_eql rfl rfl rfl) rfl rfl (.yes rfl rfl rfl rfl) ?_
  refine G_val (V_pick_t rfl rfl rfl) rfl rfl (.none rfl) ?_
  refine G_val (V_assign rfl rfl) rfl rfl (.none rfl) ?_
  refine G_end (X_then (G_ret ?_))
  refine G_leaveS (.nil _) (by exact (.cons (.tmp rfl) (.nil))) rfl ?_ ?_
  · exact ((((((hE4.trans hE9).trans hE16).trans hE21).trans hE28).trans hE26).trans hE35)
  exact ⟨(by kernel_rfl), rfl⟩
end
end Go.Proofs.Ytaoinojdijbhaaa
