import Derived.Test.YtlkfbokdbfnicaaSep17
import Derived.Test.YtlkfbokdbfnicaaInst
import Derived.Test.YtlkfbokdbfnicaaC20
import Derived.Test.YtlkfbokdbfnicaaC16
set_option linter.unusedSimpArgs false
set_option linter.unusedVariables false
set_option maxHeartbeats 2000000
set_option maxRecDepth 20000
namespace Go.Proofs.Ytlkfbokdbfnicaa
open Go.RowKit

theorem Known5_call (E : Env) (L : List Res) : CallS Try.prog 8 #[] E L (fun r E' L' => r = .bool true ∧ L' = L) := by
  refine CallS.intro (l := []) _ Try.func8 rfl Try.ntmps8 rfl ?_
  refine G_seq ?_
  refine G_region ?_
  refine G_val (V_assign rfl rfl) rfl rfl (.none rfl) ?_
  refine G_end ?_
  refine X_then ?_
  refine G_seq ?_
  refine G_region ?_
  refine G_callv (k := 13) (.mk rfl rfl rfl rfl) rfl rfl (.none rfl) (Read_codec_call _ _ _ (by first | assumption | exact SlE.toI (by assumption) rfl | exact SlE.toS (by assumption) rfl | omega | (simp; omega) | (simp; done))) ?_
  dsimp only [Go.Proofs.Ytlkfbokdbfnicaa.Rdr.v]
  refine G_callv (k := 51) (.mk rfl rfl rfl rfl) rfl rfl (.none rfl) (Number_call' _ _ _ (by first | assumption | exact SlE.toI (by assumption) rfl | exact SlE.toS (by assumption) rfl | omega | (simp; omega) | (simp; done)) _ _ _ _ _ (by first | assumption | exact SlE.toI (by assumption) rfl | exact SlE.toS (by assumption) rfl | omega | (simp; omega) | (simp; done))) ?_
  refine G_val (V_move rfl rfl) rfl rfl (.none rfl) ?_
  refine G_val (V_extract rfl rfl rfl) rfl rfl (.none rfl) ?_
  refine G_val (V_extract rfl rfl rfl) rfl rfl (.none rfl) ?_
  (refine G_alloc rfl rfl rfl (.none rfl) ?_; intro b1)
  refine G_storeA rfl rfl rfl rfl (by simp [Value.oneCell']) rfl (.none rfl) (.head _ _ _) rfl ?_
  refine G_val (V_assign rfl rfl) rfl rfl (.none rfl) ?_
  refine G_end ?_
  refine X_then ?_
  refine G_seq ?_
  refine G_region ?_
  refine G_val (V_loadA rfl rfl (Cells.own (.head _)) rfl) rfl rfl (.none rfl) ?_
  refine G_callv (k := 51) (.mk rfl rfl rfl rfl) rfl rfl (.none rfl) (Number_call' _ _ _ (by first | assumption | exact SlE.toI (by assumption) rfl | exact SlE.toS (by assumption) rfl | omega | (simp; omega) | (simp; done)) _ _ _ _ _ (by first | assumption | exact SlE.toI (by assumption) rfl | exact SlE.toS (by assumption) rfl | omega | (simp; omega) | (simp; done))) ?_
  refine G_val (V_move rfl rfl) rfl rfl (.none rfl) ?_
  refine G_val (V_extract rfl rfl rfl) rfl rfl (.none rfl) ?_
  refine G_val (V_extract rfl rfl rfl) rfl rfl (.none rfl) ?_
  refine G_storeA rfl rfl rfl rfl (by simp [Value.oneCell']) rfl (.none rfl) (.head _ _ _) rfl ?_
  refine G_end ?_
  refine X_then ?_
  refine G_seq ?_
  refine G_region ?_
  refine G_callv (k := 13) (.mk rfl rfl rfl rfl) rfl rfl (.none rfl) (Read_codec_call _ _ _ (by first | assumption | exact SlE.toI (by assumption) rfl | exact SlE.toS (by assumption) rfl | omega | (simp; omega) | (simp; done))) ?_
  dsimp only [Go.Proofs.Ytlkfbokdbfnicaa.Rdr.v]
  refine G_callv (k := 51) (.mk rfl rfl rfl rfl) rfl rfl (.none rfl) (Number_call' _ _ _ (by first | assumption | exact SlE.toI (by assumption) rfl | exact SlE.toS (by assumption) rfl | omega | (simp; omega) | (simp; done)) _ _ _ _ _ (by first | assumption | exact SlE.toI (by assumption) rfl | exact SlE.toS (by assumption) rfl | omega | (simp; omega) | (simp; done))) ?_
  refine G_val (V_move rfl rfl) rfl rfl (.none rfl) ?_
  refine G_val (V_extract rfl rfl rfl) rfl rfl (.none rfl) ?_
  refine G_val (V_extract rfl rfl rfl) rfl rfl (.none rfl) ?_
  (refine G_alloc rfl rfl rfl (.none rfl) ?_; intro b3)
  refine G_storeA rfl rfl rfl rfl (by simp [Value.oneCell']) rfl (.none rfl) (.head _ _ _) rfl ?_
  refine G_val (V_assign rfl rfl) rfl rfl (.none rfl) ?_
  refine G_end ?_
  refine X_then ?_
  refine G_seq ?_
  refine G_region ?_
  refine G_callv (k := 13) (.mk rfl rfl rfl rfl) rfl rfl (.none rfl) (Read_codec_call _ _ _ (by first | assumption | exact SlE.toI (by assumption) rfl | exact SlE.toS (by assumption) rfl | omega | (simp; omega) | (simp; done))) ?_
  dsimp only [Go.Proofs.Ytlkfbokdbfnicaa.Rdr.v]
  refine G_callv (k := 51) (.mk rfl rfl rfl rfl) rfl rfl (.none rfl) (Number_call' _ _ _ (by first | assumption | exact SlE.toI (by assumption) rfl | exact SlE.toS (by assumption) rfl | omega | (simp; omega) | (simp; done)) _ _ _ _ _ (by first | assumption | exact SlE.toI (by assumption) rfl | exact SlE.toS (by assumption) rfl | omega | (simp; omega) | (simp; done))) ?_
  refine G_val (V_move rfl rfl) rfl rfl (.none rfl) ?_
  refine G_val (V_extract rfl rfl rfl) rfl rfl (.none rfl) ?_
  refine G_val (V_extract rfl rfl rfl) rfl rfl (.none rfl) ?_
  (refine G_alloc rfl rfl rfl (.none rfl) ?_; intro b5)
  refine G_storeA rfl rfl rfl rfl (by simp [Value.oneCell']) rfl (.none rfl) (.head _ _ _) rfl ?_
  refine G_val (V_assign rfl rfl) rfl rfl (.none rfl) ?_
  refine G_end ?_
  refine X_then ?_
  refine G_seq ?_
  refine G_region ?_
  refine G_callv (k := 13) (.mk rfl rfl rfl rfl) rfl rfl (.none rfl) (Read_codec_call _ _ _ (by first | assumption | exact SlE.toI (by assumption) rfl | exact SlE.toS (by assumption) rfl | omega | (simp; omega) | (simp; done))) ?_
  dsimp only [Go.Proofs.Ytlkfbokdbfnicaa.Rdr.v]
  refine G_callv (k := 51) (.mk rfl rfl rfl rfl) rfl rfl (.none rfl) (Number_call' _ _ _ (by first | assumption | exact SlE.toI (by assumption) rfl | exact SlE.toS (by assumption) rfl | omega | (simp; omega) | (simp; done)) _ _ _ _ _ (by first | assumption | exact SlE.toI (by assumption) rfl | exact SlE.toS (by assumption) rfl | omega | (simp; omega) | (simp; done))) ?_
  refine G_val (V_move rfl rfl) rfl rfl (.none rfl) ?_
  refine G_val (V_extract rfl rfl rfl) rfl rfl (.none rfl) ?_
  refine G_val (V_extract rfl rfl rfl) rfl rfl (.none rfl) ?_
  (refine G_alloc rfl rfl rfl (.none rfl) ?_; intro b7)
  refine G_storeA rfl rfl rfl rfl (by simp [Value.oneCell']) rfl (.none rfl) (.head _ _ _) rfl ?_
  refine G_val (V_assign rfl rfl) rfl rfl (.none rfl) ?_
  refine G_end ?_
  refine X_then ?_
  refine G_seq ?_
  refine G_region ?_
  refine G_callv (k := 13) (.mk rfl rfl rfl rfl) rfl rfl (.none rfl) (Read_codec_call _ _ _ (by first | assumption | exact SlE.toI (by assumption) rfl | exact SlE.toS (by assumption) rfl | omega | (simp; omega) | (simp; done))) ?_
  dsimp only [Go.Proofs.Ytlkfbokdbfnicaa.Rdr.v]
  refine G_callv (k := 52) (.mk rfl rfl rfl rfl) rfl rfl (.none rfl) (String_call' _ _ _ (by first | assumption | exact SlE.toI (by assumption) rfl | exact SlE.toS (by assumption) rfl | omega | (simp; omega) | (simp; done)) _ _ _ _ (by first | assumption | exact SlE.toI (by assumption) rfl | exact SlE.toS (by assumption) rfl | omega | (simp; omega) | (simp; done))) ?_
  refine G_val (V_move rfl rfl) rfl rfl (.none rfl) ?_
  refine G_val (V_extract rfl rfl rfl) rfl rfl (.none rfl) ?_
  refine G_val (V_extract rfl rfl rfl) rfl rfl (.none rfl) ?_
  (refine G_alloc rfl rfl rfl (.none rfl) ?_; intro b9)
  refine G_storeA rfl rfl rfl rfl (by simp [Value.oneCell']) rfl (.none rfl) (.head _ _ _) rfl ?_
  refine G_val (V_assign rfl rfl) rfl rfl (.none rfl) ?_
  refine G_end ?_
  refine X_then ?_
  refine G_seq ?_
  refine G_region ?_
  refine G_callv (k := 13) (.mk rfl rfl rfl rfl) rfl rfl (.none rfl) (Read_codec_call _ _ _ (by first | assumption | exact SlE.toI (by assumption) rfl | exact SlE.toS (by assumption) rfl | omega | (simp; omega) | (simp; done))) ?_
  dsimp only [Go.Proofs.Ytlkfbokdbfnicaa.Rdr.v]
  (refine G_alloc rfl rfl rfl (.none rfl) ?_; intro b11)
  refine G_storeA rfl rfl rfl rfl (by simp [Value.oneCell']) rfl (.none rfl) (.head _ _ _) rfl ?_
  refine G_end ?_
  refine X_then ?_
  refine G_seq ?_
  refine G_region ?_
  refine G_val (V_loadA rfl rfl (Cells.own (.head _)) rfl) rfl rfl (.none rfl) ?_
  refine G_call (k := 53) (.mk rfl rfl rfl rfl) rfl rfl (.none rfl) (Ints_call' _ _ _ (by first | assumption | exact SlE.toI (by assumption) rfl | exact SlE.toS (by assumption) rfl | omega | (simp; omega) | (simp; done)) _ _ _ _ _ _ (by first | assumption | exact SlE.toI (by assumption) rfl | exact SlE.toS (by assumption) rfl | omega | (simp; omega) | (simp; done))) ?_
  rintro r1 E2 L3 hE4 ⟨z5, ⟨z6, ⟨rfl, ⟨Z7, rfl⟩⟩⟩⟩
  refine G_val (V_move rfl rfl) rfl rfl (.none rfl) ?_
  refine G_val (V_extract rfl rfl rfl) rfl rfl (.none rfl) ?_
  refine G_val (V_extract rfl rfl rfl) rfl rfl (.none rfl) ?_
  (refine G_alloc rfl rfl rfl (.none rfl) ?_; intro b12)
  refine G_storeA rfl rfl rfl rfl (by simp [Value.oneCell']) rfl (.none rfl) (.head _ _ _) rfl ?_
  refine G_val (V_assign rfl rfl) rfl rfl (.none rfl) ?_
  refine G_end ?_
  refine X_then ?_
  refine G_seq ?_
  refine G_region ?_
  refine G_val (V_loadA rfl rfl (Cells.own (.tail _ (.head _))) rfl) rfl rfl (.none rfl) ?_
  refine G_call (k := 53) (.mk rfl rfl rfl rfl) rfl rfl (.none rfl) (Ints_call' _ _ _ (by first | assumption | exact SlE.toI (by assumption) rfl | exact SlE.toS (by assumption) rfl | omega | (simp; omega) | (simp; done)) _ _ _ _ _ _ (by first | assumption | exact SlE.toI (by assumption) rfl | exact SlE.toS (by assumption) rfl | omega | (simp; omega) | (simp; done))) ?_
  rintro r8 E9 L10 hE11 ⟨z12, ⟨z13, ⟨rfl, ⟨Z14, rfl⟩⟩⟩⟩
  replace Z7 := Z7.mono hE11
  refine G_val (V_move rfl rfl) rfl rfl (.none rfl) ?_
  refine G_val (V_extract rfl rfl rfl) rfl rfl (.none rfl) ?_
  refine G_val (V_extract rfl rfl rfl) rfl rfl (.none rfl) ?_
  (refine G_alloc rfl rfl rfl (.none rfl) ?_; intro b14)
  refine G_storeA rfl rfl rfl rfl (by simp [Value.oneCell']) rfl (.none rfl) (.head _ _ _) rfl ?_
  refine G_val (V_assign rfl rfl) rfl rfl (.none rfl) ?_
  refine G_end ?_
  refine X_then ?_
  refine G_seq ?_
  refine G_region ?_
  refine G_val (V_loadA rfl rfl (Cells.own (.tail _ (.tail _ (.head _)))) rfl) rfl rfl (.none rfl) ?_
  refine G_call (k := 53) (.mk rfl rfl rfl rfl) rfl rfl (.none rfl) (Ints_call' _ _ _ (by first | assumption | exact SlE.toI (by assumption) rfl | exact SlE.toS (by assumption) rfl | omega | (simp; omega) | (simp; done)) _ _ _ _ _ _ (by first | assumption | exact SlE.toI (by assumption) rfl | exact SlE.toS (by assumption) rfl | omega | (simp; omega) | (simp; done))) ?_
  rintro r15 E16 L17 hE18 ⟨z19, ⟨z20, ⟨rfl, ⟨Z21, rfl⟩⟩⟩⟩
  replace Z14 := Z14.mono hE18
  replace Z7 := Z7.mono hE18
  refine G_val (V_move rfl rfl) rfl rfl (.none rfl) ?_
  refine G_val (V_extract rfl rfl rfl) rfl rfl (.none rfl) ?_
  refine G_val (V_extract rfl rfl rfl) rfl rfl (.none rfl) ?_
  (refine G_alloc rfl rfl rfl (.none rfl) ?_; intro b16)
  refine G_storeA rfl rfl rfl rfl (by simp [Value.oneCell']) rfl (.none rfl) (.head _ _ _) rfl ?_
  refine G_val (V_assign rfl rfl) rfl rfl (.none rfl) ?_
  refine G_end ?_
  refine X_then ?_
  refine G_seq ?_
  refine G_region ?_
  refine G_callv (k := 13) (.mk rfl rfl rfl rfl) rfl rfl (.none rfl) (Read_codec_call _ _ _ (by first | assumption | exact SlE.toI (by assumption) rfl | exact SlE.toS (by assumption) rfl | omega | (simp; omega) | (simp; done))) ?_
  dsimp only [Go.Proofs.Ytlkfbokdbfnicaa.Rdr.v]
  refine G_call (k := 53) (.mk rfl rfl rfl rfl) rfl rfl (.none rfl) (Ints_call' _ _ _ (by first | assumption | exact SlE.toI (by assumption) rfl | exact SlE.toS (by assumption) rfl | omega | (simp; omega) | (simp; done)) _ _ _ _ _ _ (by first | assumption | exact SlE.toI (by assumption) rfl | exact SlE.toS (by assumption) rfl | omega | (simp; omega) | (simp; done))) ?_
  rintro r22 E23 L24 hE25 ⟨z26, ⟨z27, ⟨rfl, ⟨Z28, rfl⟩⟩⟩⟩
  replace Z21 := Z21.mono hE25
  replace Z14 := Z14.mono hE25
  replace Z7 := Z7.mono hE25
  refine G_val (V_move rfl rfl) rfl rfl (.none rfl) ?_
  refine G_val (V_extract rfl rfl rfl) rfl rfl (.none rfl) ?_
  refine G_val (V_extract rfl rfl rfl) rfl rfl (.none rfl) ?_
  (refine G_alloc rfl rfl rfl (.none rfl) ?_; intro b18)
  refine G_storeA rfl rfl rfl rfl (by simp [Value.oneCell']) rfl (.none rfl) (.head _ _ _) rfl ?_
  refine G_val (V_assign rfl rfl) rfl rfl (.none rfl) ?_
  refine G_end ?_
  refine X_then ?_
  refine G_seq ?_
  refine G_region ?_
  refine G_callv (k := 13) (.mk rfl rfl rfl rfl) rfl rfl (.none rfl) (Read_codec_call _ _ _ (by first | assumption | exact SlE.toI (by assumption) rfl | exact SlE.toS (by assumption) rfl | omega | (simp; omega) | (simp; done))) ?_
  dsimp only [Go.Proofs.Ytlkfbokdbfnicaa.Rdr.v]
  refine G_callv (k := 54) (.mk rfl rfl rfl rfl) rfl rfl (.none rfl) (Fixed_call' _ _ _ (by first | assumption | exact SlE.toI (by assumption) rfl | exact SlE.toS (by assumption) rfl | omega | (simp; omega) | (simp; done)) _ _ _ _) ?_
  refine G_val (V_move rfl rfl) rfl rfl (.none rfl) ?_
  refine G_val (V_extract rfl rfl rfl) rfl rfl (.none rfl) ?_
  refine G_val (V_extract rfl rfl rfl) rfl rfl (.none rfl) ?_
  (refine G_alloc rfl rfl rfl (.none rfl) ?_; intro b20)
  refine G_storeA rfl rfl rfl rfl (by simp [Value.oneCell']) rfl (.none rfl) (.head _ _ _) rfl ?_
  refine G_val (V_assign rfl rfl) rfl rfl (.none rfl) ?_
  refine G_end ?_
  refine X_then ?_
  refine G_seq ?_
  refine G_region ?_
  refine G_callv (k := 13) (.mk rfl rfl rfl rfl) rfl rfl (.none rfl) (Read_codec_call _ _ _ (by first | assumption | exact SlE.toI (by assumption) rfl | exact SlE.toS (by assumption) rfl | omega | (simp; omega) | (simp; done))) ?_
  dsimp only [Go.Proofs.Ytlkfbokdbfnicaa.Rdr.v]
  refine G_callv (k := 54) (.mk rfl rfl rfl rfl) rfl rfl (.none rfl) (Fixed_call' _ _ _ (by first | assumption | exact SlE.toI (by assumption) rfl | exact SlE.toS (by assumption) rfl | omega | (simp; omega) | (simp; done)) _ _ _ _) ?_
  refine G_val (V_move rfl rfl) rfl rfl (.none rfl) ?_
  refine G_val (V_extract rfl rfl rfl) rfl rfl (.none rfl) ?_
  refine G_val (V_extract rfl rfl rfl) rfl rfl (.none rfl) ?_
  (refine G_alloc rfl rfl rfl (.none rfl) ?_; intro b22)
  refine G_storeA rfl rfl rfl rfl (by simp [Value.oneCell']) rfl (.none rfl) (.head _ _ _) rfl ?_
  refine G_val (V_assign rfl rfl) rfl rfl (.none rfl) ?_
  refine G_end ?_
  refine X_then ?_
  refine G_seq ?_
  refine G_region ?_
  refine G_val (V_loadA rfl rfl (Cells.own (.tail _ (.tail _ (.tail _ (.tail _ (.tail _ (.tail _ (.tail _ (.tail _ (.tail _ (.tail _ (.tail _ (.head _))))))))))))) rfl) rfl rfl (.none rfl) ?_
  refine G_callv (k := 55) (.mk rfl rfl rfl rfl) rfl rfl (.none rfl) (stays_call _ _ _ _ _ _ _ _) ?_
  refine G_val (V_move rfl rfl) rfl rfl (.none rfl) ?_
  refine G.bool_t 91 rfl (by kernel_rfl) ?_
  refine G_val (V_loadA rfl rfl (Cells.own (.tail _ (.tail _ (.tail _ (.tail _ (.tail _ (.tail _ (.tail _ (.tail _ (.tail _ (.tail _ (.head _)))))))))))) rfl) rfl rfl (.yes rfl rfl rfl rfl) ?_
  refine G_callv (k := 55) (.mk rfl rfl rfl rfl) rfl rfl (.yes rfl rfl rfl rfl) (stays_call _ _ _ _ _ _ _ _) ?_
  refine G_val (V_pick_t rfl rfl rfl) rfl rfl (.none rfl) ?_
  refine G_val (V_move rfl rfl) rfl rfl (.none rfl) ?_
  refine G.bool_t 95 rfl (by kernel_rfl) ?_
  refine G_val (V_loadA rfl rfl (Cells.own (.tail _ (.tail _ (.tail _ (.tail _ (.tail _ (.tail _ (.tail _ (.tail _ (.tail _ (.head _))))))))))) rfl) rfl rfl (.yes rfl rfl rfl rfl) ?_
  refine G_callv (k := 55) (.mk rfl rfl rfl rfl) rfl rfl (.yes rfl rfl rfl rfl) (stays_call _ _ _ _ _ _ _ _) ?_
  refine G_val (V_pick_t rfl rfl rfl) rfl rfl (.none rfl) ?_
  refine G_val (V_move rfl rfl) rfl rfl (.none rfl) ?_
  refine G.bool_t 99 rfl (by kernel_rfl) ?_
  refine G_val (V_loadA rfl rfl (Cells.own (.tail _ (.tail _ (.tail _ (.tail _ (.tail _ (.tail _ (.tail _ (.tail _ (.head _)))))))))) rfl) rfl rfl (.yes rfl rfl rfl rfl) ?_
  refine G_callv (k := 55) (.mk rfl rfl rfl rfl) rfl rfl (.yes rfl rfl rfl rfl) (stays_call _ _ _ _ _ _ _ _) ?_
  refine G_val (V_pick_t rfl rfl rfl) rfl rfl (.none rfl) ?_
  refine G_val (V_move rfl rfl) rfl rfl (.none rfl) ?_
  refine G.bool_t 103 rfl (by kernel_rfl) ?_
  refine G_val (V_loadA rfl rfl (Cells.own (.tail _ (.tail _ (.tail _ (.tail _ (.tail _ (.tail _ (.tail _ (.head _))))))))) rfl) rfl rfl (.yes rfl rfl rfl rfl) ?_
  refine G_callv (k := 55) (.mk rfl rfl rfl rfl) rfl rfl (.yes rfl rfl rfl rfl) (stays_call _ _ _ _ _ _ _ _) ?_
  refine G_val (V_pick_t rfl rfl rfl) rfl rfl (.none rfl) ?_
  refine G_val (V_assign rfl rfl) rfl rfl (.none rfl) ?_
  refine G_end ?_
  refine X_then ?_
  refine G_seq ?_
  refine G_region ?_
  refine G_val (V_fieldAddr rfl rfl (by decide)) rfl rfl (.none rfl) ?_
  refine G_val (V_loadF rfl rfl (.tail _ (.tail _ (.tail _ (.tail _ (.tail _ (.head _)))))) (by simp only [Nat.zero_add, List.drop_succ_cons, List.drop_zero, List.take_succ_cons, List.take_zero]; rfl) (by rfl)) rfl rfl (.none rfl) ?_
  refine G_val (V_build rfl rfl (by simp [fillV, setLs, setL, Value.cells]; rfl)) rfl rfl (.none rfl) ?_
  refine G_val (V_aeql_25 rfl rfl rfl) rfl rfl (.none rfl) ?_
  refine G_val (V_move rfl rfl) rfl rfl (.none rfl) ?_
  refine G.bool_t 111 rfl (by kernel_rfl) ?_
  refine G_val (V_move rfl rfl) rfl rfl (.yes rfl rfl rfl rfl) ?_
  (refine G_litZ rfl rfl (by decide) (by simp [fillS, zeros, setLs, setL, Value.cells, List.range, List.range.loop]; rfl) (by rfl) rfl rfl (.yes rfl rfl rfl rfl) ?_; intro b113 E113 hE113 hs113)
  replace Z28 := Z28.mono hE113
  replace Z21 := Z21.mono hE113
  replace Z14 := Z14.mono hE113
  replace Z7 := Z7.mono hE113
  refine G_callv (k := 31) (.mk rfl rfl rfl rfl) rfl rfl (.yes rfl rfl rfl rfl) (SameInts_call' _ _ _ _ _ _ _ _ _ _ (by first | assumption | exact SlE.toI (by assumption) rfl | exact SlE.toS (by assumption) rfl | omega | (simp; omega) | (simp; done)) (by first | assumption | exact SlE.toI (by assumption) rfl | exact SlE.toS (by assumption) rfl | omega | (simp; omega) | (simp; done)) (by first | assumption | exact SlE.toI (by assumption) rfl | exact SlE.toS (by assumption) rfl | omega | (simp; omega) | (simp; done)) (by first | assumption | exact SlE.toI (by assumption) rfl | exact SlE.toS (by assumption) rfl | omega | (simp; omega) | (simp; done))) ?_
  refine G_val (V_pick_t rfl rfl rfl) rfl rfl (.none rfl) ?_
  refine G_val (V_move rfl rfl) rfl rfl (.none rfl) ?_
  refine G.bool_t 116 rfl (by kernel_rfl) ?_
  refine G_val (V_loadA rfl rfl (Cells.own (.tail _ (.tail _ (.tail _ (.tail _ (.head _)))))) rfl) rfl rfl (.yes rfl rfl rfl rfl) ?_
  refine G_callv (k := 55) (.mk rfl rfl rfl rfl) rfl rfl (.yes rfl rfl rfl rfl) (stays_call _ _ _ _ _ _ _ _) ?_
  refine G_val (V_pick_t rfl rfl rfl) rfl rfl (.none rfl) ?_
  refine G_val (V_move rfl rfl) rfl rfl (.none rfl) ?_
  refine G.bool_t 120 rfl (by kernel_rfl) ?_
  refine G_val (V_loadA rfl rfl (Cells.own (.tail _ (.tail _ (.tail _ (.head _))))) rfl) rfl rfl (.yes rfl rfl rfl rfl) ?_
  refine G_callv (k := 55) (.mk rfl rfl rfl rfl) rfl rfl (.yes rfl rfl rfl rfl) (stays_call _ _ _ _ _ _ _ _) ?_
  refine G_val (V_pick_t rfl rfl rfl) rfl rfl (.none rfl) ?_
  refine G_val (V_move rfl rfl) rfl rfl (.none rfl) ?_
  refine G.bool_t 124 rfl (by kernel_rfl) ?_
  refine G_val (V_loadA rfl rfl (Cells.own (.tail _ (.tail _ (.head _)))) rfl) rfl rfl (.yes rfl rfl rfl rfl) ?_
  refine G_callv (k := 55) (.mk rfl rfl rfl rfl) rfl rfl (.yes rfl rfl rfl rfl) (stays_call _ _ _ _ _ _ _ _) ?_
  refine G_val (V_pick_t rfl rfl rfl) rfl rfl (.none rfl) ?_
  refine G_val (V_assign rfl rfl) rfl rfl (.none rfl) ?_
  refine G_end ?_
  refine X_then ?_
  refine G_seq ?_
  refine G_region ?_
  refine G_val (V_move rfl rfl) rfl rfl (.none rfl) ?_
  refine G_val (V_seql rfl rfl rfl) rfl rfl (.none rfl) ?_
  refine G_val (V_move rfl rfl) rfl rfl (.none rfl) ?_
  refine G.bool_t 130 rfl (by kernel_rfl) ?_
  refine G_val (V_fieldAddr rfl rfl (by decide)) rfl rfl (.yes rfl rfl rfl rfl) ?_
  refine G_val (V_load rfl rfl (Cell.own (.tail _ (.head _)) rfl)) rfl rfl (.yes rfl rfl rfl rfl) ?_
  refine G_val (V_eql rfl rfl rfl) rfl rfl (.yes rfl rfl rfl rfl) ?_
  refine G_val (V_pick_t rfl rfl rfl) rfl rfl (.none rfl) ?_
  refine G_val (V_move rfl rfl) rfl rfl (.none rfl) ?_
  refine G.bool_t 135 rfl (by kernel_rfl) ?_
  refine G_val (V_loadA rfl rfl (Cells.own (.head _)) rfl) rfl rfl (.yes rfl rfl rfl rfl) ?_
  refine G_callv (k := 55) (.mk rfl rfl rfl rfl) rfl rfl (.yes rfl rfl rfl rfl) (stays_call _ _ _ _ _ _ _ _) ?_
  refine G_val (V_pick_t rfl rfl rfl) rfl rfl (.none rfl) ?_
  refine G_val (V_move rfl rfl) rfl rfl (.none rfl) ?_
  refine G.bool_t 139 rfl (by kernel_rfl) ?_
  refine G_callv (k := 13) (.mk rfl rfl rfl rfl) rfl rfl (.yes rfl rfl rfl rfl) (Read_codec_call _ _ _ (by first | assumption | exact SlE.toI (by assumption) rfl | exact SlE.toS (by assumption) rfl | omega | (simp; omega) | (simp; done))) ?_
  dsimp only [Go.Proofs.Ytlkfbokdbfnicaa.Rdr.v]
  refine G_callv (k := 56) (.mk rfl rfl rfl rfl) rfl rfl (.yes rfl rfl rfl rfl) (End_call' _ _ _ (by first | assumption | exact SlE.toI (by assumption) rfl | exact SlE.toS (by assumption) rfl | omega | (simp; omega) | (simp; done)) _ _ _) ?_
  refine G_val (V_build rfl rfl (by simp [fillV, setLs, setL, Value.cells]; rfl)) rfl rfl (.yes rfl rfl rfl rfl) ?_
  refine G_val (V_aeql_25 rfl rfl rfl) rfl rfl (.yes rfl rfl rfl rfl) ?_
  refine G_val (V_pick_t rfl rfl rfl) rfl rfl (.none rfl) ?_
  refine G_val (V_assign rfl rfl) rfl rfl (.none rfl) ?_
  refine G_end ?_
  refine X_then ?_
  refine G_seq ?_
  refine G_region ?_
  refine G_callv (k := 20) (.mk rfl rfl rfl rfl) rfl rfl (.none rfl) (Make_call _ _ _) ?_
  dsimp only [Go.Proofs.Ytlkfbokdbfnicaa.Wrt.v]
  (refine G_litZ rfl rfl (by decide) (by simp [fillS, zeros, setLs, setL, Value.cells, List.range, List.range.loop]; rfl) (by rfl) rfl rfl (.none rfl) ?_; intro b146 E146 hE146 hs146)
  replace hs113 := hs113.mono hE146
  replace Z28 := Z28.mono hE146
  replace Z21 := Z21.mono hE146
  replace Z14 := Z14.mono hE146
  replace Z7 := Z7.mono hE146
  refine G_callv (k := 24) (.mk rfl rfl rfl rfl) rfl rfl (.none rfl) (PutString_call' _ _ _ _ _ _ _ _ _ (by first | assumption | exact SlE.toI (by assumption) rfl | exact SlE.toS (by assumption) rfl | omega | (simp; omega) | (simp; done)) (by first | assumption | exact SlE.toI (by assumption) rfl | exact SlE.toS (by assumption) rfl | omega | (simp; omega) | (simp; done)) (by first | assumption | exact SlE.toI (by assumption) rfl | exact SlE.toS (by assumption) rfl | omega | (simp; omega) | (simp; done)) (by first | assumption | exact SlE.toI (by assumption) rfl | exact SlE.toS (by assumption) rfl | omega | (simp; omega) | (simp; done))) ?_
  dsimp only [Go.Proofs.Ytlkfbokdbfnicaa.Wrt.v]
  refine G_callv (k := 57) (.mk rfl rfl rfl rfl) rfl rfl (.none rfl) (done_call _ _ _ (by first | assumption | exact SlE.toI (by assumption) rfl | exact SlE.toS (by assumption) rfl | omega | (simp; omega) | (simp; done)) _ _ _) ?_
  refine G_val (V_move rfl rfl) rfl rfl (.none rfl) ?_
  refine G.bool_t 149 rfl (by kernel_rfl) ?_
  refine G_callv (k := 20) (.mk rfl rfl rfl rfl) rfl rfl (.yes rfl rfl rfl rfl) (Make_call _ _ _) ?_
  dsimp only [Go.Proofs.Ytlkfbokdbfnicaa.Wrt.v]
  (refine G_litZ rfl rfl (by decide) (by simp [fillS, zeros, setLs, setL, Value.cells, List.range, List.range.loop]; rfl) (by rfl) rfl rfl (.yes rfl rfl rfl rfl) ?_; intro b151 E151 hE151 hs151)
  replace hs146 := hs146.mono hE151
  replace hs113 := hs113.mono hE151
  replace Z28 := Z28.mono hE151
  replace Z21 := Z21.mono hE151
  replace Z14 := Z14.mono hE151
  replace Z7 := Z7.mono hE151
  refine G_callv (k := 26) (.mk rfl rfl rfl rfl) rfl rfl (.yes rfl rfl rfl rfl) (PutInts_call' _ _ _ _ _ _ _ _ _ (by first | assumption | exact SlE.toI (by assumption) rfl | exact SlE.toS (by assumption) rfl | omega | (simp; omega) | (simp; done)) (by first | assumption | exact SlE.toI (by assumption) rfl | exact SlE.toS (by assumption) rfl | omega | (simp; omega) | (simp; done)) (by first | assumption | exact SlE.toI (by assumption) rfl | exact SlE.toS (by assumption) rfl | omega | (simp; omega) | (simp; done)) (by first | assumption | exact SlE.toI (by assumption) rfl | exact SlE.toS (by assumption) rfl | omega | (simp; omega) | (simp; done))) ?_
  dsimp only [Go.Proofs.Ytlkfbokdbfnicaa.Wrt.v]
  refine G_callv (k := 57) (.mk rfl rfl rfl rfl) rfl rfl (.yes rfl rfl rfl rfl) (done_call _ _ _ (by first | assumption | exact SlE.toI (by assumption) rfl | exact SlE.toS (by assumption) rfl | omega | (simp; omega) | (simp; done)) _ _ _) ?_
  refine G_val (V_pick_t rfl rfl rfl) rfl rfl (.none rfl) ?_
  refine G_val (V_move rfl rfl) rfl rfl (.none rfl) ?_
  refine G.bool_t 155 rfl (by kernel_rfl) ?_
  refine G_callv (k := 20) (.mk rfl rfl rfl rfl) rfl rfl (.yes rfl rfl rfl rfl) (Make_call _ _ _) ?_
  dsimp only [Go.Proofs.Ytlkfbokdbfnicaa.Wrt.v]
  (refine G_litZ rfl rfl (by decide) (by simp [fillS, zeros, setLs, setL, Value.cells, List.range, List.range.loop]; rfl) (by rfl) rfl rfl (.yes rfl rfl rfl rfl) ?_; intro b157 E157 hE157 hs157)
  replace hs151 := hs151.mono hE157
  replace hs146 := hs146.mono hE157
  replace hs113 := hs113.mono hE157
  replace Z28 := Z28.mono hE157
  replace Z21 := Z21.mono hE157
  replace Z14 := Z14.mono hE157
  replace Z7 := Z7.mono hE157
  refine G_callv (k := 24) (.mk rfl rfl rfl rfl) rfl rfl (.yes rfl rfl rfl rfl) (PutString_call' _ _ _ _ _ _ _ _ _ (by first | assumption | exact SlE.toI (by assumption) rfl | exact SlE.toS (by assumption) rfl | omega | (simp; omega) | (simp; done)) (by first | assumption | exact SlE.toI (by assumption) rfl | exact SlE.toS (by assumption) rfl | omega | (simp; omega) | (simp; done)) (by first | assumption | exact SlE.toI (by assumption) rfl | exact SlE.toS (by assumption) rfl | omega | (simp; omega) | (simp; done)) (by first | assumption | exact SlE.toI (by assumption) rfl | exact SlE.toS (by assumption) rfl | omega | (simp; omega) | (simp; done))) ?_
  dsimp only [Go.Proofs.Ytlkfbokdbfnicaa.Wrt.v]
  refine G_callv (k := 28) (.mk rfl rfl rfl rfl) rfl rfl (.yes rfl rfl rfl rfl) (Add_call _ _ _ (by first | assumption | exact SlE.toI (by assumption) rfl | exact SlE.toS (by assumption) rfl | omega | (simp; omega) | (simp; done)) _ _ _ (by first | assumption | exact SlE.toI (by assumption) rfl | exact SlE.toS (by assumption) rfl | omega | (simp; omega) | (simp; done))) ?_
  dsimp only [Go.Proofs.Ytlkfbokdbfnicaa.Wrt.v]
  refine G_callv (k := 58) (.mk rfl rfl rfl rfl) rfl rfl (.yes rfl rfl rfl rfl) (refuses_call _ _ _ (by first | assumption | exact SlE.toI (by assumption) rfl | exact SlE.toS (by assumption) rfl | omega | (simp; omega) | (simp; done)) _ _ _) ?_
  refine G_val (V_pick_t rfl rfl rfl) rfl rfl (.none rfl) ?_
  refine G_val (V_assign rfl rfl) rfl rfl (.none rfl) ?_
  refine G_end ?_
  refine X_then ?_
  refine G_seq ?_
  refine G_region ?_
  refine G_callv (k := 12) (.mk rfl rfl rfl rfl) rfl rfl (.none rfl) (awake5_call _ _) ?_
  refine G_val (V_move rfl rfl) rfl rfl (.none rfl) ?_
  refine G_val (V_move rfl rfl) rfl rfl (.yes rfl rfl rfl rfl) ?_
  refine G_val (V_pick_t rfl rfl rfl) rfl rfl (.none rfl) ?_
  refine G_val (V_move rfl rfl) rfl rfl (.none rfl) ?_
  refine G.bool_t 166 rfl (by kernel_rfl) ?_
  refine G_val (V_move rfl rfl) rfl rfl (.yes rfl rfl rfl rfl) ?_
  refine G_val (V_pick_t rfl rfl rfl) rfl rfl (.none rfl) ?_
  refine G_val (V_move rfl rfl) rfl rfl (.none rfl) ?_
  refine G.bool_t 169 rfl (by kernel_rfl) ?_
  refine G_val (V_move rfl rfl) rfl rfl (.yes rfl rfl rfl rfl) ?_
  refine G_val (V_pick_t rfl rfl rfl) rfl rfl (.none rfl) ?_
  refine G_val (V_move rfl rfl) rfl rfl (.none rfl) ?_
  refine G.bool_t 172 rfl (by kernel_rfl) ?_
  refine G_val (V_move rfl rfl) rfl rfl (.yes rfl rfl rfl rfl) ?_
  refine G_val (V_pick_t rfl rfl rfl) rfl rfl (.none rfl) ?_
  refine G_val (V_assign rfl rfl) rfl rfl (.none rfl) ?_
  refine G_end ?_
  refine X_then ?_
  refine G_ret ?_
  refine G_leaveS (.drop _ (.drop _ (.drop _ (.drop _ (.drop _ (.drop _ (.drop _ (.drop _ (.drop _ (.drop _ (.drop _ (.drop _ (.nil _))))))))))))) (by exact (.cons (.tmp rfl) (.nil))) rfl ?_ ?_
  · exact (((((((hE4.trans hE11).trans hE18).trans hE25).trans hE113).trans hE146).trans hE151).trans hE157)
  exact ⟨(by kernel_rfl), rfl⟩
end Go.Proofs.Ytlkfbokdbfnicaa
