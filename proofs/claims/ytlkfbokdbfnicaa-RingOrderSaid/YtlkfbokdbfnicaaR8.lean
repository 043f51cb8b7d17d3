import Derived.Test.YtlkfbokdbfnicaaSep19
import Derived.Test.YtlkfbokdbfnicaaInst
import Derived.Test.YtlkfbokdbfnicaaR7
set_option linter.unusedSimpArgs false
set_option linter.unusedVariables false
set_option maxHeartbeats 2000000
set_option maxRecDepth 20000
namespace Go.Proofs.Ytlkfbokdbfnicaa
open Go.RowKit

theorem Known26_call (E : Env) (L : List Res) : CallS Try.prog 5 #[] E L (fun r E' L' => r = .bool true ∧ L' = L) := by
  refine CallS.intro (l := []) _ Try.func5 rfl Try.ntmps5 rfl ?_
  have hnil : SlE E 3 none 0 (toks []) := SlE.nilT
  refine G_seq ?_
  refine G_region ?_
  refine G_val (V_assign rfl rfl) rfl rfl (.none rfl) ?_
  refine G_end ?_
  refine X_then ?_
  refine G_seq ?_
  refine G_region ?_
  refine G_callv (k := 34) (.mk rfl rfl rfl rfl) rfl rfl (.none rfl) (x_call _ _) ?_
  (refine G_litZ rfl rfl (by decide) (by simp [fillS, zeros, setLs, setL, Value.cells, List.range, List.range.loop]; rfl) (by rfl) rfl rfl (.none rfl) ?_; intro b31 E31 hE31 hs31)
  replace hnil := hnil.mono hE31
  refine G_callv (k := 33) (.mk rfl rfl rfl rfl) rfl rfl (.none rfl) (of_call _ _ _ _ _) ?_
  refine G_call (k := 32) (.mk rfl rfl rfl rfl) rfl rfl (.none rfl) (End_ring_call _ _ _ _ _ _ _ _ _ (by first | assumption | exact SlE.toI (by assumption) rfl | exact SlE.toS (by assumption) rfl | exact SlE.toT (by assumption) rfl | exact SlE.nilT | exact (rfl : (_ : Option _) = some _) | exact .head _ | exact .tail _ (.head _) | exact .tail _ (.tail _ (.head _)) | exact .tail _ (.tail _ (.tail _ (.head _))) | omega | (simp; omega) | (simp; done) | exact (by kernel_rfl : (_ : Bool) = _)) _ (by first | assumption | exact SlE.toI (by assumption) rfl | exact SlE.toS (by assumption) rfl | exact SlE.toT (by assumption) rfl | exact SlE.nilT | exact (rfl : (_ : Option _) = some _) | exact .head _ | exact .tail _ (.head _) | exact .tail _ (.tail _ (.head _)) | exact .tail _ (.tail _ (.tail _ (.head _))) | omega | (simp; omega) | (simp; done) | exact (by kernel_rfl : (_ : Bool) = _)) (by first | assumption | exact SlE.toI (by assumption) rfl | exact SlE.toS (by assumption) rfl | exact SlE.toT (by assumption) rfl | exact SlE.nilT | exact (rfl : (_ : Option _) = some _) | exact .head _ | exact .tail _ (.head _) | exact .tail _ (.tail _ (.head _)) | exact .tail _ (.tail _ (.tail _ (.head _))) | omega | (simp; omega) | (simp; done) | exact (by kernel_rfl : (_ : Bool) = _)) _ _ (by first | assumption | exact SlE.toI (by assumption) rfl | exact SlE.toS (by assumption) rfl | exact SlE.toT (by assumption) rfl | exact SlE.nilT | exact (rfl : (_ : Option _) = some _) | exact .head _ | exact .tail _ (.head _) | exact .tail _ (.tail _ (.head _)) | exact .tail _ (.tail _ (.tail _ (.head _))) | omega | (simp; omega) | (simp; done) | exact (by kernel_rfl : (_ : Bool) = _)) (by first | assumption | exact SlE.toI (by assumption) rfl | exact SlE.toS (by assumption) rfl | exact SlE.toT (by assumption) rfl | exact SlE.nilT | exact (rfl : (_ : Option _) = some _) | exact .head _ | exact .tail _ (.head _) | exact .tail _ (.tail _ (.head _)) | exact .tail _ (.tail _ (.tail _ (.head _))) | omega | (simp; omega) | (simp; done) | exact (by kernel_rfl : (_ : Bool) = _)) (by first | assumption | exact SlE.toI (by assumption) rfl | exact SlE.toS (by assumption) rfl | exact SlE.toT (by assumption) rfl | exact SlE.nilT | exact (rfl : (_ : Option _) = some _) | exact .head _ | exact .tail _ (.head _) | exact .tail _ (.tail _ (.head _)) | exact .tail _ (.tail _ (.tail _ (.head _))) | omega | (simp; omega) | (simp; done) | exact (by kernel_rfl : (_ : Bool) = _)) (by first | assumption | exact SlE.toI (by assumption) rfl | exact SlE.toS (by assumption) rfl | exact SlE.toT (by assumption) rfl | exact SlE.nilT | exact (rfl : (_ : Option _) = some _) | exact .head _ | exact .tail _ (.head _) | exact .tail _ (.tail _ (.head _)) | exact .tail _ (.tail _ (.tail _ (.head _))) | omega | (simp; omega) | (simp; done) | exact (by kernel_rfl : (_ : Bool) = _))) ?_
  rintro r1 E2 L3 hE4 ⟨z5, ⟨z6, ⟨rfl, ⟨Z7, rfl⟩⟩⟩⟩
  replace hs31 := hs31.mono hE4
  replace hnil := hnil.mono hE4
  refine G_val (V_move rfl rfl) rfl rfl (.none rfl) ?_
  refine G_val (V_extract rfl rfl rfl) rfl rfl (.none rfl) ?_
  refine G_val (V_extract rfl rfl rfl) rfl rfl (.none rfl) ?_
  (refine G_alloc rfl rfl rfl (.none rfl) ?_; intro b1)
  refine G_storeA rfl rfl rfl rfl (by simp [Value.oneCell']) rfl (.none rfl) (.head _ _ _) rfl ?_
  refine G_val (V_assign rfl rfl) rfl rfl (.none rfl) ?_
  refine G_end ?_
  refine X_then ?_
  refine G_seq ?_
  refine G_region ?_
  refine G_callv (k := 34) (.mk rfl rfl rfl rfl) rfl rfl (.none rfl) (x_call _ _) ?_
  refine G_callv (k := 36) (.mk rfl rfl rfl rfl) rfl rfl (.none rfl) (y_call _ _) ?_
  (refine G_litZ rfl rfl (by decide) (by simp [fillS, zeros, setLs, setL, Value.cells, List.range, List.range.loop]; rfl) (by rfl) rfl rfl (.none rfl) ?_; intro b39 E39 hE39 hs39)
  replace Z7 := Z7.mono hE39
  replace hs31 := hs31.mono hE39
  replace hnil := hnil.mono hE39
  refine G_callv (k := 33) (.mk rfl rfl rfl rfl) rfl rfl (.none rfl) (of_call _ _ _ _ _) ?_
  refine G_call (k := 35) (.mk rfl rfl rfl rfl) rfl rfl (.none rfl) (Take_call _ _ _ _ _ _ _ _ _ _ (by first | assumption | exact SlE.toI (by assumption) rfl | exact SlE.toS (by assumption) rfl | exact SlE.toT (by assumption) rfl | exact SlE.nilT | exact (rfl : (_ : Option _) = some _) | exact .head _ | exact .tail _ (.head _) | exact .tail _ (.tail _ (.head _)) | exact .tail _ (.tail _ (.tail _ (.head _))) | omega | (simp; omega) | (simp; done) | exact (by kernel_rfl : (_ : Bool) = _)) (by first | assumption | exact SlE.toI (by assumption) rfl | exact SlE.toS (by assumption) rfl | exact SlE.toT (by assumption) rfl | exact SlE.nilT | exact (rfl : (_ : Option _) = some _) | exact .head _ | exact .tail _ (.head _) | exact .tail _ (.tail _ (.head _)) | exact .tail _ (.tail _ (.tail _ (.head _))) | omega | (simp; omega) | (simp; done) | exact (by kernel_rfl : (_ : Bool) = _)) (by first | assumption | exact SlE.toI (by assumption) rfl | exact SlE.toS (by assumption) rfl | exact SlE.toT (by assumption) rfl | exact SlE.nilT | exact (rfl : (_ : Option _) = some _) | exact .head _ | exact .tail _ (.head _) | exact .tail _ (.tail _ (.head _)) | exact .tail _ (.tail _ (.tail _ (.head _))) | omega | (simp; omega) | (simp; done) | exact (by kernel_rfl : (_ : Bool) = _)) _ _ _ (by first | assumption | exact SlE.toI (by assumption) rfl | exact SlE.toS (by assumption) rfl | exact SlE.toT (by assumption) rfl | exact SlE.nilT | exact (rfl : (_ : Option _) = some _) | exact .head _ | exact .tail _ (.head _) | exact .tail _ (.tail _ (.head _)) | exact .tail _ (.tail _ (.tail _ (.head _))) | omega | (simp; omega) | (simp; done) | exact (by kernel_rfl : (_ : Bool) = _))) ?_
  rintro r8 E9 L10 hE11 ⟨z12, ⟨z13, ⟨rfl, ⟨Z14, rfl⟩⟩⟩⟩
  replace hs39 := hs39.mono hE11
  replace Z7 := Z7.mono hE11
  replace hs31 := hs31.mono hE11
  replace hnil := hnil.mono hE11
  refine G_val (V_move rfl rfl) rfl rfl (.none rfl) ?_
  refine G_val (V_extract rfl rfl rfl) rfl rfl (.none rfl) ?_
  refine G_val (V_extract rfl rfl rfl) rfl rfl (.none rfl) ?_
  refine G_val (V_extract rfl rfl rfl) rfl rfl (.none rfl) ?_
  (refine G_alloc rfl rfl rfl (.none rfl) ?_; intro b3)
  (refine G_alloc rfl rfl rfl (.none rfl) ?_; intro b4)
  refine G_storeA rfl rfl rfl rfl (by simp [Value.oneCell']) rfl (.none rfl) (.tail _ (.head _ _ _)) rfl ?_
  refine G_storeA rfl rfl rfl rfl (by simp [Value.oneCell']) rfl (.none rfl) (.head _ _ _) rfl ?_
  refine G_val (V_assign rfl rfl) rfl rfl (.none rfl) ?_
  refine G_end ?_
  refine X_then ?_
  refine G_seq ?_
  refine G_region ?_
  refine G_val (V_build rfl rfl (by simp [fillV, setLs, setL, Value.cells]; rfl)) rfl rfl (.none rfl) ?_
  refine G_callv (k := 35) (.mk rfl rfl rfl rfl) rfl rfl (.none rfl) (TakeEmpty_call _ _ _ _ _ _ _ _ _ _ (by first | assumption | exact SlE.toI (by assumption) rfl | exact SlE.toS (by assumption) rfl | exact SlE.toT (by assumption) rfl | exact SlE.nilT | exact (rfl : (_ : Option _) = some _) | exact .head _ | exact .tail _ (.head _) | exact .tail _ (.tail _ (.head _)) | exact .tail _ (.tail _ (.tail _ (.head _))) | omega | (simp; omega) | (simp; done) | exact (by kernel_rfl : (_ : Bool) = _)) (by first | assumption | exact SlE.toI (by assumption) rfl | exact SlE.toS (by assumption) rfl | exact SlE.toT (by assumption) rfl | exact SlE.nilT | exact (rfl : (_ : Option _) = some _) | exact .head _ | exact .tail _ (.head _) | exact .tail _ (.tail _ (.head _)) | exact .tail _ (.tail _ (.tail _ (.head _))) | omega | (simp; omega) | (simp; done) | exact (by kernel_rfl : (_ : Bool) = _)) (by first | assumption | exact SlE.toI (by assumption) rfl | exact SlE.toS (by assumption) rfl | exact SlE.toT (by assumption) rfl | exact SlE.nilT | exact (rfl : (_ : Option _) = some _) | exact .head _ | exact .tail _ (.head _) | exact .tail _ (.tail _ (.head _)) | exact .tail _ (.tail _ (.tail _ (.head _))) | omega | (simp; omega) | (simp; done) | exact (by kernel_rfl : (_ : Bool) = _))) ?_
  refine G_val (V_move rfl rfl) rfl rfl (.none rfl) ?_
  refine G_val (V_extract rfl rfl rfl) rfl rfl (.none rfl) ?_
  refine G_val (V_extract rfl rfl rfl) rfl rfl (.none rfl) ?_
  refine G_val (V_extract rfl rfl rfl) rfl rfl (.none rfl) ?_
  (refine G_alloc rfl rfl rfl (.none rfl) ?_; intro b6)
  (refine G_alloc rfl rfl rfl (.none rfl) ?_; intro b7)
  refine G_storeA rfl rfl rfl rfl (by simp [Value.oneCell']) rfl (.none rfl) (.tail _ (.head _ _ _)) rfl ?_
  refine G_storeA rfl rfl rfl rfl (by simp [Value.oneCell']) rfl (.none rfl) (.head _ _ _) rfl ?_
  refine G_val (V_assign rfl rfl) rfl rfl (.none rfl) ?_
  refine G_end ?_
  refine X_then ?_
  refine G_seq ?_
  refine G_region ?_
  refine G_val (V_build rfl rfl (by simp [fillV, setLs, setL, Value.cells]; rfl)) rfl rfl (.none rfl) ?_
  refine G_callv (k := 37) (.mk rfl rfl rfl rfl) rfl rfl (.none rfl) (Away_call _ _ _ _ _ _ _ _ _ _ (by first | assumption | exact SlE.toI (by assumption) rfl | exact SlE.toS (by assumption) rfl | exact SlE.toT (by assumption) rfl | exact SlE.nilT | exact (rfl : (_ : Option _) = some _) | exact .head _ | exact .tail _ (.head _) | exact .tail _ (.tail _ (.head _)) | exact .tail _ (.tail _ (.tail _ (.head _))) | omega | (simp; omega) | (simp; done) | exact (by kernel_rfl : (_ : Bool) = _)) (by first | assumption | exact SlE.toI (by assumption) rfl | exact SlE.toS (by assumption) rfl | exact SlE.toT (by assumption) rfl | exact SlE.nilT | exact (rfl : (_ : Option _) = some _) | exact .head _ | exact .tail _ (.head _) | exact .tail _ (.tail _ (.head _)) | exact .tail _ (.tail _ (.tail _ (.head _))) | omega | (simp; omega) | (simp; done) | exact (by kernel_rfl : (_ : Bool) = _))) ?_
  refine G_val (V_move rfl rfl) rfl rfl (.none rfl) ?_
  refine G_val (V_extract rfl rfl rfl) rfl rfl (.none rfl) ?_
  refine G_val (V_extract rfl rfl rfl) rfl rfl (.none rfl) ?_
  (refine G_alloc rfl rfl rfl (.none rfl) ?_; intro b9)
  refine G_storeA rfl rfl rfl rfl (by simp [Value.oneCell']) rfl (.none rfl) (.head _ _ _) rfl ?_
  refine G_val (V_assign rfl rfl) rfl rfl (.none rfl) ?_
  refine G_end ?_
  refine X_then ?_
  refine G_seq ?_
  refine G_region ?_
  refine G_callv (k := 34) (.mk rfl rfl rfl rfl) rfl rfl (.none rfl) (x_call _ _) ?_
  (refine G_litZ rfl rfl (by decide) (by simp [fillS, zeros, setLs, setL, Value.cells, List.range, List.range.loop]; rfl) (by rfl) rfl rfl (.none rfl) ?_; intro b58 E58 hE58 hs58)
  replace Z14 := Z14.mono hE58
  replace hs39 := hs39.mono hE58
  replace Z7 := Z7.mono hE58
  replace hs31 := hs31.mono hE58
  replace hnil := hnil.mono hE58
  refine G_callv (k := 33) (.mk rfl rfl rfl rfl) rfl rfl (.none rfl) (of_call _ _ _ _ _) ?_
  refine G_callv (k := 37) (.mk rfl rfl rfl rfl) rfl rfl (.none rfl) (Away_call _ _ _ _ _ _ _ _ _ _ (by first | assumption | exact SlE.toI (by assumption) rfl | exact SlE.toS (by assumption) rfl | exact SlE.toT (by assumption) rfl | exact SlE.nilT | exact (rfl : (_ : Option _) = some _) | exact .head _ | exact .tail _ (.head _) | exact .tail _ (.tail _ (.head _)) | exact .tail _ (.tail _ (.tail _ (.head _))) | omega | (simp; omega) | (simp; done) | exact (by kernel_rfl : (_ : Bool) = _)) (by first | assumption | exact SlE.toI (by assumption) rfl | exact SlE.toS (by assumption) rfl | exact SlE.toT (by assumption) rfl | exact SlE.nilT | exact (rfl : (_ : Option _) = some _) | exact .head _ | exact .tail _ (.head _) | exact .tail _ (.tail _ (.head _)) | exact .tail _ (.tail _ (.tail _ (.head _))) | omega | (simp; omega) | (simp; done) | exact (by kernel_rfl : (_ : Bool) = _))) ?_
  refine G_val (V_move rfl rfl) rfl rfl (.none rfl) ?_
  refine G_val (V_extract rfl rfl rfl) rfl rfl (.none rfl) ?_
  refine G_val (V_extract rfl rfl rfl) rfl rfl (.none rfl) ?_
  (refine G_alloc rfl rfl rfl (.none rfl) ?_; intro b11)
  refine G_storeA rfl rfl rfl rfl (by simp [Value.oneCell']) rfl (.none rfl) (.head _ _ _) rfl ?_
  refine G_val (V_assign rfl rfl) rfl rfl (.none rfl) ?_
  refine G_end ?_
  refine X_then ?_
  refine G_seq ?_
  refine G_drawX 48 ((0, 0) :: (1, 0) :: (2, 0) :: (3, 3) :: (4, 2) :: (5, 3) :: (6, 2) :: (7, 3) :: (8, 0) :: (9, 0) :: (10, 1) :: (11, 2) :: (12, 3) :: (13, 0) :: (14, 0) :: (15, 0) :: (16, 0) :: (17, 0) :: (18, 0) :: (19, 1) :: (20, 3) :: (21, 0) :: (22, 0) :: (23, 0) :: (24, 1) :: (25, 3) :: (26, 2) :: (27, 3) :: (28, 3) :: (29, 0) :: (30, 0) :: (31, 0) :: (32, 0) :: (33, 0) :: (34, 0) :: (35, 0) :: (36, 0) :: (37, 0) :: (38, 0) :: (39, 1) :: (40, 0) :: (41, 3) :: (42, 0) :: (43, 0) :: (44, 0) :: (45, 0) :: (46, 0) :: (47, 0) :: []) mixed (by kernel_rfl) ?_
  refine F_pure rfl (fun _ _ => V_move rfl rfl) rfl rfl (.none rfl) ?_
  refine F_pure rfl (fun _ _ => V_eql rfl rfl rfl) rfl rfl (.none rfl) ?_
  refine F_pure rfl (fun _ _ => V_move rfl rfl) rfl rfl (.none rfl) ?_
  refine GF.bool_t 65 rfl (by kernel_rfl) ?_
  refine F_callv (k := 34) rfl (.mk rfl rfl rfl rfl) rfl rfl (.yes rfl rfl rfl rfl) (fun _ => x_call _ _) ?_
  (refine F_litZ rfl rfl rfl (by decide) (by simp [fillS, zeros, setLs, setL, Value.cells, List.range, List.range.loop]; rfl) (by rfl) rfl rfl (.yes rfl rfl rfl rfl) ?_; intro b67 E67 hE67 hs67)
  replace hs58 := hs58.mono hE67
  replace Z14 := Z14.mono hE67
  replace hs39 := hs39.mono hE67
  replace Z7 := Z7.mono hE67
  replace hs31 := hs31.mono hE67
  replace hnil := hnil.mono hE67
  refine F_callv (k := 33) rfl (.mk rfl rfl rfl rfl) rfl rfl (.yes rfl rfl rfl rfl) (fun _ => of_call _ _ _ _ _) ?_
  (refine F_litZ rfl rfl rfl (by decide) (by simp [fillS, zeros, setLs, setL, Value.cells, List.range, List.range.loop]; rfl) (by rfl) rfl rfl (.yes rfl rfl rfl rfl) ?_; intro b69 E69 hE69 hs69)
  replace hs67 := hs67.mono hE69
  replace hs58 := hs58.mono hE69
  replace Z14 := Z14.mono hE69
  replace hs39 := hs39.mono hE69
  replace Z7 := Z7.mono hE69
  replace hs31 := hs31.mono hE69
  replace hnil := hnil.mono hE69
  refine F_callv (k := 38) rfl (.mk rfl rfl rfl rfl) rfl rfl (.yes rfl rfl rfl rfl) (fun _ => looks_call _ _ _ _ _ _ _ _ _ _ _ _ _ _ (by first | assumption | exact SlE.toI (by assumption) rfl | exact SlE.toS (by assumption) rfl | exact SlE.toT (by assumption) rfl | exact SlE.nilT | exact (rfl : (_ : Option _) = some _) | exact .head _ | exact .tail _ (.head _) | exact .tail _ (.tail _ (.head _)) | exact .tail _ (.tail _ (.tail _ (.head _))) | omega | (simp; omega) | (simp; done) | exact (by kernel_rfl : (_ : Bool) = _)) (by first | assumption | exact SlE.toI (by assumption) rfl | exact SlE.toS (by assumption) rfl | exact SlE.toT (by assumption) rfl | exact SlE.nilT | exact (rfl : (_ : Option _) = some _) | exact .head _ | exact .tail _ (.head _) | exact .tail _ (.tail _ (.head _)) | exact .tail _ (.tail _ (.tail _ (.head _))) | omega | (simp; omega) | (simp; done) | exact (by kernel_rfl : (_ : Bool) = _)) (by first | assumption | exact SlE.toI (by assumption) rfl | exact SlE.toS (by assumption) rfl | exact SlE.toT (by assumption) rfl | exact SlE.nilT | exact (rfl : (_ : Option _) = some _) | exact .head _ | exact .tail _ (.head _) | exact .tail _ (.tail _ (.head _)) | exact .tail _ (.tail _ (.tail _ (.head _))) | omega | (simp; omega) | (simp; done) | exact (by kernel_rfl : (_ : Bool) = _)) (by first | assumption | exact SlE.toI (by assumption) rfl | exact SlE.toS (by assumption) rfl | exact SlE.toT (by assumption) rfl | exact SlE.nilT | exact (rfl : (_ : Option _) = some _) | exact .head _ | exact .tail _ (.head _) | exact .tail _ (.tail _ (.head _)) | exact .tail _ (.tail _ (.tail _ (.head _))) | omega | (simp; omega) | (simp; done) | exact (by kernel_rfl : (_ : Bool) = _)) (by first | assumption | exact SlE.toI (by assumption) rfl | exact SlE.toS (by assumption) rfl | exact SlE.toT (by assumption) rfl | exact SlE.nilT | exact (rfl : (_ : Option _) = some _) | exact .head _ | exact .tail _ (.head _) | exact .tail _ (.tail _ (.head _)) | exact .tail _ (.tail _ (.tail _ (.head _))) | omega | (simp; omega) | (simp; done) | exact (by kernel_rfl : (_ : Bool) = _))) ?_
  refine F_pure rfl (fun _ _ => V_pick_t rfl rfl rfl) rfl rfl (.none rfl) ?_
  refine F_pure rfl (fun _ _ => V_move rfl rfl) rfl rfl (.none rfl) ?_
  refine F_load rfl (.tail _ (.tail _ (.tail _ (.tail _ (.tail _ (.tail _ (.head _))))))) (V_loadA rfl rfl (Cells.own (.head _)) rfl) rfl rfl (.yes rfl rfl rfl rfl) ?_
  (refine F_litZ rfl rfl rfl (by decide) (by simp [fillS, zeros, setLs, setL, Value.cells, List.range, List.range.loop]; rfl) (by rfl) rfl rfl (.yes rfl rfl rfl rfl) ?_; intro b74 E74 hE74 hs74)
  replace hs69 := hs69.mono hE74
  replace hs67 := hs67.mono hE74
  replace hs58 := hs58.mono hE74
  replace Z14 := Z14.mono hE74
  replace hs39 := hs39.mono hE74
  replace Z7 := Z7.mono hE74
  replace hs31 := hs31.mono hE74
  replace hnil := hnil.mono hE74
  refine F_callv (k := 38) rfl (.mk rfl rfl rfl rfl) rfl rfl (.yes rfl rfl rfl rfl) (fun _ => looks_call _ _ _ _ _ _ _ _ _ _ _ _ _ _ (by first | assumption | exact SlE.toI (by assumption) rfl | exact SlE.toS (by assumption) rfl | exact SlE.toT (by assumption) rfl | exact SlE.nilT | exact (rfl : (_ : Option _) = some _) | exact .head _ | exact .tail _ (.head _) | exact .tail _ (.tail _ (.head _)) | exact .tail _ (.tail _ (.tail _ (.head _))) | omega | (simp; omega) | (simp; done) | exact (by kernel_rfl : (_ : Bool) = _)) (by first | assumption | exact SlE.toI (by assumption) rfl | exact SlE.toS (by assumption) rfl | exact SlE.toT (by assumption) rfl | exact SlE.nilT | exact (rfl : (_ : Option _) = some _) | exact .head _ | exact .tail _ (.head _) | exact .tail _ (.tail _ (.head _)) | exact .tail _ (.tail _ (.tail _ (.head _))) | omega | (simp; omega) | (simp; done) | exact (by kernel_rfl : (_ : Bool) = _)) (by first | assumption | exact SlE.toI (by assumption) rfl | exact SlE.toS (by assumption) rfl | exact SlE.toT (by assumption) rfl | exact SlE.nilT | exact (rfl : (_ : Option _) = some _) | exact .head _ | exact .tail _ (.head _) | exact .tail _ (.tail _ (.head _)) | exact .tail _ (.tail _ (.tail _ (.head _))) | omega | (simp; omega) | (simp; done) | exact (by kernel_rfl : (_ : Bool) = _)) (by first | assumption | exact SlE.toI (by assumption) rfl | exact SlE.toS (by assumption) rfl | exact SlE.toT (by assumption) rfl | exact SlE.nilT | exact (rfl : (_ : Option _) = some _) | exact .head _ | exact .tail _ (.head _) | exact .tail _ (.tail _ (.head _)) | exact .tail _ (.tail _ (.tail _ (.head _))) | omega | (simp; omega) | (simp; done) | exact (by kernel_rfl : (_ : Bool) = _)) (by first | assumption | exact SlE.toI (by assumption) rfl | exact SlE.toS (by assumption) rfl | exact SlE.toT (by assumption) rfl | exact SlE.nilT | exact (rfl : (_ : Option _) = some _) | exact .head _ | exact .tail _ (.head _) | exact .tail _ (.tail _ (.head _)) | exact .tail _ (.tail _ (.tail _ (.head _))) | omega | (simp; omega) | (simp; done) | exact (by kernel_rfl : (_ : Bool) = _))) ?_
  refine F_pure rfl (fun _ _ => V_pick_t rfl rfl rfl) rfl rfl (.none rfl) ?_
  refine F_pure rfl (fun _ _ => V_move rfl rfl) rfl rfl (.none rfl) ?_
  refine F_pure rfl (fun _ _ => V_move rfl rfl) rfl rfl (.yes rfl rfl rfl rfl) ?_
  refine F_pure rfl (fun _ _ => V_eql rfl rfl rfl) rfl rfl (.yes rfl rfl rfl rfl) ?_
  refine F_pure rfl (fun _ _ => V_pick_t rfl rfl rfl) rfl rfl (.none rfl) ?_
  refine F_pure rfl (fun _ _ => V_move rfl rfl) rfl rfl (.none rfl) ?_
  refine GF.bool_t 81 rfl (by kernel_rfl) ?_
  refine F_load rfl (.tail _ (.tail _ (.tail _ (.tail _ (.head _))))) (V_loadA rfl rfl (Cells.own (.head _)) rfl) rfl rfl (.yes rfl rfl rfl rfl) ?_
  refine F_callv (k := 34) rfl (.mk rfl rfl rfl rfl) rfl rfl (.yes rfl rfl rfl rfl) (fun _ => x_call _ _) ?_
  refine F_pure rfl (fun _ _ => V_aeql_55 rfl rfl rfl) rfl rfl (.yes rfl rfl rfl rfl) ?_
  refine F_pure rfl (fun _ _ => V_pick_t rfl rfl rfl) rfl rfl (.none rfl) ?_
  refine F_pure rfl (fun _ _ => V_move rfl rfl) rfl rfl (.none rfl) ?_
  refine GF.bool_t 86 rfl (by kernel_rfl) ?_
  refine F_load rfl (.tail _ (.tail _ (.tail _ (.tail _ (.tail _ (.head _)))))) (V_loadA rfl rfl (Cells.own (.head _)) rfl) rfl rfl (.yes rfl rfl rfl rfl) ?_
  refine F_callv (k := 36) rfl (.mk rfl rfl rfl rfl) rfl rfl (.yes rfl rfl rfl rfl) (fun _ => y_call _ _) ?_
  (refine F_litZ rfl rfl rfl (by decide) (by simp [fillS, zeros, setLs, setL, Value.cells, List.range, List.range.loop]; rfl) (by rfl) rfl rfl (.yes rfl rfl rfl rfl) ?_; intro b89 E89 hE89 hs89)
  replace hs74 := hs74.mono hE89
  replace hs69 := hs69.mono hE89
  replace hs67 := hs67.mono hE89
  replace hs58 := hs58.mono hE89
  replace Z14 := Z14.mono hE89
  replace hs39 := hs39.mono hE89
  replace Z7 := Z7.mono hE89
  replace hs31 := hs31.mono hE89
  replace hnil := hnil.mono hE89
  refine F_callv (k := 33) rfl (.mk rfl rfl rfl rfl) rfl rfl (.yes rfl rfl rfl rfl) (fun _ => of_call _ _ _ _ _) ?_
  refine F_callv (k := 39) rfl (.mk rfl rfl rfl rfl) rfl rfl (.yes rfl rfl rfl rfl) (fun _ => SameRing_call _ _ _ _ _ _ _ _ _ _ _ _ _ _ (by first | assumption | exact SlE.toI (by assumption) rfl | exact SlE.toS (by assumption) rfl | exact SlE.toT (by assumption) rfl | exact SlE.nilT | exact (rfl : (_ : Option _) = some _) | exact .head _ | exact .tail _ (.head _) | exact .tail _ (.tail _ (.head _)) | exact .tail _ (.tail _ (.tail _ (.head _))) | omega | (simp; omega) | (simp; done) | exact (by kernel_rfl : (_ : Bool) = _)) (by first | assumption | exact SlE.toI (by assumption) rfl | exact SlE.toS (by assumption) rfl | exact SlE.toT (by assumption) rfl | exact SlE.nilT | exact (rfl : (_ : Option _) = some _) | exact .head _ | exact .tail _ (.head _) | exact .tail _ (.tail _ (.head _)) | exact .tail _ (.tail _ (.tail _ (.head _))) | omega | (simp; omega) | (simp; done) | exact (by kernel_rfl : (_ : Bool) = _)) (by first | assumption | exact SlE.toI (by assumption) rfl | exact SlE.toS (by assumption) rfl | exact SlE.toT (by assumption) rfl | exact SlE.nilT | exact (rfl : (_ : Option _) = some _) | exact .head _ | exact .tail _ (.head _) | exact .tail _ (.tail _ (.head _)) | exact .tail _ (.tail _ (.tail _ (.head _))) | omega | (simp; omega) | (simp; done) | exact (by kernel_rfl : (_ : Bool) = _)) (by first | assumption | exact SlE.toI (by assumption) rfl | exact SlE.toS (by assumption) rfl | exact SlE.toT (by assumption) rfl | exact SlE.nilT | exact (rfl : (_ : Option _) = some _) | exact .head _ | exact .tail _ (.head _) | exact .tail _ (.tail _ (.head _)) | exact .tail _ (.tail _ (.tail _ (.head _))) | omega | (simp; omega) | (simp; done) | exact (by kernel_rfl : (_ : Bool) = _))) ?_
  refine F_pure rfl (fun _ _ => V_pick_t rfl rfl rfl) rfl rfl (.none rfl) ?_
  refine F_pure rfl (fun _ _ => V_move rfl rfl) rfl rfl (.none rfl) ?_
  refine GF.bool_t 93 rfl (by kernel_rfl) ?_
  refine F_pure rfl (fun _ _ => V_move rfl rfl) rfl rfl (.yes rfl rfl rfl rfl) ?_
  refine F_pure rfl (fun _ _ => V_eql rfl rfl rfl) rfl rfl (.yes rfl rfl rfl rfl) ?_
  refine F_pure rfl (fun _ _ => V_pick_t rfl rfl rfl) rfl rfl (.none rfl) ?_
  refine F_pure rfl (fun _ _ => V_move rfl rfl) rfl rfl (.none rfl) ?_
  refine GF.bool_t 97 rfl (by kernel_rfl) ?_
  refine F_pure rfl (fun _ _ => V_move rfl rfl) rfl rfl (.yes rfl rfl rfl rfl) ?_
  refine F_pure rfl (fun _ _ => V_eql rfl rfl rfl) rfl rfl (.yes rfl rfl rfl rfl) ?_
  refine F_pure rfl (fun _ _ => V_pick_t rfl rfl rfl) rfl rfl (.none rfl) ?_
  refine F_pure rfl (fun _ _ => V_move rfl rfl) rfl rfl (.none rfl) ?_
  refine GF.bool_t 101 rfl (by kernel_rfl) ?_
  refine F_load rfl (.tail _ (.head _)) (V_loadA rfl rfl (Cells.own (.head _)) rfl) rfl rfl (.yes rfl rfl rfl rfl) ?_
  refine F_pure rfl (fun _ _ => V_build rfl rfl (by simp [fillV, setLs, setL, Value.cells]; rfl)) rfl rfl (.yes rfl rfl rfl rfl) ?_
  refine F_callv (k := 39) rfl (.mk rfl rfl rfl rfl) rfl rfl (.yes rfl rfl rfl rfl) (fun _ => SameRing_call _ _ _ _ _ _ _ _ _ _ _ _ _ _ (by first | assumption | exact SlE.toI (by assumption) rfl | exact SlE.toS (by assumption) rfl | exact SlE.toT (by assumption) rfl | exact SlE.nilT | exact (rfl : (_ : Option _) = some _) | exact .head _ | exact .tail _ (.head _) | exact .tail _ (.tail _ (.head _)) | exact .tail _ (.tail _ (.tail _ (.head _))) | omega | (simp; omega) | (simp; done) | exact (by kernel_rfl : (_ : Bool) = _)) (by first | assumption | exact SlE.toI (by assumption) rfl | exact SlE.toS (by assumption) rfl | exact SlE.toT (by assumption) rfl | exact SlE.nilT | exact (rfl : (_ : Option _) = some _) | exact .head _ | exact .tail _ (.head _) | exact .tail _ (.tail _ (.head _)) | exact .tail _ (.tail _ (.tail _ (.head _))) | omega | (simp; omega) | (simp; done) | exact (by kernel_rfl : (_ : Bool) = _)) (by first | assumption | exact SlE.toI (by assumption) rfl | exact SlE.toS (by assumption) rfl | exact SlE.toT (by assumption) rfl | exact SlE.nilT | exact (rfl : (_ : Option _) = some _) | exact .head _ | exact .tail _ (.head _) | exact .tail _ (.tail _ (.head _)) | exact .tail _ (.tail _ (.tail _ (.head _))) | omega | (simp; omega) | (simp; done) | exact (by kernel_rfl : (_ : Bool) = _)) (by first | assumption | exact SlE.toI (by assumption) rfl | exact SlE.toS (by assumption) rfl | exact SlE.toT (by assumption) rfl | exact SlE.nilT | exact (rfl : (_ : Option _) = some _) | exact .head _ | exact .tail _ (.head _) | exact .tail _ (.tail _ (.head _)) | exact .tail _ (.tail _ (.tail _ (.head _))) | omega | (simp; omega) | (simp; done) | exact (by kernel_rfl : (_ : Bool) = _))) ?_
  refine F_pure rfl (fun _ _ => V_pick_t rfl rfl rfl) rfl rfl (.none rfl) ?_
  refine F_pure rfl (fun _ _ => V_move rfl rfl) rfl rfl (.none rfl) ?_
  refine GF.bool_t 106 rfl (by kernel_rfl) ?_
  refine F_pure rfl (fun _ _ => V_move rfl rfl) rfl rfl (.yes rfl rfl rfl rfl) ?_
  refine F_pure rfl (fun _ _ => V_eql rfl rfl rfl) rfl rfl (.yes rfl rfl rfl rfl) ?_
  refine F_pure rfl (fun _ _ => V_pick_t rfl rfl rfl) rfl rfl (.none rfl) ?_
  refine F_pure rfl (fun _ _ => V_assign rfl rfl) rfl rfl (.none rfl) ?_
  (refine F_end (.nil _) ?_; dsimp only [List.drop])
  refine G_end ?_
  refine X_then ?_
  refine G_seq ?_
  refine G_region ?_
  refine G_callv (k := 34) (.mk rfl rfl rfl rfl) rfl rfl (.none rfl) (x_call _ _) ?_
  refine G_callv (k := 36) (.mk rfl rfl rfl rfl) rfl rfl (.none rfl) (y_call _ _) ?_
  (refine G_litZ rfl rfl (by decide) (by simp [fillS, zeros, setLs, setL, Value.cells, List.range, List.range.loop]; rfl) (by rfl) rfl rfl (.none rfl) ?_; intro b113 E113 hE113 hs113)
  replace hs89 := hs89.mono hE113
  replace hs74 := hs74.mono hE113
  replace hs69 := hs69.mono hE113
  replace hs67 := hs67.mono hE113
  replace hs58 := hs58.mono hE113
  replace Z14 := Z14.mono hE113
  replace hs39 := hs39.mono hE113
  replace Z7 := Z7.mono hE113
  replace hs31 := hs31.mono hE113
  replace hnil := hnil.mono hE113
  refine G_callv (k := 33) (.mk rfl rfl rfl rfl) rfl rfl (.none rfl) (of_call _ _ _ _ _) ?_
  refine G_callv (k := 40) (.mk rfl rfl rfl rfl) rfl rfl (.none rfl) (Bytes_ring_call _ _ _ _ _ _ _ _ _ _ (by first | assumption | exact SlE.toI (by assumption) rfl | exact SlE.toS (by assumption) rfl | exact SlE.toT (by assumption) rfl | exact SlE.nilT | exact (rfl : (_ : Option _) = some _) | exact .head _ | exact .tail _ (.head _) | exact .tail _ (.tail _ (.head _)) | exact .tail _ (.tail _ (.tail _ (.head _))) | omega | (simp; omega) | (simp; done) | exact (by kernel_rfl : (_ : Bool) = _)) (by first | assumption | exact SlE.toI (by assumption) rfl | exact SlE.toS (by assumption) rfl | exact SlE.toT (by assumption) rfl | exact SlE.nilT | exact (rfl : (_ : Option _) = some _) | exact .head _ | exact .tail _ (.head _) | exact .tail _ (.tail _ (.head _)) | exact .tail _ (.tail _ (.tail _ (.head _))) | omega | (simp; omega) | (simp; done) | exact (by kernel_rfl : (_ : Bool) = _))) ?_
  refine G_val (V_move rfl rfl) rfl rfl (.none rfl) ?_
  refine G_val (V_extract rfl rfl rfl) rfl rfl (.none rfl) ?_
  refine G_val (V_extract rfl rfl rfl) rfl rfl (.none rfl) ?_
  refine G_val (V_assign rfl rfl) rfl rfl (.none rfl) ?_
  refine G_val (V_assign rfl rfl) rfl rfl (.none rfl) ?_
  refine G_end ?_
  refine X_then ?_
  refine G_seq ?_
  refine G_region ?_
  refine G_callv (k := 34) (.mk rfl rfl rfl rfl) rfl rfl (.none rfl) (x_call _ _) ?_
  refine G_callv (k := 36) (.mk rfl rfl rfl rfl) rfl rfl (.none rfl) (y_call _ _) ?_
  (refine G_litZ rfl rfl (by decide) (by simp [fillS, zeros, setLs, setL, Value.cells, List.range, List.range.loop]; rfl) (by rfl) rfl rfl (.none rfl) ?_; intro b121 E121 hE121 hs121)
  replace hs113 := hs113.mono hE121
  replace hs89 := hs89.mono hE121
  replace hs74 := hs74.mono hE121
  replace hs69 := hs69.mono hE121
  replace hs67 := hs67.mono hE121
  replace hs58 := hs58.mono hE121
  replace Z14 := Z14.mono hE121
  replace hs39 := hs39.mono hE121
  replace Z7 := Z7.mono hE121
  replace hs31 := hs31.mono hE121
  replace hnil := hnil.mono hE121
  refine G_callv (k := 33) (.mk rfl rfl rfl rfl) rfl rfl (.none rfl) (of_call _ _ _ _ _) ?_
  refine G_callv (k := 41) (.mk rfl rfl rfl rfl) rfl rfl (.none rfl) (Solid_call _ _ _ _ _ _ _ _ _ (by first | assumption | exact SlE.toI (by assumption) rfl | exact SlE.toS (by assumption) rfl | exact SlE.toT (by assumption) rfl | exact SlE.nilT | exact (rfl : (_ : Option _) = some _) | exact .head _ | exact .tail _ (.head _) | exact .tail _ (.tail _ (.head _)) | exact .tail _ (.tail _ (.tail _ (.head _))) | omega | (simp; omega) | (simp; done) | exact (by kernel_rfl : (_ : Bool) = _)) _ (by first | assumption | exact SlE.toI (by assumption) rfl | exact SlE.toS (by assumption) rfl | exact SlE.toT (by assumption) rfl | exact SlE.nilT | exact (rfl : (_ : Option _) = some _) | exact .head _ | exact .tail _ (.head _) | exact .tail _ (.tail _ (.head _)) | exact .tail _ (.tail _ (.tail _ (.head _))) | omega | (simp; omega) | (simp; done) | exact (by kernel_rfl : (_ : Bool) = _)) (by first | assumption | exact SlE.toI (by assumption) rfl | exact SlE.toS (by assumption) rfl | exact SlE.toT (by assumption) rfl | exact SlE.nilT | exact (rfl : (_ : Option _) = some _) | exact .head _ | exact .tail _ (.head _) | exact .tail _ (.tail _ (.head _)) | exact .tail _ (.tail _ (.tail _ (.head _))) | omega | (simp; omega) | (simp; done) | exact (by kernel_rfl : (_ : Bool) = _)) _ (by first | assumption | exact SlE.toI (by assumption) rfl | exact SlE.toS (by assumption) rfl | exact SlE.toT (by assumption) rfl | exact SlE.nilT | exact (rfl : (_ : Option _) = some _) | exact .head _ | exact .tail _ (.head _) | exact .tail _ (.tail _ (.head _)) | exact .tail _ (.tail _ (.tail _ (.head _))) | omega | (simp; omega) | (simp; done) | exact (by kernel_rfl : (_ : Bool) = _)) (by first | assumption | exact SlE.toI (by assumption) rfl | exact SlE.toS (by assumption) rfl | exact SlE.toT (by assumption) rfl | exact SlE.nilT | exact (rfl : (_ : Option _) = some _) | exact .head _ | exact .tail _ (.head _) | exact .tail _ (.tail _ (.head _)) | exact .tail _ (.tail _ (.tail _ (.head _))) | omega | (simp; omega) | (simp; done) | exact (by kernel_rfl : (_ : Bool) = _))) ?_
  refine G_val (V_move rfl rfl) rfl rfl (.none rfl) ?_
  refine G_val (V_extract rfl rfl rfl) rfl rfl (.none rfl) ?_
  refine G_val (V_extract rfl rfl rfl) rfl rfl (.none rfl) ?_
  refine G_val (V_assign rfl rfl) rfl rfl (.none rfl) ?_
  refine G_val (V_assign rfl rfl) rfl rfl (.none rfl) ?_
  refine G_end ?_
  refine X_then ?_
  refine G_seq ?_
  refine G_region ?_
  refine G_callv (k := 34) (.mk rfl rfl rfl rfl) rfl rfl (.none rfl) (x_call _ _) ?_
  refine G_callv (k := 42) (.mk rfl rfl rfl rfl) rfl rfl (.none rfl) (z_call _ _) ?_
  (refine G_litZ rfl rfl (by decide) (by simp [fillS, zeros, setLs, setL, Value.cells, List.range, List.range.loop]; rfl) (by rfl) rfl rfl (.none rfl) ?_; intro b129 E129 hE129 hs129)
  replace hs121 := hs121.mono hE129
  replace hs113 := hs113.mono hE129
  replace hs89 := hs89.mono hE129
  replace hs74 := hs74.mono hE129
  replace hs69 := hs69.mono hE129
  replace hs67 := hs67.mono hE129
  replace hs58 := hs58.mono hE129
  replace Z14 := Z14.mono hE129
  replace hs39 := hs39.mono hE129
  replace Z7 := Z7.mono hE129
  replace hs31 := hs31.mono hE129
  replace hnil := hnil.mono hE129
  refine G_callv (k := 33) (.mk rfl rfl rfl rfl) rfl rfl (.none rfl) (of_call _ _ _ _ _) ?_
  refine G_callv (k := 41) (.mk rfl rfl rfl rfl) rfl rfl (.none rfl) (Solid_call _ _ _ _ _ _ _ _ _ (by first | assumption | exact SlE.toI (by assumption) rfl | exact SlE.toS (by assumption) rfl | exact SlE.toT (by assumption) rfl | exact SlE.nilT | exact (rfl : (_ : Option _) = some _) | exact .head _ | exact .tail _ (.head _) | exact .tail _ (.tail _ (.head _)) | exact .tail _ (.tail _ (.tail _ (.head _))) | omega | (simp; omega) | (simp; done) | exact (by kernel_rfl : (_ : Bool) = _)) _ (by first | assumption | exact SlE.toI (by assumption) rfl | exact SlE.toS (by assumption) rfl | exact SlE.toT (by assumption) rfl | exact SlE.nilT | exact (rfl : (_ : Option _) = some _) | exact .head _ | exact .tail _ (.head _) | exact .tail _ (.tail _ (.head _)) | exact .tail _ (.tail _ (.tail _ (.head _))) | omega | (simp; omega) | (simp; done) | exact (by kernel_rfl : (_ : Bool) = _)) (by first | assumption | exact SlE.toI (by assumption) rfl | exact SlE.toS (by assumption) rfl | exact SlE.toT (by assumption) rfl | exact SlE.nilT | exact (rfl : (_ : Option _) = some _) | exact .head _ | exact .tail _ (.head _) | exact .tail _ (.tail _ (.head _)) | exact .tail _ (.tail _ (.tail _ (.head _))) | omega | (simp; omega) | (simp; done) | exact (by kernel_rfl : (_ : Bool) = _)) _ (by first | assumption | exact SlE.toI (by assumption) rfl | exact SlE.toS (by assumption) rfl | exact SlE.toT (by assumption) rfl | exact SlE.nilT | exact (rfl : (_ : Option _) = some _) | exact .head _ | exact .tail _ (.head _) | exact .tail _ (.tail _ (.head _)) | exact .tail _ (.tail _ (.tail _ (.head _))) | omega | (simp; omega) | (simp; done) | exact (by kernel_rfl : (_ : Bool) = _)) (by first | assumption | exact SlE.toI (by assumption) rfl | exact SlE.toS (by assumption) rfl | exact SlE.toT (by assumption) rfl | exact SlE.nilT | exact (rfl : (_ : Option _) = some _) | exact .head _ | exact .tail _ (.head _) | exact .tail _ (.tail _ (.head _)) | exact .tail _ (.tail _ (.tail _ (.head _))) | omega | (simp; omega) | (simp; done) | exact (by kernel_rfl : (_ : Bool) = _))) ?_
  refine G_val (V_move rfl rfl) rfl rfl (.none rfl) ?_
  refine G_val (V_extract rfl rfl rfl) rfl rfl (.none rfl) ?_
  refine G_val (V_extract rfl rfl rfl) rfl rfl (.none rfl) ?_
  refine G_val (V_assign rfl rfl) rfl rfl (.none rfl) ?_
  refine G_val (V_assign rfl rfl) rfl rfl (.none rfl) ?_
  refine G_end ?_
  refine X_then ?_
  refine G_seq ?_
  refine G_region ?_
  refine G_callv (k := 34) (.mk rfl rfl rfl rfl) rfl rfl (.none rfl) (x_call _ _) ?_
  refine G_callv (k := 36) (.mk rfl rfl rfl rfl) rfl rfl (.none rfl) (y_call _ _) ?_
  (refine G_litZ rfl rfl (by decide) (by simp [fillS, zeros, setLs, setL, Value.cells, List.range, List.range.loop]; rfl) (by rfl) rfl rfl (.none rfl) ?_; intro b137 E137 hE137 hs137)
  replace hs129 := hs129.mono hE137
  replace hs121 := hs121.mono hE137
  replace hs113 := hs113.mono hE137
  replace hs89 := hs89.mono hE137
  replace hs74 := hs74.mono hE137
  replace hs69 := hs69.mono hE137
  replace hs67 := hs67.mono hE137
  replace hs58 := hs58.mono hE137
  replace Z14 := Z14.mono hE137
  replace hs39 := hs39.mono hE137
  replace Z7 := Z7.mono hE137
  replace hs31 := hs31.mono hE137
  replace hnil := hnil.mono hE137
  refine G_callv (k := 33) (.mk rfl rfl rfl rfl) rfl rfl (.none rfl) (of_call _ _ _ _ _) ?_
  refine G_callv (k := 43) (.mk rfl rfl rfl rfl) rfl rfl (.none rfl) (Place_call _ _ _ _ _ _ _ _ _ _ (by first | assumption | exact SlE.toI (by assumption) rfl | exact SlE.toS (by assumption) rfl | exact SlE.toT (by assumption) rfl | exact SlE.nilT | exact (rfl : (_ : Option _) = some _) | exact .head _ | exact .tail _ (.head _) | exact .tail _ (.tail _ (.head _)) | exact .tail _ (.tail _ (.tail _ (.head _))) | omega | (simp; omega) | (simp; done) | exact (by kernel_rfl : (_ : Bool) = _)) (by first | assumption | exact SlE.toI (by assumption) rfl | exact SlE.toS (by assumption) rfl | exact SlE.toT (by assumption) rfl | exact SlE.nilT | exact (rfl : (_ : Option _) = some _) | exact .head _ | exact .tail _ (.head _) | exact .tail _ (.tail _ (.head _)) | exact .tail _ (.tail _ (.tail _ (.head _))) | omega | (simp; omega) | (simp; done) | exact (by kernel_rfl : (_ : Bool) = _)) (by first | assumption | exact SlE.toI (by assumption) rfl | exact SlE.toS (by assumption) rfl | exact SlE.toT (by assumption) rfl | exact SlE.nilT | exact (rfl : (_ : Option _) = some _) | exact .head _ | exact .tail _ (.head _) | exact .tail _ (.tail _ (.head _)) | exact .tail _ (.tail _ (.tail _ (.head _))) | omega | (simp; omega) | (simp; done) | exact (by kernel_rfl : (_ : Bool) = _)) _ _ _ (by first | assumption | exact SlE.toI (by assumption) rfl | exact SlE.toS (by assumption) rfl | exact SlE.toT (by assumption) rfl | exact SlE.nilT | exact (rfl : (_ : Option _) = some _) | exact .head _ | exact .tail _ (.head _) | exact .tail _ (.tail _ (.head _)) | exact .tail _ (.tail _ (.tail _ (.head _))) | omega | (simp; omega) | (simp; done) | exact (by kernel_rfl : (_ : Bool) = _))) ?_
  refine G_val (V_move rfl rfl) rfl rfl (.none rfl) ?_
  refine G_val (V_extract rfl rfl rfl) rfl rfl (.none rfl) ?_
  refine G_val (V_extract rfl rfl rfl) rfl rfl (.none rfl) ?_
  refine G_val (V_assign rfl rfl) rfl rfl (.none rfl) ?_
  refine G_val (V_assign rfl rfl) rfl rfl (.none rfl) ?_
  refine G_end ?_
  refine X_then ?_
  refine G_seq ?_
  refine G_region ?_
  refine G_val (V_build rfl rfl (by simp [fillV, setLs, setL, Value.cells]; rfl)) rfl rfl (.none rfl) ?_
  refine G_callv (k := 43) (.mk rfl rfl rfl rfl) rfl rfl (.none rfl) (PlaceEmpty_call _ _ _ _ _ _ _ _ _ _ (by first | assumption | exact SlE.toI (by assumption) rfl | exact SlE.toS (by assumption) rfl | exact SlE.toT (by assumption) rfl | exact SlE.nilT | exact (rfl : (_ : Option _) = some _) | exact .head _ | exact .tail _ (.head _) | exact .tail _ (.tail _ (.head _)) | exact .tail _ (.tail _ (.tail _ (.head _))) | omega | (simp; omega) | (simp; done) | exact (by kernel_rfl : (_ : Bool) = _)) (by first | assumption | exact SlE.toI (by assumption) rfl | exact SlE.toS (by assumption) rfl | exact SlE.toT (by assumption) rfl | exact SlE.nilT | exact (rfl : (_ : Option _) = some _) | exact .head _ | exact .tail _ (.head _) | exact .tail _ (.tail _ (.head _)) | exact .tail _ (.tail _ (.tail _ (.head _))) | omega | (simp; omega) | (simp; done) | exact (by kernel_rfl : (_ : Bool) = _)) (by first | assumption | exact SlE.toI (by assumption) rfl | exact SlE.toS (by assumption) rfl | exact SlE.toT (by assumption) rfl | exact SlE.nilT | exact (rfl : (_ : Option _) = some _) | exact .head _ | exact .tail _ (.head _) | exact .tail _ (.tail _ (.head _)) | exact .tail _ (.tail _ (.tail _ (.head _))) | omega | (simp; omega) | (simp; done) | exact (by kernel_rfl : (_ : Bool) = _)) (by first | assumption | exact SlE.toI (by assumption) rfl | exact SlE.toS (by assumption) rfl | exact SlE.toT (by assumption) rfl | exact SlE.nilT | exact (rfl : (_ : Option _) = some _) | exact .head _ | exact .tail _ (.head _) | exact .tail _ (.tail _ (.head _)) | exact .tail _ (.tail _ (.tail _ (.head _))) | omega | (simp; omega) | (simp; done) | exact (by kernel_rfl : (_ : Bool) = _))) ?_
  refine G_val (V_move rfl rfl) rfl rfl (.none rfl) ?_
  refine G_val (V_extract rfl rfl rfl) rfl rfl (.none rfl) ?_
  refine G_val (V_extract rfl rfl rfl) rfl rfl (.none rfl) ?_
  refine G_val (V_assign rfl rfl) rfl rfl (.none rfl) ?_
  refine G_val (V_assign rfl rfl) rfl rfl (.none rfl) ?_
  refine G_end ?_
  refine X_then ?_
  refine G_seq ?_
  refine G_region ?_
  refine G_val (V_move rfl rfl) rfl rfl (.none rfl) ?_
  refine G_val (V_eql rfl rfl rfl) rfl rfl (.none rfl) ?_
  refine G_val (V_move rfl rfl) rfl rfl (.none rfl) ?_
  refine G.bool_t 149 rfl (by kernel_rfl) ?_
  refine G_val (V_move rfl rfl) rfl rfl (.yes rfl rfl rfl rfl) ?_
  refine G_val (V_eql rfl rfl rfl) rfl rfl (.yes rfl rfl rfl rfl) ?_
  refine G_val (V_pick_t rfl rfl rfl) rfl rfl (.none rfl) ?_
  refine G_val (V_move rfl rfl) rfl rfl (.none rfl) ?_
  refine G.bool_t 153 rfl (by kernel_rfl) ?_
  refine G_val (V_move rfl rfl) rfl rfl (.yes rfl rfl rfl rfl) ?_
  refine G_val (V_eql rfl rfl rfl) rfl rfl (.yes rfl rfl rfl rfl) ?_
  refine G_val (V_pick_t rfl rfl rfl) rfl rfl (.none rfl) ?_
  refine G_val (V_move rfl rfl) rfl rfl (.none rfl) ?_
  refine G.bool_t 157 rfl (by kernel_rfl) ?_
  refine G_val (V_move rfl rfl) rfl rfl (.yes rfl rfl rfl rfl) ?_
  refine G_val (V_pick_t rfl rfl rfl) rfl rfl (.none rfl) ?_
  refine G_val (V_move rfl rfl) rfl rfl (.none rfl) ?_
  refine G.bool_t 160 rfl (by kernel_rfl) ?_
  refine G_val (V_move rfl rfl) rfl rfl (.yes rfl rfl rfl rfl) ?_
  refine G_val (V_eql rfl rfl rfl) rfl rfl (.yes rfl rfl rfl rfl) ?_
  refine G_val (V_pick_t rfl rfl rfl) rfl rfl (.none rfl) ?_
  refine G_val (V_move rfl rfl) rfl rfl (.none rfl) ?_
  refine G.bool_t 164 rfl (by kernel_rfl) ?_
  refine G_val (V_move rfl rfl) rfl rfl (.yes rfl rfl rfl rfl) ?_
  refine G_val (V_not rfl rfl) rfl rfl (.yes rfl rfl rfl rfl) ?_
  refine G_val (V_pick_t rfl rfl rfl) rfl rfl (.none rfl) ?_
  refine G_val (V_move rfl rfl) rfl rfl (.none rfl) ?_
  refine G.bool_t 168 rfl (by kernel_rfl) ?_
  refine G_val (V_move rfl rfl) rfl rfl (.yes rfl rfl rfl rfl) ?_
  refine G_val (V_eql rfl rfl rfl) rfl rfl (.yes rfl rfl rfl rfl) ?_
  refine G_val (V_pick_t rfl rfl rfl) rfl rfl (.none rfl) ?_
  refine G_val (V_move rfl rfl) rfl rfl (.none rfl) ?_
  refine G.bool_t 172 rfl (by kernel_rfl) ?_
  refine G_val (V_move rfl rfl) rfl rfl (.yes rfl rfl rfl rfl) ?_
  refine G_val (V_eql rfl rfl rfl) rfl rfl (.yes rfl rfl rfl rfl) ?_
  refine G_val (V_pick_t rfl rfl rfl) rfl rfl (.none rfl) ?_
  refine G_val (V_move rfl rfl) rfl rfl (.none rfl) ?_
  refine G.bool_t 176 rfl (by kernel_rfl) ?_
  refine G_val (V_move rfl rfl) rfl rfl (.yes rfl rfl rfl rfl) ?_
  refine G_val (V_eql rfl rfl rfl) rfl rfl (.yes rfl rfl rfl rfl) ?_
  refine G_val (V_pick_t rfl rfl rfl) rfl rfl (.none rfl) ?_
  refine G_val (V_assign rfl rfl) rfl rfl (.none rfl) ?_
  refine G_end ?_
  refine X_then ?_
  refine G_seq ?_
  refine G_region ?_
  refine G_callv (k := 34) (.mk rfl rfl rfl rfl) rfl rfl (.none rfl) (x_call _ _) ?_
  (refine G_litZ rfl rfl (by decide) (by simp [fillS, zeros, setLs, setL, Value.cells, List.range, List.range.loop]; rfl) (by rfl) rfl rfl (.none rfl) ?_; intro b182 E182 hE182 hs182)
  replace hs137 := hs137.mono hE182
  replace hs129 := hs129.mono hE182
  replace hs121 := hs121.mono hE182
  replace hs113 := hs113.mono hE182
  replace hs89 := hs89.mono hE182
  replace hs74 := hs74.mono hE182
  replace hs69 := hs69.mono hE182
  replace hs67 := hs67.mono hE182
  replace hs58 := hs58.mono hE182
  replace Z14 := Z14.mono hE182
  replace hs39 := hs39.mono hE182
  replace Z7 := Z7.mono hE182
  replace hs31 := hs31.mono hE182
  replace hnil := hnil.mono hE182
  refine G_callv (k := 33) (.mk rfl rfl rfl rfl) rfl rfl (.none rfl) (of_call _ _ _ _ _) ?_
  refine G_callv (k := 32) (.mk rfl rfl rfl rfl) rfl rfl (.none rfl) (EndOrder_call _ _ _ _ _ _ _ _ _ (by first | assumption | exact SlE.toI (by assumption) rfl | exact SlE.toS (by assumption) rfl | exact SlE.toT (by assumption) rfl | exact SlE.nilT | exact (rfl : (_ : Option _) = some _) | exact .head _ | exact .tail _ (.head _) | exact .tail _ (.tail _ (.head _)) | exact .tail _ (.tail _ (.tail _ (.head _))) | omega | (simp; omega) | (simp; done) | exact (by kernel_rfl : (_ : Bool) = _)) _ (by first | assumption | exact SlE.toI (by assumption) rfl | exact SlE.toS (by assumption) rfl | exact SlE.toT (by assumption) rfl | exact SlE.nilT | exact (rfl : (_ : Option _) = some _) | exact .head _ | exact .tail _ (.head _) | exact .tail _ (.tail _ (.head _)) | exact .tail _ (.tail _ (.tail _ (.head _))) | omega | (simp; omega) | (simp; done) | exact (by kernel_rfl : (_ : Bool) = _)) (by first | assumption | exact SlE.toI (by assumption) rfl | exact SlE.toS (by assumption) rfl | exact SlE.toT (by assumption) rfl | exact SlE.nilT | exact (rfl : (_ : Option _) = some _) | exact .head _ | exact .tail _ (.head _) | exact .tail _ (.tail _ (.head _)) | exact .tail _ (.tail _ (.tail _ (.head _))) | omega | (simp; omega) | (simp; done) | exact (by kernel_rfl : (_ : Bool) = _)) _ _ (by first | assumption | exact SlE.toI (by assumption) rfl | exact SlE.toS (by assumption) rfl | exact SlE.toT (by assumption) rfl | exact SlE.nilT | exact (rfl : (_ : Option _) = some _) | exact .head _ | exact .tail _ (.head _) | exact .tail _ (.tail _ (.head _)) | exact .tail _ (.tail _ (.tail _ (.head _))) | omega | (simp; omega) | (simp; done) | exact (by kernel_rfl : (_ : Bool) = _)) (by first | assumption | exact SlE.toI (by assumption) rfl | exact SlE.toS (by assumption) rfl | exact SlE.toT (by assumption) rfl | exact SlE.nilT | exact (rfl : (_ : Option _) = some _) | exact .head _ | exact .tail _ (.head _) | exact .tail _ (.tail _ (.head _)) | exact .tail _ (.tail _ (.tail _ (.head _))) | omega | (simp; omega) | (simp; done) | exact (by kernel_rfl : (_ : Bool) = _)) (by first | assumption | exact SlE.toI (by assumption) rfl | exact SlE.toS (by assumption) rfl | exact SlE.toT (by assumption) rfl | exact SlE.nilT | exact (rfl : (_ : Option _) = some _) | exact .head _ | exact .tail _ (.head _) | exact .tail _ (.tail _ (.head _)) | exact .tail _ (.tail _ (.tail _ (.head _))) | omega | (simp; omega) | (simp; done) | exact (by kernel_rfl : (_ : Bool) = _)) (by first | assumption | exact SlE.toI (by assumption) rfl | exact SlE.toS (by assumption) rfl | exact SlE.toT (by assumption) rfl | exact SlE.nilT | exact (rfl : (_ : Option _) = some _) | exact .head _ | exact .tail _ (.head _) | exact .tail _ (.tail _ (.head _)) | exact .tail _ (.tail _ (.tail _ (.head _))) | omega | (simp; omega) | (simp; done) | exact (by kernel_rfl : (_ : Bool) = _))) ?_
  refine G_val (V_move rfl rfl) rfl rfl (.none rfl) ?_
  refine G_val (V_extract rfl rfl rfl) rfl rfl (.none rfl) ?_
  refine G_val (V_extract rfl rfl rfl) rfl rfl (.none rfl) ?_
  (refine G_alloc rfl rfl rfl (.none rfl) ?_; intro b25)
  refine G_storeA rfl rfl rfl rfl (by simp [Value.oneCell']) rfl (.none rfl) (.head _ _ _) rfl ?_
  refine G_val (V_assign rfl rfl) rfl rfl (.none rfl) ?_
  refine G_end ?_
  refine X_then ?_
  refine G_seq ?_
  refine G_region ?_
  refine G_callv (k := 34) (.mk rfl rfl rfl rfl) rfl rfl (.none rfl) (x_call _ _) ?_
  (refine G_litZ rfl rfl (by decide) (by simp [fillS, zeros, setLs, setL, Value.cells, List.range, List.range.loop]; rfl) (by rfl) rfl rfl (.none rfl) ?_; intro b189 E189 hE189 hs189)
  replace hs182 := hs182.mono hE189
  replace hs137 := hs137.mono hE189
  replace hs129 := hs129.mono hE189
  replace hs121 := hs121.mono hE189
  replace hs113 := hs113.mono hE189
  replace hs89 := hs89.mono hE189
  replace hs74 := hs74.mono hE189
  replace hs69 := hs69.mono hE189
  replace hs67 := hs67.mono hE189
  replace hs58 := hs58.mono hE189
  replace Z14 := Z14.mono hE189
  replace hs39 := hs39.mono hE189
  replace Z7 := Z7.mono hE189
  replace hs31 := hs31.mono hE189
  replace hnil := hnil.mono hE189
  refine G_callv (k := 33) (.mk rfl rfl rfl rfl) rfl rfl (.none rfl) (of_call _ _ _ _ _) ?_
  refine G_callv (k := 32) (.mk rfl rfl rfl rfl) rfl rfl (.none rfl) (EndRange_call _ _ _ _ _ _ _ _ _ (by first | assumption | exact SlE.toI (by assumption) rfl | exact SlE.toS (by assumption) rfl | exact SlE.toT (by assumption) rfl | exact SlE.nilT | exact (rfl : (_ : Option _) = some _) | exact .head _ | exact .tail _ (.head _) | exact .tail _ (.tail _ (.head _)) | exact .tail _ (.tail _ (.tail _ (.head _))) | omega | (simp; omega) | (simp; done) | exact (by kernel_rfl : (_ : Bool) = _)) _ (by first | assumption | exact SlE.toI (by assumption) rfl | exact SlE.toS (by assumption) rfl | exact SlE.toT (by assumption) rfl | exact SlE.nilT | exact (rfl : (_ : Option _) = some _) | exact .head _ | exact .tail _ (.head _) | exact .tail _ (.tail _ (.head _)) | exact .tail _ (.tail _ (.tail _ (.head _))) | omega | (simp; omega) | (simp; done) | exact (by kernel_rfl : (_ : Bool) = _)) (by first | assumption | exact SlE.toI (by assumption) rfl | exact SlE.toS (by assumption) rfl | exact SlE.toT (by assumption) rfl | exact SlE.nilT | exact (rfl : (_ : Option _) = some _) | exact .head _ | exact .tail _ (.head _) | exact .tail _ (.tail _ (.head _)) | exact .tail _ (.tail _ (.tail _ (.head _))) | omega | (simp; omega) | (simp; done) | exact (by kernel_rfl : (_ : Bool) = _)) _ _ (by first | assumption | exact SlE.toI (by assumption) rfl | exact SlE.toS (by assumption) rfl | exact SlE.toT (by assumption) rfl | exact SlE.nilT | exact (rfl : (_ : Option _) = some _) | exact .head _ | exact .tail _ (.head _) | exact .tail _ (.tail _ (.head _)) | exact .tail _ (.tail _ (.tail _ (.head _))) | omega | (simp; omega) | (simp; done) | exact (by kernel_rfl : (_ : Bool) = _))) ?_
  refine G_val (V_move rfl rfl) rfl rfl (.none rfl) ?_
  refine G_val (V_extract rfl rfl rfl) rfl rfl (.none rfl) ?_
  refine G_val (V_extract rfl rfl rfl) rfl rfl (.none rfl) ?_
  (refine G_alloc rfl rfl rfl (.none rfl) ?_; intro b27)
  refine G_storeA rfl rfl rfl rfl (by simp [Value.oneCell']) rfl (.none rfl) (.head _ _ _) rfl ?_
  refine G_val (V_assign rfl rfl) rfl rfl (.none rfl) ?_
  refine G_end ?_
  refine X_then ?_
  refine G_seq ?_
  refine G_drawX 28 [(0, 3), (1, 0), (2, 0), (3, 0), (4, 0), (5, 0), (6, 0), (7, 0), (8, 3), (9, 2), (10, 3), (11, 3), (12, 3), (13, 0), (14, 0), (15, 0), (16, 0), (17, 0), (18, 0), (19, 0), (20, 0), (21, 0), (22, 0), (23, 1), (24, 3), (25, 3), (26, 0), (27, 0)] mixed (by kernel_rfl) ?_
  apply F_call (k := 44) rfl (.mk rfl rfl rfl rfl) rfl rfl (.none rfl)
  · (intro L0; refine CallS.mono (awake26_call _ _) ?_; exact fun _ _ _ _ h => h)
  · (rintro L0 r E' L' ⟨rfl, rfl⟩; exact ⟨rfl, ⟨rfl, rfl⟩⟩)
  rintro r15 E16 hE17 ⟨rfl, _⟩
  replace hs189 := hs189.mono hE17
  replace hs182 := hs182.mono hE17
  replace hs137 := hs137.mono hE17
  replace hs129 := hs129.mono hE17
  replace hs121 := hs121.mono hE17
  replace hs113 := hs113.mono hE17
  replace hs89 := hs89.mono hE17
  replace hs74 := hs74.mono hE17
  replace hs69 := hs69.mono hE17
  replace hs67 := hs67.mono hE17
  replace hs58 := hs58.mono hE17
  replace Z14 := Z14.mono hE17
  replace hs39 := hs39.mono hE17
  replace Z7 := Z7.mono hE17
  replace hs31 := hs31.mono hE17
  replace hnil := hnil.mono hE17
  refine F_pure rfl (fun _ _ => V_move rfl rfl) rfl rfl (.none rfl) ?_
  refine F_pure rfl (fun _ _ => V_move rfl rfl) rfl rfl (.yes rfl rfl rfl rfl) ?_
  refine F_pure rfl (fun _ _ => V_pick_t rfl rfl rfl) rfl rfl (.none rfl) ?_
  refine F_pure rfl (fun _ _ => V_move rfl rfl) rfl rfl (.none rfl) ?_
  refine GF.bool_t 198 rfl (by kernel_rfl) ?_
  refine F_pure rfl (fun _ _ => V_move rfl rfl) rfl rfl (.yes rfl rfl rfl rfl) ?_
  refine F_pure rfl (fun _ _ => V_pick_t rfl rfl rfl) rfl rfl (.none rfl) ?_
  refine F_pure rfl (fun _ _ => V_move rfl rfl) rfl rfl (.none rfl) ?_
  refine GF.bool_t 201 rfl (by kernel_rfl) ?_
  refine F_callv (k := 42) rfl (.mk rfl rfl rfl rfl) rfl rfl (.yes rfl rfl rfl rfl) (fun _ => z_call _ _) ?_
  (refine F_litZ rfl rfl rfl (by decide) (by simp [fillS, zeros, setLs, setL, Value.cells, List.range, List.range.loop]; rfl) (by rfl) rfl rfl (.yes rfl rfl rfl rfl) ?_; intro b203 E203 hE203 hs203)
  replace hs189 := hs189.mono hE203
  replace hs182 := hs182.mono hE203
  replace hs137 := hs137.mono hE203
  replace hs129 := hs129.mono hE203
  replace hs121 := hs121.mono hE203
  replace hs113 := hs113.mono hE203
  replace hs89 := hs89.mono hE203
  replace hs74 := hs74.mono hE203
  replace hs69 := hs69.mono hE203
  replace hs67 := hs67.mono hE203
  replace hs58 := hs58.mono hE203
  replace Z14 := Z14.mono hE203
  replace hs39 := hs39.mono hE203
  replace Z7 := Z7.mono hE203
  replace hs31 := hs31.mono hE203
  replace hnil := hnil.mono hE203
  refine F_callv (k := 33) rfl (.mk rfl rfl rfl rfl) rfl rfl (.yes rfl rfl rfl rfl) (fun _ => of_call _ _ _ _ _) ?_
  refine F_callv (k := 36) rfl (.mk rfl rfl rfl rfl) rfl rfl (.yes rfl rfl rfl rfl) (fun _ => y_call _ _) ?_
  refine F_callv (k := 45) rfl (.mk rfl rfl rfl rfl) rfl rfl (.yes rfl rfl rfl rfl) (fun _ => PutsOrder_call _ _ _ _ _ _ _ _ _ _ _ (by first | assumption | exact SlE.toI (by assumption) rfl | exact SlE.toS (by assumption) rfl | exact SlE.toT (by assumption) rfl | exact SlE.nilT | exact (rfl : (_ : Option _) = some _) | exact .head _ | exact .tail _ (.head _) | exact .tail _ (.tail _ (.head _)) | exact .tail _ (.tail _ (.tail _ (.head _))) | omega | (simp; omega) | (simp; done) | exact (by kernel_rfl : (_ : Bool) = _)) (by first | assumption | exact SlE.toI (by assumption) rfl | exact SlE.toS (by assumption) rfl | exact SlE.toT (by assumption) rfl | exact SlE.nilT | exact (rfl : (_ : Option _) = some _) | exact .head _ | exact .tail _ (.head _) | exact .tail _ (.tail _ (.head _)) | exact .tail _ (.tail _ (.tail _ (.head _))) | omega | (simp; omega) | (simp; done) | exact (by kernel_rfl : (_ : Bool) = _)) (by first | assumption | exact SlE.toI (by assumption) rfl | exact SlE.toS (by assumption) rfl | exact SlE.toT (by assumption) rfl | exact SlE.nilT | exact (rfl : (_ : Option _) = some _) | exact .head _ | exact .tail _ (.head _) | exact .tail _ (.tail _ (.head _)) | exact .tail _ (.tail _ (.tail _ (.head _))) | omega | (simp; omega) | (simp; done) | exact (by kernel_rfl : (_ : Bool) = _)) _ (by first | assumption | exact SlE.toI (by assumption) rfl | exact SlE.toS (by assumption) rfl | exact SlE.toT (by assumption) rfl | exact SlE.nilT | exact (rfl : (_ : Option _) = some _) | exact .head _ | exact .tail _ (.head _) | exact .tail _ (.tail _ (.head _)) | exact .tail _ (.tail _ (.tail _ (.head _))) | omega | (simp; omega) | (simp; done) | exact (by kernel_rfl : (_ : Bool) = _)) (by first | assumption | exact SlE.toI (by assumption) rfl | exact SlE.toS (by assumption) rfl | exact SlE.toT (by assumption) rfl | exact SlE.nilT | exact (rfl : (_ : Option _) = some _) | exact .head _ | exact .tail _ (.head _) | exact .tail _ (.tail _ (.head _)) | exact .tail _ (.tail _ (.tail _ (.head _))) | omega | (simp; omega) | (simp; done) | exact (by kernel_rfl : (_ : Bool) = _)) (by first | assumption | exact SlE.toI (by assumption) rfl | exact SlE.toS (by assumption) rfl | exact SlE.toT (by assumption) rfl | exact SlE.nilT | exact (rfl : (_ : Option _) = some _) | exact .head _ | exact .tail _ (.head _) | exact .tail _ (.tail _ (.head _)) | exact .tail _ (.tail _ (.tail _ (.head _))) | omega | (simp; omega) | (simp; done) | exact (by kernel_rfl : (_ : Bool) = _)) (by first | assumption | exact SlE.toI (by assumption) rfl | exact SlE.toS (by assumption) rfl | exact SlE.toT (by assumption) rfl | exact SlE.nilT | exact (rfl : (_ : Option _) = some _) | exact .head _ | exact .tail _ (.head _) | exact .tail _ (.tail _ (.head _)) | exact .tail _ (.tail _ (.tail _ (.head _))) | omega | (simp; omega) | (simp; done) | exact (by kernel_rfl : (_ : Bool) = _))) ?_
  refine F_pure rfl (fun _ _ => V_pick_t rfl rfl rfl) rfl rfl (.none rfl) ?_
  refine F_pure rfl (fun _ _ => V_move rfl rfl) rfl rfl (.none rfl) ?_
  refine F_pure rfl (fun _ _ => V_move rfl rfl) rfl rfl (.yes rfl rfl rfl rfl) ?_
  refine F_pure rfl (fun _ _ => V_eql rfl rfl rfl) rfl rfl (.yes rfl rfl rfl rfl) ?_
  refine F_pure rfl (fun _ _ => V_pick_t rfl rfl rfl) rfl rfl (.none rfl) ?_
  refine F_pure rfl (fun _ _ => V_move rfl rfl) rfl rfl (.none rfl) ?_
  refine GF.bool_t 212 rfl (by kernel_rfl) ?_
  refine F_pure rfl (fun _ _ => V_move rfl rfl) rfl rfl (.yes rfl rfl rfl rfl) ?_
  refine F_pure rfl (fun _ _ => V_eql rfl rfl rfl) rfl rfl (.yes rfl rfl rfl rfl) ?_
  refine F_pure rfl (fun _ _ => V_pick_t rfl rfl rfl) rfl rfl (.none rfl) ?_
  refine F_pure rfl (fun _ _ => V_move rfl rfl) rfl rfl (.none rfl) ?_
  refine GF.bool_t 216 rfl (by kernel_rfl) ?_
  refine F_load rfl (.tail _ (.tail _ (.tail _ (.tail _ (.tail _ (.tail _ (.tail _ (.tail _ (.head _))))))))) (V_loadA rfl rfl (Cells.own (.head _)) rfl) rfl rfl (.yes rfl rfl rfl rfl) ?_
  refine F_callv (k := 36) rfl (.mk rfl rfl rfl rfl) rfl rfl (.yes rfl rfl rfl rfl) (fun _ => y_call _ _) ?_
  refine F_callv (k := 45) rfl (.mk rfl rfl rfl rfl) rfl rfl (.yes rfl rfl rfl rfl) (fun _ => PutsState_call _ _ _ _ _ _ _ _ _ _ _ (by first | assumption | exact SlE.toI (by assumption) rfl | exact SlE.toS (by assumption) rfl | exact SlE.toT (by assumption) rfl | exact SlE.nilT | exact (rfl : (_ : Option _) = some _) | exact .head _ | exact .tail _ (.head _) | exact .tail _ (.tail _ (.head _)) | exact .tail _ (.tail _ (.tail _ (.head _))) | omega | (simp; omega) | (simp; done) | exact (by kernel_rfl : (_ : Bool) = _)) (by first | assumption | exact SlE.toI (by assumption) rfl | exact SlE.toS (by assumption) rfl | exact SlE.toT (by assumption) rfl | exact SlE.nilT | exact (rfl : (_ : Option _) = some _) | exact .head _ | exact .tail _ (.head _) | exact .tail _ (.tail _ (.head _)) | exact .tail _ (.tail _ (.tail _ (.head _))) | omega | (simp; omega) | (simp; done) | exact (by kernel_rfl : (_ : Bool) = _)) _ (by first | assumption | exact SlE.toI (by assumption) rfl | exact SlE.toS (by assumption) rfl | exact SlE.toT (by assumption) rfl | exact SlE.nilT | exact (rfl : (_ : Option _) = some _) | exact .head _ | exact .tail _ (.head _) | exact .tail _ (.tail _ (.head _)) | exact .tail _ (.tail _ (.tail _ (.head _))) | omega | (simp; omega) | (simp; done) | exact (by kernel_rfl : (_ : Bool) = _)) (by first | assumption | exact SlE.toI (by assumption) rfl | exact SlE.toS (by assumption) rfl | exact SlE.toT (by assumption) rfl | exact SlE.nilT | exact (rfl : (_ : Option _) = some _) | exact .head _ | exact .tail _ (.head _) | exact .tail _ (.tail _ (.head _)) | exact .tail _ (.tail _ (.tail _ (.head _))) | omega | (simp; omega) | (simp; done) | exact (by kernel_rfl : (_ : Bool) = _))) ?_
  refine F_pure rfl (fun _ _ => V_pick_t rfl rfl rfl) rfl rfl (.none rfl) ?_
  refine F_pure rfl (fun _ _ => V_assign rfl rfl) rfl rfl (.none rfl) ?_
  (refine F_end (.nil _) ?_; dsimp only [List.drop])
  refine G_end ?_
  refine X_then ?_
  refine G_ret ?_
  refine G_leaveS (.drop _ (.drop _ (.drop _ (.drop _ (.drop _ (.drop _ (.drop _ (.drop _ (.drop _ (.nil _)))))))))) (by exact (.cons (.tmp rfl) (.nil))) rfl ?_ ?_
  · exact ((((((((((((((((hE31.trans hE4).trans hE39).trans hE11).trans hE58).trans hE67).trans hE69).trans hE74).trans hE89).trans hE113).trans hE121).trans hE129).trans hE137).trans hE182).trans hE189).trans hE17).trans hE203)
  exact ⟨(by kernel_rfl), rfl⟩
end Go.Proofs.Ytlkfbokdbfnicaa
