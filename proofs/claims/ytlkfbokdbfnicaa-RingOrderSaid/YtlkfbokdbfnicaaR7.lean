import Derived.Test.YtlkfbokdbfnicaaSep19
import Derived.Test.YtlkfbokdbfnicaaInst
import Derived.Test.YtlkfbokdbfnicaaR6
set_option linter.unusedSimpArgs false
set_option linter.unusedVariables false
set_option maxHeartbeats 2000000
set_option maxRecDepth 20000
namespace Go.Proofs.Ytlkfbokdbfnicaa
open Go.RowKit

theorem awake26_call (E : Env) (L : List Res) : CallS Try.prog 44 #[] E L (fun r E' L' => r = .bool true ∧ L' = L) := by
  refine CallS.intro (l := []) _ Try.func44 rfl Try.ntmps44 rfl ?_
  have hnil : SlE E 3 none 0 (toks []) := SlE.nilT
  refine G_seq ?_
  refine G_region ?_
  refine G_val (V_assign rfl rfl) rfl rfl (.none rfl) ?_
  refine G_end ?_
  refine X_then ?_
  refine G_seq ?_
  refine G_region ?_
  refine G_val (V_build rfl rfl (by simp [fillV, setLs, setL, Value.cells]; rfl)) rfl rfl (.none rfl) ?_
  refine G_callv (k := 34) (.mk rfl rfl rfl rfl) rfl rfl (.none rfl) (x_call _ _) ?_
  refine G_call (k := 48) (.mk rfl rfl rfl rfl) rfl rfl (.none rfl) (Put_call _ _ _ _ _ _ _ _ _ (by first | assumption | exact SlE.toI (by assumption) rfl | exact SlE.toS (by assumption) rfl | exact SlE.toT (by assumption) rfl | exact SlE.nilT | exact (rfl : (_ : Option _) = some _) | exact .head _ | exact .tail _ (.head _) | exact .tail _ (.tail _ (.head _)) | exact .tail _ (.tail _ (.tail _ (.head _))) | omega | (simp; omega) | (simp; done) | exact (by kernel_rfl : (_ : Bool) = _)) _ (by first | assumption | exact SlE.toI (by assumption) rfl | exact SlE.toS (by assumption) rfl | exact SlE.toT (by assumption) rfl | exact SlE.nilT | exact (rfl : (_ : Option _) = some _) | exact .head _ | exact .tail _ (.head _) | exact .tail _ (.tail _ (.head _)) | exact .tail _ (.tail _ (.tail _ (.head _))) | omega | (simp; omega) | (simp; done) | exact (by kernel_rfl : (_ : Bool) = _)) (by first | assumption | exact SlE.toI (by assumption) rfl | exact SlE.toS (by assumption) rfl | exact SlE.toT (by assumption) rfl | exact SlE.nilT | exact (rfl : (_ : Option _) = some _) | exact .head _ | exact .tail _ (.head _) | exact .tail _ (.tail _ (.head _)) | exact .tail _ (.tail _ (.tail _ (.head _))) | omega | (simp; omega) | (simp; done) | exact (by kernel_rfl : (_ : Bool) = _)) _ _ _ (by first | assumption | exact SlE.toI (by assumption) rfl | exact SlE.toS (by assumption) rfl | exact SlE.toT (by assumption) rfl | exact SlE.nilT | exact (rfl : (_ : Option _) = some _) | exact .head _ | exact .tail _ (.head _) | exact .tail _ (.tail _ (.head _)) | exact .tail _ (.tail _ (.tail _ (.head _))) | omega | (simp; omega) | (simp; done) | exact (by kernel_rfl : (_ : Bool) = _)) (by first | assumption | exact SlE.toI (by assumption) rfl | exact SlE.toS (by assumption) rfl | exact SlE.toT (by assumption) rfl | exact SlE.nilT | exact (rfl : (_ : Option _) = some _) | exact .head _ | exact .tail _ (.head _) | exact .tail _ (.tail _ (.head _)) | exact .tail _ (.tail _ (.tail _ (.head _))) | omega | (simp; omega) | (simp; done) | exact (by kernel_rfl : (_ : Bool) = _)) (by first | assumption | exact SlE.toI (by assumption) rfl | exact SlE.toS (by assumption) rfl | exact SlE.toT (by assumption) rfl | exact SlE.nilT | exact (rfl : (_ : Option _) = some _) | exact .head _ | exact .tail _ (.head _) | exact .tail _ (.tail _ (.head _)) | exact .tail _ (.tail _ (.tail _ (.head _))) | omega | (simp; omega) | (simp; done) | exact (by kernel_rfl : (_ : Bool) = _))) ?_
  rintro r1 E2 L3 hE4 ⟨z5, ⟨z6, ⟨rfl, ⟨Z7, rfl⟩⟩⟩⟩
  replace hnil := hnil.mono hE4
  refine G_val (V_move rfl rfl) rfl rfl (.none rfl) ?_
  refine G_val (V_extract rfl rfl rfl) rfl rfl (.none rfl) ?_
  refine G_val (V_extract rfl rfl rfl) rfl rfl (.none rfl) ?_
  (refine G_alloc rfl rfl rfl (.none rfl) ?_; intro b1)
  refine G_storeA rfl rfl rfl rfl (by simp [Value.oneCell']) rfl (.none rfl) (.head _ _ _) rfl ?_
  refine G_val (V_assign rfl rfl) rfl rfl (.none rfl) ?_
  refine G_end ?_
  refine X_then ?_
  refine G_seq ?_
  refine G_drawX 9 [(0, 1), (1, 3), (2, 3), (3, 0), (4, 0), (5, 0), (6, 2), (7, 4), (8, 0)] mixed (by kernel_rfl) ?_
  refine F_load rfl (.head _) (V_loadA rfl rfl (Cells.own (.head _)) rfl) rfl rfl (.none rfl) ?_
  refine F_callv (k := 36) rfl (.mk rfl rfl rfl rfl) rfl rfl (.none rfl) (fun _ => y_call _ _) ?_
  apply F_call (k := 48) rfl (.mk rfl rfl rfl rfl) rfl rfl (.none rfl)
  · (intro L0; refine CallS.mono (Put_call _ _ _ _ _ _ _ _ _ (by first | assumption | exact SlE.toI (by assumption) rfl | exact SlE.toS (by assumption) rfl | exact SlE.toT (by assumption) rfl | exact SlE.nilT | exact (rfl : (_ : Option _) = some _) | exact .head _ | exact .tail _ (.head _) | exact .tail _ (.tail _ (.head _)) | exact .tail _ (.tail _ (.tail _ (.head _))) | omega | (simp; omega) | (simp; done) | exact (by kernel_rfl : (_ : Bool) = _)) _ (by first | assumption | exact SlE.toI (by assumption) rfl | exact SlE.toS (by assumption) rfl | exact SlE.toT (by assumption) rfl | exact SlE.nilT | exact (rfl : (_ : Option _) = some _) | exact .head _ | exact .tail _ (.head _) | exact .tail _ (.tail _ (.head _)) | exact .tail _ (.tail _ (.tail _ (.head _))) | omega | (simp; omega) | (simp; done) | exact (by kernel_rfl : (_ : Bool) = _)) (by first | assumption | exact SlE.toI (by assumption) rfl | exact SlE.toS (by assumption) rfl | exact SlE.toT (by assumption) rfl | exact SlE.nilT | exact (rfl : (_ : Option _) = some _) | exact .head _ | exact .tail _ (.head _) | exact .tail _ (.tail _ (.head _)) | exact .tail _ (.tail _ (.tail _ (.head _))) | omega | (simp; omega) | (simp; done) | exact (by kernel_rfl : (_ : Bool) = _)) _ _ _ (by first | assumption | exact SlE.toI (by assumption) rfl | exact SlE.toS (by assumption) rfl | exact SlE.toT (by assumption) rfl | exact SlE.nilT | exact (rfl : (_ : Option _) = some _) | exact .head _ | exact .tail _ (.head _) | exact .tail _ (.tail _ (.head _)) | exact .tail _ (.tail _ (.tail _ (.head _))) | omega | (simp; omega) | (simp; done) | exact (by kernel_rfl : (_ : Bool) = _)) (by first | assumption | exact SlE.toI (by assumption) rfl | exact SlE.toS (by assumption) rfl | exact SlE.toT (by assumption) rfl | exact SlE.nilT | exact (rfl : (_ : Option _) = some _) | exact .head _ | exact .tail _ (.head _) | exact .tail _ (.tail _ (.head _)) | exact .tail _ (.tail _ (.tail _ (.head _))) | omega | (simp; omega) | (simp; done) | exact (by kernel_rfl : (_ : Bool) = _)) (by first | assumption | exact SlE.toI (by assumption) rfl | exact SlE.toS (by assumption) rfl | exact SlE.toT (by assumption) rfl | exact SlE.nilT | exact (rfl : (_ : Option _) = some _) | exact .head _ | exact .tail _ (.head _) | exact .tail _ (.tail _ (.head _)) | exact .tail _ (.tail _ (.tail _ (.head _))) | omega | (simp; omega) | (simp; done) | exact (by kernel_rfl : (_ : Bool) = _))) ?_; exact fun _ _ _ _ h => h)
  · (rintro L0 r E' L' ⟨z8, ⟨z9, ⟨rfl, ⟨Z10, rfl⟩⟩⟩⟩; exact ⟨rfl, ⟨_, ⟨_, ⟨rfl, ⟨(by first | assumption | omega | (simp; done) | exact SlE.tail (by assumption) (by omega) (by omega)), rfl⟩⟩⟩⟩⟩)
  rintro r11 E12 hE13 ⟨z14, ⟨z15, ⟨rfl, ⟨Z16, _⟩⟩⟩⟩
  replace Z7 := Z7.mono hE13
  replace hnil := hnil.mono hE13
  refine F_pure rfl (fun _ _ => V_move rfl rfl) rfl rfl (.none rfl) ?_
  refine F_pure rfl (fun _ _ => V_extract rfl rfl rfl) rfl rfl (.none rfl) ?_
  refine F_pure rfl (fun _ _ => V_extract rfl rfl rfl) rfl rfl (.none rfl) ?_
  (refine F_alloc rfl rfl rfl rfl (.none rfl) ?_; intro b3)
  refine F_storeF rfl rfl rfl rfl rfl (by simp [Value.oneCell']) rfl (.none rfl) (.head _ _ _) (Nat.le_of_ble_eq_true rfl) (by simp only [putAll, Nat.zero_add, Nat.reduceAdd, List.setIfInBounds_toArray, List.set_cons_succ, List.set_cons_zero]; rfl) (.cons (by first | exact .refl _ | assumption) (by simp) (.nil)) ?_
  refine F_pure rfl (fun _ _ => V_assign rfl rfl) rfl rfl (.none rfl) ?_
  (refine F_end (.nil _) ?_; dsimp only [List.drop])
  refine G_end ?_
  refine X_then ?_
  refine G_seq ?_
  refine G_drawX 25 [(0, 0), (1, 0), (2, 0), (3, 0), (4, 0), (5, 0), (6, 0), (7, 1), (8, 3), (9, 3), (10, 2), (11, 3), (12, 3), (13, 0), (14, 0), (15, 1), (16, 3), (17, 3), (18, 0), (19, 0), (20, 1), (21, 2), (22, 3), (23, 0), (24, 0)] mixed (by kernel_rfl) ?_
  refine F_pure rfl (fun _ _ => V_move rfl rfl) rfl rfl (.none rfl) ?_
  refine F_pure rfl (fun _ _ => V_eql rfl rfl rfl) rfl rfl (.none rfl) ?_
  refine F_pure rfl (fun _ _ => V_move rfl rfl) rfl rfl (.none rfl) ?_
  refine GF.bool_t 19 rfl (by kernel_rfl) ?_
  refine F_pure rfl (fun _ _ => V_move rfl rfl) rfl rfl (.yes rfl rfl rfl rfl) ?_
  refine F_pure rfl (fun _ _ => V_eql rfl rfl rfl) rfl rfl (.yes rfl rfl rfl rfl) ?_
  refine F_pure rfl (fun _ _ => V_pick_t rfl rfl rfl) rfl rfl (.none rfl) ?_
  refine F_pure rfl (fun _ _ => V_move rfl rfl) rfl rfl (.none rfl) ?_
  refine GF.bool_t 23 rfl (by kernel_rfl) ?_
  refine F_load rfl (.head _) (V_loadA rfl rfl (Cells.own (.head _)) rfl) rfl rfl (.yes rfl rfl rfl rfl) ?_
  refine F_callv (k := 34) rfl (.mk rfl rfl rfl rfl) rfl rfl (.yes rfl rfl rfl rfl) (fun _ => x_call _ _) ?_
  refine F_callv (k := 36) rfl (.mk rfl rfl rfl rfl) rfl rfl (.yes rfl rfl rfl rfl) (fun _ => y_call _ _) ?_
  (refine F_litZ rfl rfl rfl (by decide) (by simp [fillS, zeros, setLs, setL, Value.cells, List.range, List.range.loop]; rfl) (by rfl) rfl rfl (.yes rfl rfl rfl rfl) ?_; intro b27 E27 hE27 hs27)
  replace Z16 := Z16.mono hE27
  replace Z7 := Z7.mono hE27
  replace hnil := hnil.mono hE27
  refine F_callv (k := 33) rfl (.mk rfl rfl rfl rfl) rfl rfl (.yes rfl rfl rfl rfl) (fun _ => of_call _ _ _ _ _) ?_
  refine F_callv (k := 39) rfl (.mk rfl rfl rfl rfl) rfl rfl (.yes rfl rfl rfl rfl) (fun _ => SameRing_call _ _ _ _ _ _ _ _ _ _ _ _ _ _ (by first | assumption | exact SlE.toI (by assumption) rfl | exact SlE.toS (by assumption) rfl | exact SlE.toT (by assumption) rfl | exact SlE.nilT | exact (rfl : (_ : Option _) = some _) | exact .head _ | exact .tail _ (.head _) | exact .tail _ (.tail _ (.head _)) | exact .tail _ (.tail _ (.tail _ (.head _))) | omega | (simp; omega) | (simp; done) | exact (by kernel_rfl : (_ : Bool) = _)) (by first | assumption | exact SlE.toI (by assumption) rfl | exact SlE.toS (by assumption) rfl | exact SlE.toT (by assumption) rfl | exact SlE.nilT | exact (rfl : (_ : Option _) = some _) | exact .head _ | exact .tail _ (.head _) | exact .tail _ (.tail _ (.head _)) | exact .tail _ (.tail _ (.tail _ (.head _))) | omega | (simp; omega) | (simp; done) | exact (by kernel_rfl : (_ : Bool) = _)) (by first | assumption | exact SlE.toI (by assumption) rfl | exact SlE.toS (by assumption) rfl | exact SlE.toT (by assumption) rfl | exact SlE.nilT | exact (rfl : (_ : Option _) = some _) | exact .head _ | exact .tail _ (.head _) | exact .tail _ (.tail _ (.head _)) | exact .tail _ (.tail _ (.tail _ (.head _))) | omega | (simp; omega) | (simp; done) | exact (by kernel_rfl : (_ : Bool) = _)) (by first | assumption | exact SlE.toI (by assumption) rfl | exact SlE.toS (by assumption) rfl | exact SlE.toT (by assumption) rfl | exact SlE.nilT | exact (rfl : (_ : Option _) = some _) | exact .head _ | exact .tail _ (.head _) | exact .tail _ (.tail _ (.head _)) | exact .tail _ (.tail _ (.tail _ (.head _))) | omega | (simp; omega) | (simp; done) | exact (by kernel_rfl : (_ : Bool) = _))) ?_
  refine F_pure rfl (fun _ _ => V_pick_t rfl rfl rfl) rfl rfl (.none rfl) ?_
  refine F_pure rfl (fun _ _ => V_move rfl rfl) rfl rfl (.none rfl) ?_
  refine GF.bool_t 31 rfl (by kernel_rfl) ?_
  refine F_load rfl (.head _) (V_loadA rfl rfl (Cells.own (.head _)) rfl) rfl rfl (.yes rfl rfl rfl rfl) ?_
  refine F_callv (k := 42) rfl (.mk rfl rfl rfl rfl) rfl rfl (.yes rfl rfl rfl rfl) (fun _ => z_call _ _) ?_
  refine F_callv (k := 45) rfl (.mk rfl rfl rfl rfl) rfl rfl (.yes rfl rfl rfl rfl) (fun _ => PutsFull_call _ _ _ _ _ _ _ _ _ _ _ (by first | assumption | exact SlE.toI (by assumption) rfl | exact SlE.toS (by assumption) rfl | exact SlE.toT (by assumption) rfl | exact SlE.nilT | exact (rfl : (_ : Option _) = some _) | exact .head _ | exact .tail _ (.head _) | exact .tail _ (.tail _ (.head _)) | exact .tail _ (.tail _ (.tail _ (.head _))) | omega | (simp; omega) | (simp; done) | exact (by kernel_rfl : (_ : Bool) = _)) (by first | assumption | exact SlE.toI (by assumption) rfl | exact SlE.toS (by assumption) rfl | exact SlE.toT (by assumption) rfl | exact SlE.nilT | exact (rfl : (_ : Option _) = some _) | exact .head _ | exact .tail _ (.head _) | exact .tail _ (.tail _ (.head _)) | exact .tail _ (.tail _ (.tail _ (.head _))) | omega | (simp; omega) | (simp; done) | exact (by kernel_rfl : (_ : Bool) = _)) (by first | assumption | exact SlE.toI (by assumption) rfl | exact SlE.toS (by assumption) rfl | exact SlE.toT (by assumption) rfl | exact SlE.nilT | exact (rfl : (_ : Option _) = some _) | exact .head _ | exact .tail _ (.head _) | exact .tail _ (.tail _ (.head _)) | exact .tail _ (.tail _ (.tail _ (.head _))) | omega | (simp; omega) | (simp; done) | exact (by kernel_rfl : (_ : Bool) = _)) _ (by first | assumption | exact SlE.toI (by assumption) rfl | exact SlE.toS (by assumption) rfl | exact SlE.toT (by assumption) rfl | exact SlE.nilT | exact (rfl : (_ : Option _) = some _) | exact .head _ | exact .tail _ (.head _) | exact .tail _ (.tail _ (.head _)) | exact .tail _ (.tail _ (.tail _ (.head _))) | omega | (simp; omega) | (simp; done) | exact (by kernel_rfl : (_ : Bool) = _)) (by first | assumption | exact SlE.toI (by assumption) rfl | exact SlE.toS (by assumption) rfl | exact SlE.toT (by assumption) rfl | exact SlE.nilT | exact (rfl : (_ : Option _) = some _) | exact .head _ | exact .tail _ (.head _) | exact .tail _ (.tail _ (.head _)) | exact .tail _ (.tail _ (.tail _ (.head _))) | omega | (simp; omega) | (simp; done) | exact (by kernel_rfl : (_ : Bool) = _))) ?_
  refine F_pure rfl (fun _ _ => V_pick_t rfl rfl rfl) rfl rfl (.none rfl) ?_
  refine F_pure rfl (fun _ _ => V_move rfl rfl) rfl rfl (.none rfl) ?_
  refine F_load rfl (.head _) (V_loadA rfl rfl (Cells.own (.head _)) rfl) rfl rfl (.yes rfl rfl rfl rfl) ?_
  (refine F_litZ rfl rfl rfl (by decide) (by simp [fillS, zeros, setLs, setL, Value.cells, List.range, List.range.loop]; rfl) (by rfl) rfl rfl (.yes rfl rfl rfl rfl) ?_; intro b38 E38 hE38 hs38)
  replace hs27 := hs27.mono hE38
  replace Z16 := Z16.mono hE38
  replace Z7 := Z7.mono hE38
  replace hnil := hnil.mono hE38
  refine F_callv (k := 38) rfl (.mk rfl rfl rfl rfl) rfl rfl (.yes rfl rfl rfl rfl) (fun _ => looks_call _ _ _ _ _ _ _ _ _ _ _ _ _ _ (by first | assumption | exact SlE.toI (by assumption) rfl | exact SlE.toS (by assumption) rfl | exact SlE.toT (by assumption) rfl | exact SlE.nilT | exact (rfl : (_ : Option _) = some _) | exact .head _ | exact .tail _ (.head _) | exact .tail _ (.tail _ (.head _)) | exact .tail _ (.tail _ (.tail _ (.head _))) | omega | (simp; omega) | (simp; done) | exact (by kernel_rfl : (_ : Bool) = _)) (by first | assumption | exact SlE.toI (by assumption) rfl | exact SlE.toS (by assumption) rfl | exact SlE.toT (by assumption) rfl | exact SlE.nilT | exact (rfl : (_ : Option _) = some _) | exact .head _ | exact .tail _ (.head _) | exact .tail _ (.tail _ (.head _)) | exact .tail _ (.tail _ (.tail _ (.head _))) | omega | (simp; omega) | (simp; done) | exact (by kernel_rfl : (_ : Bool) = _)) (by first | assumption | exact SlE.toI (by assumption) rfl | exact SlE.toS (by assumption) rfl | exact SlE.toT (by assumption) rfl | exact SlE.nilT | exact (rfl : (_ : Option _) = some _) | exact .head _ | exact .tail _ (.head _) | exact .tail _ (.tail _ (.head _)) | exact .tail _ (.tail _ (.tail _ (.head _))) | omega | (simp; omega) | (simp; done) | exact (by kernel_rfl : (_ : Bool) = _)) (by first | assumption | exact SlE.toI (by assumption) rfl | exact SlE.toS (by assumption) rfl | exact SlE.toT (by assumption) rfl | exact SlE.nilT | exact (rfl : (_ : Option _) = some _) | exact .head _ | exact .tail _ (.head _) | exact .tail _ (.tail _ (.head _)) | exact .tail _ (.tail _ (.tail _ (.head _))) | omega | (simp; omega) | (simp; done) | exact (by kernel_rfl : (_ : Bool) = _)) (by first | assumption | exact SlE.toI (by assumption) rfl | exact SlE.toS (by assumption) rfl | exact SlE.toT (by assumption) rfl | exact SlE.nilT | exact (rfl : (_ : Option _) = some _) | exact .head _ | exact .tail _ (.head _) | exact .tail _ (.tail _ (.head _)) | exact .tail _ (.tail _ (.tail _ (.head _))) | omega | (simp; omega) | (simp; done) | exact (by kernel_rfl : (_ : Bool) = _))) ?_
  refine F_pure rfl (fun _ _ => V_pick_t rfl rfl rfl) rfl rfl (.none rfl) ?_
  refine F_pure rfl (fun _ _ => V_assign rfl rfl) rfl rfl (.none rfl) ?_
  (refine F_end (.nil _) ?_; dsimp only [List.drop])
  refine G_end ?_
  refine X_then ?_
  refine G_ret ?_
  refine G_leaveS (.drop _ (.drop _ (.nil _))) (by exact (.cons (.tmp rfl) (.nil))) rfl ?_ ?_
  · exact (((hE4.trans hE13).trans hE27).trans hE38)
  exact ⟨(by kernel_rfl), rfl⟩
end Go.Proofs.Ytlkfbokdbfnicaa
