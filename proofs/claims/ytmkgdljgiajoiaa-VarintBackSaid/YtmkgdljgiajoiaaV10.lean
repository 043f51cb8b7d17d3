import Derived.Test.YtmkgdljgiajoiaaSep8
import Derived.Test.YtmkgdljgiajoiaaInst
import Derived.Test.YtmkgdljgiajoiaaV7
import Derived.Test.YtmkgdljgiajoiaaV9
set_option linter.unusedSimpArgs false
set_option linter.unusedVariables false
namespace Go.Proofs.Ytmkgdljgiajoiaa
open Go.RowKit

theorem Rl_call (E : Env) (L : List Res) (s : List UInt8) (hs : s.length ≤ 1000000000000) (m : Int) (l : List Nat) (e ea : Nat) (h : vrl s m = (l, e, ea)) (nn : Nat) (hnn : l.length = nn) :
    CallS Try.prog 25 #[.string (S s), .int .i64 m] E L (fun r E' L' => ∃ a c, r = .tuple #[.slice a nn c, .agg #[.int .i64 e, .int .i64 ea]] ∧ SlE E' 1 a nn (u64s l) ∧ L' = L) := by
  have := ReadList_call E L s hs m
  rw [h] at this
  subst hnn
  exact this

set_option maxHeartbeats 600000 in
theorem Known_call (E : Env) (L : List Res) : CallS Try.prog 6 #[] E L (fun r _ L' => r = .bool true ∧ L' = L) := by
  refine CallS.intro (l := []) _ Try.func6 rfl Try.ntmps6 rfl ?_
  refine G_seq ?_
  refine G_region ?_
  refine G_val (V_assign rfl rfl) rfl rfl (.none rfl) ?_
  refine G_end ?_
  refine X_then ?_
  refine G_seq ?_
  refine G_region ?_
  refine G_val (V_assign rfl rfl) rfl rfl (.none rfl) ?_
  refine G_end ?_
  refine X_then ?_
  refine G_seq ?_
  refine G_region ?_
  refine G_callv (k := 19) (.mk rfl rfl rfl rfl) rfl rfl (.none rfl) (CallV.cast (Read_call _ _ [172, 2, 5] (by decide) 3) (r' := .tuple #[.int .u64 0, .int .i64 0, .agg #[.int .i64 5, .int .i64 3]]) (by kernel_rfl)) ?_
  refine G_val (V_move rfl rfl) rfl rfl (.none rfl) ?_
  refine G_val (V_extract rfl rfl rfl) rfl rfl (.none rfl) ?_
  refine G_val (V_extract rfl rfl rfl) rfl rfl (.none rfl) ?_
  refine G_val (V_extract rfl rfl rfl) rfl rfl (.none rfl) ?_
  (refine G_alloc rfl rfl rfl (.none rfl) ?_; intro b4)
  refine G_val (V_assign rfl rfl) rfl rfl (.none rfl) ?_
  refine G_val (V_assign rfl rfl) rfl rfl (.none rfl) ?_
  refine G_storeA rfl rfl rfl rfl (by simp [Value.oneCell']) rfl (.none rfl) (.head _ _ _) rfl ?_
  refine G_end ?_
  refine X_then ?_
  refine G_seq ?_
  refine G_region ?_
  refine G_callv (k := 19) (.mk rfl rfl rfl rfl) rfl rfl (.none rfl) (CallV.cast (Read_call _ _ [172, 2, 5] (by decide) 4) (r' := .tuple #[.int .u64 0, .int .i64 0, .agg #[.int .i64 2, .int .i64 0]]) (by kernel_rfl)) ?_
  refine G_val (V_move rfl rfl) rfl rfl (.none rfl) ?_
  refine G_val (V_extract rfl rfl rfl) rfl rfl (.none rfl) ?_
  refine G_val (V_extract rfl rfl rfl) rfl rfl (.none rfl) ?_
  refine G_val (V_extract rfl rfl rfl) rfl rfl (.none rfl) ?_
  (refine G_alloc rfl rfl rfl (.none rfl) ?_; intro b7)
  refine G_val (V_assign rfl rfl) rfl rfl (.none rfl) ?_
  refine G_val (V_assign rfl rfl) rfl rfl (.none rfl) ?_
  refine G_storeA rfl rfl rfl rfl (by simp [Value.oneCell']) rfl (.none rfl) (.head _ _ _) rfl ?_
  refine G_end ?_
  refine X_then ?_
  refine G_seq ?_
  refine G_region ?_
  refine G_val (V_move rfl rfl) rfl rfl (.none rfl) ?_
  refine G_val (V_cat rfl rfl rfl (by decide)) rfl rfl (.none rfl) ?_
  refine G_callv (k := 21) (.mk rfl rfl rfl rfl) rfl rfl (.none rfl) (CallV.cast (Parse_call _ _ [255, 255, 255, 255, 255, 255, 255, 255, 255, 1] (by decide)) (r' := .tuple #[.int .u64 18446744073709551615, .agg #[.int .i64 0, .int .i64 0]]) (by kernel_rfl)) ?_
  refine G_val (V_move rfl rfl) rfl rfl (.none rfl) ?_
  refine G_val (V_extract rfl rfl rfl) rfl rfl (.none rfl) ?_
  refine G_val (V_extract rfl rfl rfl) rfl rfl (.none rfl) ?_
  (refine G_alloc rfl rfl rfl (.none rfl) ?_; intro b9)
  refine G_val (V_assign rfl rfl) rfl rfl (.none rfl) ?_
  refine G_storeA rfl rfl rfl rfl (by simp [Value.oneCell']) rfl (.none rfl) (.head _ _ _) rfl ?_
  refine G_end ?_
  refine X_then ?_
  refine G_seq ?_
  refine G_region ?_
  refine G_callv (k := 23) (.mk rfl rfl rfl rfl) rfl rfl (.none rfl) (CallV.cast (Bounded_call _ _ [5, 172, 2] (by decide) 1 300) (r' := .tuple #[.int .u64 300, .int .i64 3, .agg #[.int .i64 0, .int .i64 0]]) (by kernel_rfl)) ?_
  refine G_val (V_move rfl rfl) rfl rfl (.none rfl) ?_
  refine G_val (V_extract rfl rfl rfl) rfl rfl (.none rfl) ?_
  refine G_val (V_extract rfl rfl rfl) rfl rfl (.none rfl) ?_
  refine G_val (V_extract rfl rfl rfl) rfl rfl (.none rfl) ?_
  (refine G_alloc rfl rfl rfl (.none rfl) ?_; intro b12)
  refine G_val (V_assign rfl rfl) rfl rfl (.none rfl) ?_
  refine G_val (V_assign rfl rfl) rfl rfl (.none rfl) ?_
  refine G_storeA rfl rfl rfl rfl (by simp [Value.oneCell']) rfl (.none rfl) (.head _ _ _) rfl ?_
  refine G_end ?_
  refine X_then ?_
  refine G_seq ?_
  refine G_region ?_
  refine G_callv (k := 23) (.mk rfl rfl rfl rfl) rfl rfl (.none rfl) (CallV.cast (Bounded_call _ _ [5, 172, 2] (by decide) 1 299) (r' := .tuple #[.int .u64 0, .int .i64 0, .agg #[.int .i64 2, .int .i64 1]]) (by kernel_rfl)) ?_
  refine G_val (V_move rfl rfl) rfl rfl (.none rfl) ?_
  refine G_val (V_extract rfl rfl rfl) rfl rfl (.none rfl) ?_
  refine G_val (V_extract rfl rfl rfl) rfl rfl (.none rfl) ?_
  refine G_val (V_extract rfl rfl rfl) rfl rfl (.none rfl) ?_
  (refine G_alloc rfl rfl rfl (.none rfl) ?_; intro b15)
  refine G_val (V_assign rfl rfl) rfl rfl (.none rfl) ?_
  refine G_val (V_assign rfl rfl) rfl rfl (.none rfl) ?_
  refine G_storeA rfl rfl rfl rfl (by simp [Value.oneCell']) rfl (.none rfl) (.head _ _ _) rfl ?_
  refine G_end ?_
  refine X_then ?_
  refine G_seq ?_
  refine G_region ?_
  refine G_call (k := 25) (.mk rfl rfl rfl rfl) rfl rfl (.none rfl) (Rl_call _ _ [1, 172, 2] (by decide) 2 [1, 300] 0 0 (by kernel_rfl) 2 rfl) ?_
  rintro r E1 L' hE1 ⟨p1, c1, rfl, hs1, rfl⟩
  refine G_val (V_move rfl rfl) rfl rfl (.none rfl) ?_
  refine G_val (V_extract rfl rfl rfl) rfl rfl (.none rfl) ?_
  refine G_val (V_extract rfl rfl rfl) rfl rfl (.none rfl) ?_
  (refine G_alloc rfl rfl rfl (.none rfl) ?_; intro b17)
  refine G_val (V_assign rfl rfl) rfl rfl (.none rfl) ?_
  refine G_storeA rfl rfl rfl rfl (by simp [Value.oneCell']) rfl (.none rfl) (.head _ _ _) rfl ?_
  refine G_end ?_
  refine X_then ?_
  refine G_seq ?_
  refine G_region ?_
  refine G_call (k := 25) (.mk rfl rfl rfl rfl) rfl rfl (.none rfl) (Rl_call _ _ [1, 172, 2] (by decide) 1 [] 4 1 (by kernel_rfl) 0 rfl) ?_
  rintro r E2 L' hE2 ⟨p2, c2, rfl, hs2, rfl⟩
  replace hs1 := hs1.mono hE2
  refine G_val (V_move rfl rfl) rfl rfl (.none rfl) ?_
  refine G_val (V_extract rfl rfl rfl) rfl rfl (.none rfl) ?_
  refine G_val (V_extract rfl rfl rfl) rfl rfl (.none rfl) ?_
  (refine G_alloc rfl rfl rfl (.none rfl) ?_; intro b19)
  refine G_val (V_assign rfl rfl) rfl rfl (.none rfl) ?_
  refine G_storeA rfl rfl rfl rfl (by simp [Value.oneCell']) rfl (.none rfl) (.head _ _ _) rfl ?_
  refine G_end ?_
  refine X_then ?_
  refine G_seq ?_
  refine G_region ?_
  refine G_call (k := 25) (.mk rfl rfl rfl rfl) rfl rfl (.none rfl) (Rl_call _ _ [1, 172, 2] (by decide) 3 [] 5 3 (by kernel_rfl) 0 rfl) ?_
  rintro r E3 L' hE3 ⟨p3, c3, rfl, hs3, rfl⟩
  replace hs1 := hs1.mono hE3
  replace hs2 := hs2.mono hE3
  refine G_val (V_move rfl rfl) rfl rfl (.none rfl) ?_
  refine G_val (V_extract rfl rfl rfl) rfl rfl (.none rfl) ?_
  refine G_val (V_extract rfl rfl rfl) rfl rfl (.none rfl) ?_
  (refine G_alloc rfl rfl rfl (.none rfl) ?_; intro b21)
  refine G_val (V_assign rfl rfl) rfl rfl (.none rfl) ?_
  refine G_storeA rfl rfl rfl rfl (by simp [Value.oneCell']) rfl (.none rfl) (.head _ _ _) rfl ?_
  refine G_end ?_
  refine X_then ?_
  refine G_seq ?_
  refine G_region ?_
  refine G_call (k := 25) (.mk rfl rfl rfl rfl) rfl rfl (.none rfl) (Rl_call _ _ [] (by decide) 0 [] 0 0 (by kernel_rfl) 0 rfl) ?_
  rintro r E4 L' hE4 ⟨p4, c4, rfl, hs4, rfl⟩
  replace hs1 := hs1.mono hE4
  replace hs2 := hs2.mono hE4
  replace hs3 := hs3.mono hE4
  refine G_val (V_move rfl rfl) rfl rfl (.none rfl) ?_
  refine G_val (V_extract rfl rfl rfl) rfl rfl (.none rfl) ?_
  refine G_val (V_extract rfl rfl rfl) rfl rfl (.none rfl) ?_
  (refine G_alloc rfl rfl rfl (.none rfl) ?_; intro b23)
  refine G_val (V_assign rfl rfl) rfl rfl (.none rfl) ?_
  refine G_storeA rfl rfl rfl rfl (by simp [Value.oneCell']) rfl (.none rfl) (.head _ _ _) rfl ?_
  refine G_end ?_
  refine X_then ?_
  refine G_seq ?_
  refine G_region ?_
  refine G_callv (k := 10) (.mk rfl rfl rfl rfl) rfl rfl (.none rfl) (CallV.cast (Bytes_call _ _ 0 (by decide)) (r' := .string (S [0])) (by kernel_rfl)) ?_
  refine G_val (V_seql rfl rfl rfl) rfl rfl (.none rfl) ?_
  refine G_val (V_move rfl rfl) rfl rfl (.none rfl) ?_
  refine G.bool_t 72 rfl (by simp [*]; done) ?_
  refine G_callv (k := 10) (.mk rfl rfl rfl rfl) rfl rfl (.yes rfl rfl rfl rfl) (CallV.cast (Bytes_call _ _ 127 (by decide)) (r' := .string (S [127])) (by kernel_rfl)) ?_
  refine G_val (V_seql rfl rfl rfl) rfl rfl (.yes rfl rfl rfl rfl) ?_
  refine G_val (V_pick_t rfl rfl rfl) rfl rfl (.none rfl) ?_
  refine G_val (V_move rfl rfl) rfl rfl (.none rfl) ?_
  refine G.bool_t 76 rfl (by simp [*]; done) ?_
  refine G_callv (k := 10) (.mk rfl rfl rfl rfl) rfl rfl (.yes rfl rfl rfl rfl) (CallV.cast (Bytes_call _ _ 128 (by decide)) (r' := .string (S [128, 1])) (by kernel_rfl)) ?_
  refine G_val (V_seql rfl rfl rfl) rfl rfl (.yes rfl rfl rfl rfl) ?_
  refine G_val (V_pick_t rfl rfl rfl) rfl rfl (.none rfl) ?_
  refine G_val (V_move rfl rfl) rfl rfl (.none rfl) ?_
  refine G.bool_t 80 rfl (by simp [*]; done) ?_
  refine G_callv (k := 12) (.mk rfl rfl rfl rfl) rfl rfl (.yes rfl rfl rfl rfl) (CallV.cast (Size_call _ _ 18446744073709551615 (by decide)) (r' := .int .i64 10) (by kernel_rfl)) ?_
  refine G_val (V_eql rfl rfl rfl) rfl rfl (.yes rfl rfl rfl rfl) ?_
  refine G_val (V_pick_t rfl rfl rfl) rfl rfl (.none rfl) ?_
  refine G_val (V_assign rfl rfl) rfl rfl (.none rfl) ?_
  refine G_end ?_
  refine X_then ?_
  refine G_seq ?_
  refine G_region ?_
  refine G_callv (k := 29) (.mk rfl rfl rfl rfl) rfl rfl (.none rfl) (CallV.cast (reads_call _ _ [172, 2, 5] (by decide) 2 5 3) (r' := .bool true) (by kernel_rfl)) ?_
  refine G_val (V_move rfl rfl) rfl rfl (.none rfl) ?_
  refine G_val (V_loadA rfl rfl (Cells.own (.tail _ (.tail _ (.tail _ (.tail _ (.tail _ (.tail _ (.tail _ (.tail _ (.head _)))))))))) rfl) rfl rfl (.yes rfl rfl rfl rfl) ?_
  refine G_val (V_build rfl rfl (by simp [fillV, setLs, setL, Value.cells]; rfl)) rfl rfl (.yes rfl rfl rfl rfl) ?_
  refine G_val (V_aeql_31 rfl rfl rfl) rfl rfl (.yes rfl rfl rfl rfl) ?_
  refine G_val (V_pick_t rfl rfl rfl) rfl rfl (.none rfl) ?_
  refine G_val (V_move rfl rfl) rfl rfl (.none rfl) ?_
  refine G_val (V_loadA rfl rfl (Cells.own (.tail _ (.tail _ (.tail _ (.tail _ (.tail _ (.tail _ (.tail _ (.head _))))))))) rfl) rfl rfl (.yes rfl rfl rfl rfl) ?_
  refine G_val (V_build rfl rfl (by simp [fillV, setLs, setL, Value.cells]; rfl)) rfl rfl (.yes rfl rfl rfl rfl) ?_
  refine G_val (V_aeql_31 rfl rfl rfl) rfl rfl (.yes rfl rfl rfl rfl) ?_
  refine G_val (V_pick_t rfl rfl rfl) rfl rfl (.none rfl) ?_
  refine G_val (V_move rfl rfl) rfl rfl (.none rfl) ?_
  refine G.bool_t 95 rfl (decide_eq_true (by omega)) ?_
  refine G_callv (k := 30) (.mk rfl rfl rfl rfl) rfl rfl (.yes rfl rfl rfl rfl) (CallV.cast (isfault_call _ _ [] (by decide) 5 0) (r' := .bool true) (by kernel_rfl)) ?_
  refine G_val (V_pick_t rfl rfl rfl) rfl rfl (.none rfl) ?_
  refine G_val (V_move rfl rfl) rfl rfl (.none rfl) ?_
  refine G.bool_t 98 rfl (by simp [*]; done) ?_
  refine G_callv (k := 30) (.mk rfl rfl rfl rfl) rfl rfl (.yes rfl rfl rfl rfl) (CallV.cast (isfault_call _ _ [5, 6] (by decide) 4 1) (r' := .bool true) (by kernel_rfl)) ?_
  refine G_val (V_pick_t rfl rfl rfl) rfl rfl (.none rfl) ?_
  refine G_val (V_move rfl rfl) rfl rfl (.none rfl) ?_
  refine G_val (V_loadA rfl rfl (Cells.own (.tail _ (.tail _ (.tail _ (.tail _ (.tail _ (.tail _ (.head _)))))))) rfl) rfl rfl (.yes rfl rfl rfl rfl) ?_
  refine G_val (V_build rfl rfl (by simp [fillV, setLs, setL, Value.cells]; rfl)) rfl rfl (.yes rfl rfl rfl rfl) ?_
  refine G_val (V_aeql_31 rfl rfl rfl) rfl rfl (.yes rfl rfl rfl rfl) ?_
  refine G_val (V_pick_t rfl rfl rfl) rfl rfl (.none rfl) ?_
  refine G_val (V_move rfl rfl) rfl rfl (.none rfl) ?_
  refine G_val (V_move rfl rfl) rfl rfl (.yes rfl rfl rfl rfl) ?_
  refine G_val (V_eql rfl rfl rfl) rfl rfl (.yes rfl rfl rfl rfl) ?_
  refine G_val (V_pick_t rfl rfl rfl) rfl rfl (.none rfl) ?_
  refine G_val (V_move rfl rfl) rfl rfl (.none rfl) ?_
  refine G_val (V_move rfl rfl) rfl rfl (.yes rfl rfl rfl rfl) ?_
  refine G_val (V_cat rfl rfl rfl (by decide)) rfl rfl (.yes rfl rfl rfl rfl) ?_
  refine G.bool_t 110 rfl (decide_eq_true (by omega)) ?_
  refine G_callv (k := 30) (.mk rfl rfl rfl rfl) rfl rfl (.yes rfl rfl rfl rfl) (CallV.cast (isfault_call _ _ [255, 255, 255, 255, 255, 255, 255, 255, 255, 2] (by decide) 26 9) (r' := .bool true) (by kernel_rfl)) ?_
  refine G_val (V_pick_t rfl rfl rfl) rfl rfl (.none rfl) ?_
  refine G_val (V_assign rfl rfl) rfl rfl (.none rfl) ?_
  refine G_end ?_
  refine X_then ?_
  refine G_seq ?_
  refine G_region ?_
  refine G_val (V_loadA rfl rfl (Cells.own (.tail _ (.tail _ (.tail _ (.tail _ (.tail _ (.head _))))))) rfl) rfl rfl (.none rfl) ?_
  refine G_val (V_build rfl rfl (by simp [fillV, setLs, setL, Value.cells]; rfl)) rfl rfl (.none rfl) ?_
  refine G_val (V_aeql_31 rfl rfl rfl) rfl rfl (.none rfl) ?_
  refine G_val (V_move rfl rfl) rfl rfl (.none rfl) ?_
  refine G_val (V_move rfl rfl) rfl rfl (.yes rfl rfl rfl rfl) ?_
  refine G_val (V_eql rfl rfl rfl) rfl rfl (.yes rfl rfl rfl rfl) ?_
  refine G_val (V_pick_t rfl rfl rfl) rfl rfl (.none rfl) ?_
  refine G_val (V_move rfl rfl) rfl rfl (.none rfl) ?_
  refine G_val (V_move rfl rfl) rfl rfl (.yes rfl rfl rfl rfl) ?_
  refine G_val (V_eql rfl rfl rfl) rfl rfl (.yes rfl rfl rfl rfl) ?_
  refine G_val (V_pick_t rfl rfl rfl) rfl rfl (.none rfl) ?_
  refine G_val (V_move rfl rfl) rfl rfl (.none rfl) ?_
  refine G_val (V_loadA rfl rfl (Cells.own (.tail _ (.tail _ (.tail _ (.tail _ (.head _)))))) rfl) rfl rfl (.yes rfl rfl rfl rfl) ?_
  refine G_val (V_build rfl rfl (by simp [fillV, setLs, setL, Value.cells]; rfl)) rfl rfl (.yes rfl rfl rfl rfl) ?_
  refine G_val (V_aeql_31 rfl rfl rfl) rfl rfl (.yes rfl rfl rfl rfl) ?_
  refine G_val (V_pick_t rfl rfl rfl) rfl rfl (.none rfl) ?_
  refine G_val (V_assign rfl rfl) rfl rfl (.none rfl) ?_
  refine G_end ?_
  refine X_then ?_
  refine G_seq ?_
  refine G_region ?_
  (refine G_lit2 rfl rfl rfl rfl rfl rfl rfl (.none rfl) ?_; intro b131)
  refine G.freeze (.head _ _) ?_
  intro E5 hE5 hb
  replace hs1 := hs1.mono hE5
  replace hs4 := hs4.mono hE5
  have hsl : SlE E5 1 _ 2 (u64s [1, 300]) := SlE.lit hb rfl
  refine G_callv (k := 27) (.mk rfl rfl rfl rfl) rfl rfl (.none rfl) (CallV.cast (List_call _ _ _ 2 [1, 300] hsl (by decide) (by decide)) (r' := .string (S [1, 172, 2])) (by kernel_rfl)) ?_
  refine G_val (V_seql rfl rfl rfl) rfl rfl (.none rfl) ?_
  refine G_val (V_move rfl rfl) rfl rfl (.none rfl) ?_
  refine G_val (V_loadA rfl rfl (Cells.own (.tail _ (.tail _ (.tail _ (.head _))))) rfl) rfl rfl (.yes rfl rfl rfl rfl) ?_
  refine G_val (V_build rfl rfl (by simp [fillV, setLs, setL, Value.cells]; rfl)) rfl rfl (.yes rfl rfl rfl rfl) ?_
  refine G_val (V_aeql_31 rfl rfl rfl) rfl rfl (.yes rfl rfl rfl rfl) ?_
  refine G_val (V_pick_t rfl rfl rfl) rfl rfl (.none rfl) ?_
  refine G_val (V_move rfl rfl) rfl rfl (.none rfl) ?_
  refine G_val (V_move rfl rfl) rfl rfl (.yes rfl rfl rfl rfl) ?_
  refine G_val (V_lenS rfl rfl) rfl rfl (.yes rfl rfl rfl rfl) ?_
  refine G_val (V_eql rfl rfl rfl) rfl rfl (.yes rfl rfl rfl rfl) ?_
  refine G_val (V_pick_t rfl rfl rfl) rfl rfl (.none rfl) ?_
  refine G_val (V_move rfl rfl) rfl rfl (.none rfl) ?_
  refine G_val (V_move rfl rfl) rfl rfl (.yes rfl rfl rfl rfl) ?_
  refine G_val (V_idxAddr rfl rfl rfl (SlE.rd (by assumption)) (by omega) (by omega)) rfl rfl (.yes rfl rfl rfl rfl) ?_
  refine G.bool_t 144 rfl (decide_eq_true (by omega)) ?_
  refine G_val (V_loadS (k' := 0) (v := .int .u64 1) rfl rfl (SlE.rd hs1) rfl (by simp)) rfl rfl (.yes rfl rfl rfl rfl) ?_
  refine G_val (V_eql rfl rfl rfl) rfl rfl (.yes rfl rfl rfl rfl) ?_
  refine G_val (V_pick_t rfl rfl rfl) rfl rfl (.none rfl) ?_
  refine G_val (V_move rfl rfl) rfl rfl (.none rfl) ?_
  refine G_val (V_move rfl rfl) rfl rfl (.yes rfl rfl rfl rfl) ?_
  refine G_val (V_idxAddr rfl rfl rfl (SlE.rd (by assumption)) (by omega) (by omega)) rfl rfl (.yes rfl rfl rfl rfl) ?_
  refine G.bool_t 150 rfl (decide_eq_true (by omega)) ?_
  refine G_val (V_loadS (k' := 1) (v := .int .u64 300) rfl rfl (SlE.rd hs1) rfl (by simp)) rfl rfl (.yes rfl rfl rfl rfl) ?_
  refine G_val (V_eql rfl rfl rfl) rfl rfl (.yes rfl rfl rfl rfl) ?_
  refine G_val (V_pick_t rfl rfl rfl) rfl rfl (.none rfl) ?_
  refine G_val (V_move rfl rfl) rfl rfl (.none rfl) ?_
  refine G_val (V_loadA rfl rfl (Cells.own (.tail _ (.tail _ (.head _)))) rfl) rfl rfl (.yes rfl rfl rfl rfl) ?_
  refine G_val (V_build rfl rfl (by simp [fillV, setLs, setL, Value.cells]; rfl)) rfl rfl (.yes rfl rfl rfl rfl) ?_
  refine G_val (V_aeql_31 rfl rfl rfl) rfl rfl (.yes rfl rfl rfl rfl) ?_
  refine G_val (V_pick_t rfl rfl rfl) rfl rfl (.none rfl) ?_
  refine G_val (V_move rfl rfl) rfl rfl (.none rfl) ?_
  refine G_val (V_loadA rfl rfl (Cells.own (.tail _ (.head _))) rfl) rfl rfl (.yes rfl rfl rfl rfl) ?_
  refine G_val (V_build rfl rfl (by simp [fillV, setLs, setL, Value.cells]; rfl)) rfl rfl (.yes rfl rfl rfl rfl) ?_
  refine G_val (V_aeql_31 rfl rfl rfl) rfl rfl (.yes rfl rfl rfl rfl) ?_
  refine G_val (V_pick_t rfl rfl rfl) rfl rfl (.none rfl) ?_
  refine G_val (V_move rfl rfl) rfl rfl (.none rfl) ?_
  refine G_val (V_loadA rfl rfl (Cells.own (.head _)) rfl) rfl rfl (.yes rfl rfl rfl rfl) ?_
  refine G_val (V_build rfl rfl (by simp [fillV, setLs, setL, Value.cells]; rfl)) rfl rfl (.yes rfl rfl rfl rfl) ?_
  refine G_val (V_aeql_31 rfl rfl rfl) rfl rfl (.yes rfl rfl rfl rfl) ?_
  refine G_val (V_pick_t rfl rfl rfl) rfl rfl (.none rfl) ?_
  refine G_val (V_move rfl rfl) rfl rfl (.none rfl) ?_
  refine G_val (V_move rfl rfl) rfl rfl (.yes rfl rfl rfl rfl) ?_
  refine G_val (V_lenS rfl rfl) rfl rfl (.yes rfl rfl rfl rfl) ?_
  refine G_val (V_eql rfl rfl rfl) rfl rfl (.yes rfl rfl rfl rfl) ?_
  refine G_val (V_pick_t rfl rfl rfl) rfl rfl (.none rfl) ?_
  refine G_val (V_assign rfl rfl) rfl rfl (.none rfl) ?_
  refine G_end ?_
  refine X_then ?_
  refine G_seq ?_
  refine G_region ?_
  refine G_callv (k := 18) (.mk rfl rfl rfl rfl) rfl rfl (.none rfl) (CallV.cast (awake_call _ _) (r' := .bool true) (by kernel_rfl)) ?_
  refine G_val (V_move rfl rfl) rfl rfl (.none rfl) ?_
  refine G_val (V_move rfl rfl) rfl rfl (.yes rfl rfl rfl rfl) ?_
  refine G_val (V_pick_t rfl rfl rfl) rfl rfl (.none rfl) ?_
  refine G_val (V_move rfl rfl) rfl rfl (.none rfl) ?_
  refine G_val (V_move rfl rfl) rfl rfl (.yes rfl rfl rfl rfl) ?_
  refine G_val (V_pick_t rfl rfl rfl) rfl rfl (.none rfl) ?_
  refine G_val (V_move rfl rfl) rfl rfl (.none rfl) ?_
  refine G_val (V_move rfl rfl) rfl rfl (.yes rfl rfl rfl rfl) ?_
  refine G_val (V_pick_t rfl rfl rfl) rfl rfl (.none rfl) ?_
  refine G_val (V_move rfl rfl) rfl rfl (.none rfl) ?_
  refine G_val (V_move rfl rfl) rfl rfl (.yes rfl rfl rfl rfl) ?_
  refine G_val (V_pick_t rfl rfl rfl) rfl rfl (.none rfl) ?_
  refine G_val (V_move rfl rfl) rfl rfl (.none rfl) ?_
  refine G.bool_t 189 rfl (decide_eq_true (by omega)) ?_
  refine G_callv (k := 14) (.mk rfl rfl rfl rfl) rfl rfl (.yes rfl rfl rfl rfl) (CallV.cast (Zigzag_call _ _ 0 (by decide) (by decide)) (r' := .int .u64 0) (by kernel_rfl)) ?_
  refine G_val (V_eql rfl rfl rfl) rfl rfl (.yes rfl rfl rfl rfl) ?_
  refine G_val (V_pick_t rfl rfl rfl) rfl rfl (.none rfl) ?_
  refine G_val (V_move rfl rfl) rfl rfl (.none rfl) ?_
  refine G.bool_t 193 rfl (decide_eq_true (by omega)) ?_
  refine G_callv (k := 14) (.mk rfl rfl rfl rfl) rfl rfl (.yes rfl rfl rfl rfl) (CallV.cast (Zigzag_call _ _ 1 (by decide) (by decide)) (r' := .int .u64 2) (by kernel_rfl)) ?_
  refine G_val (V_eql rfl rfl rfl) rfl rfl (.yes rfl rfl rfl rfl) ?_
  refine G_val (V_pick_t rfl rfl rfl) rfl rfl (.none rfl) ?_
  refine G_val (V_move rfl rfl) rfl rfl (.none rfl) ?_
  refine G.bool_t 197 rfl (decide_eq_true (by omega)) ?_
  refine G_callv (k := 14) (.mk rfl rfl rfl rfl) rfl rfl (.yes rfl rfl rfl rfl) (CallV.cast (Zigzag_call _ _ (-9223372036854775808) (by decide) (by decide)) (r' := .int .u64 18446744073709551615) (by kernel_rfl)) ?_
  refine G_val (V_eql rfl rfl rfl) rfl rfl (.yes rfl rfl rfl rfl) ?_
  refine G_val (V_pick_t rfl rfl rfl) rfl rfl (.none rfl) ?_
  refine G_val (V_assign rfl rfl) rfl rfl (.none rfl) ?_
  refine G_end ?_
  refine X_then ?_
  refine G_ret ?_
  refine G_leave 9 (by exact (.cons (.tmp rfl) (.nil))) rfl ?_ ?_
  · exact hE1.trans (hE2.trans (hE3.trans (hE4.trans hE5)))
  · exact ⟨rfl, rfl⟩
end Go.Proofs.Ytmkgdljgiajoiaa
