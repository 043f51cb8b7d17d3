/-
  Rules and contracts, packed: S29, Sep42, S35.
-/
import Derived.Test.YtaibabmladgldaaGreatDoorQ10
set_option maxHeartbeats 1000000
set_option linter.unusedSimpArgs false
set_option linter.unusedVariables false
set_option maxHeartbeats 2000000
set_option maxRecDepth 20000
namespace Go.Proofs.YtaibabmladgldaaGreatDoor
open Go.RowKit
/-! The law StackKnown. -/
section
variable (E : Env) (L : List Res)
theorem StackKnown_call (hT : LaidS E) : CallS Tryz.prog 4 #[] E L (fun r E' L' => r = .bool true ∧ L' = L) := by
  refine CallS.intro (l := []) _ Tryz.func4 rfl Tryz.ntmps4 rfl ?_
  refine G_seq (G_region ?_)
  refine Ga ?_
  refine G_end (X_then (G_seq (G_region ?_)))
  refine G_call (k := 12) (.mk rfl rfl rfl rfl) rfl rfl (.none rfl) (shown25_call' _ _) ?_
  rintro r1 E2 L3 hE4 ⟨Z5, rfl⟩
  replace hT := hT.mono hE4
  refine G_call (k := 11) (.mk rfl rfl rfl rfl) rfl rfl (.none rfl) (kpush1 _ _ _ (by assumption)) ?_
  rintro r6 E7 L8 hE9 ⟨z10, ⟨z11, ⟨z12, ⟨rfl, ⟨Z13, ⟨Z14, rfl⟩⟩⟩⟩⟩⟩
  replace Z5 := Z5.mono hE9
  replace hT := hT.mono hE9
  refine Gm ?_
  refine Gv (V_extract rfl rfl rfl) ?_
  refine Gv (V_extract rfl rfl rfl) ?_
  refine Ga ?_
  refine Ga ?_
  refine G_end (X_then (G_seq (G_region ?_)))
  refine G_call (k := 12) (.mk rfl rfl rfl rfl) rfl rfl (.none rfl) (shown25_call' _ _) ?_
  rintro r15 E16 L17 hE18 ⟨Z19, rfl⟩
  replace Z13 := Z13.mono hE18
  replace Z5 := Z5.mono hE18
  replace hT := hT.mono hE18
  refine G_call (k := 11) (.mk rfl rfl rfl rfl) rfl rfl (.none rfl) (kpush2 _ _ _ (by assumption)) ?_
  rintro r20 E21 L22 hE23 ⟨z24, ⟨z25, ⟨z26, ⟨rfl, ⟨Z27, ⟨Z28, rfl⟩⟩⟩⟩⟩⟩
  replace Z19 := Z19.mono hE23
  replace Z13 := Z13.mono hE23
  replace Z5 := Z5.mono hE23
  replace hT := hT.mono hE23
  refine Gm ?_
  refine Gv (V_extract rfl rfl rfl) ?_
  refine Gv (V_extract rfl rfl rfl) ?_
  refine Ga ?_
  refine Ga ?_
  refine G_end (X_then (G_seq (G_region ?_)))
  refine G_call (k := 12) (.mk rfl rfl rfl rfl) rfl rfl (.none rfl) (shown25_call' _ _) ?_
  rintro r29 E30 L31 hE32 ⟨Z33, rfl⟩
  replace Z27 := Z27.mono hE32
  replace Z19 := Z19.mono hE32
  replace Z13 := Z13.mono hE32
  replace Z5 := Z5.mono hE32
  replace hT := hT.mono hE32
  (refine G_litZ rfl rfl (by decide) (by simp [fillS, zeros, setLs, setL, Value.cells, List.range, List.range.loop]; rfl) (by rfl) rfl rfl (.none rfl) ?_; intro b38 E38 hE38 hs38)
  replace Z33 := Z33.mono hE38
  replace Z27 := Z27.mono hE38
  replace Z19 := Z19.mono hE38
  replace Z13 := Z13.mono hE38
  replace Z5 := Z5.mono hE38
  replace hT := hT.mono hE38
  refine G_call (k := 13) (.mk rfl rfl rfl rfl) rfl rfl (.none rfl) (of_call' _ _ _ _ _ _ (by exact SlE.toI (by assumption) rfl) (by omega)) ?_
  rintro r34 E35 L36 hE37 ⟨z38, ⟨z39, ⟨z40, ⟨rfl, ⟨Z41, ⟨Z42, ⟨Z43, rfl⟩⟩⟩⟩⟩⟩⟩
  replace hs38 := hs38.mono hE37
  replace Z33 := Z33.mono hE37
  replace Z27 := Z27.mono hE37
  replace Z19 := Z19.mono hE37
  replace Z13 := Z13.mono hE37
  replace Z5 := Z5.mono hE37
  replace hT := hT.mono hE37
  refine G_call (k := 11) (.mk rfl rfl rfl rfl) rfl rfl (.none rfl) (kpush3 _ _ _ (by assumption) _ _ _ (by assumption) (by assumption)) ?_
  rintro r44 E45 L46 hE47 ⟨z48, ⟨z49, ⟨z50, ⟨rfl, ⟨Z51, ⟨Z52, rfl⟩⟩⟩⟩⟩⟩
  replace Z41 := Z41.mono hE47
  replace hs38 := hs38.mono hE47
  replace Z33 := Z33.mono hE47
  replace Z27 := Z27.mono hE47
  replace Z19 := Z19.mono hE47
  replace Z13 := Z13.mono hE47
  replace Z5 := Z5.mono hE47
  replace hT := hT.mono hE47
  refine Gm ?_
  refine Gv (V_extract rfl rfl rfl) ?_
  refine Gv (V_extract rfl rfl rfl) ?_
  refine Ga ?_
  refine Ga ?_
  refine G_end (X_then (G_seq (G_region ?_)))
  refine G_call (k := 12) (.mk rfl rfl rfl rfl) rfl rfl (.none rfl) (shown25_call' _ _) ?_
  rintro r53 E54 L55 hE56 ⟨Z57, rfl⟩
  replace Z51 := Z51.mono hE56
  replace Z41 := Z41.mono hE56
  replace hs38 := hs38.mono hE56
  replace Z33 := Z33.mono hE56
  replace Z27 := Z27.mono hE56
  replace Z19 := Z19.mono hE56
  replace Z13 := Z13.mono hE56
  replace Z5 := Z5.mono hE56
  replace hT := hT.mono hE56
  (refine G_litZ rfl rfl (by decide) (by simp [fillS, zeros, setLs, setL, Value.cells, List.range, List.range.loop]; rfl) (by rfl) rfl rfl (.none rfl) ?_; intro b45 E45 hE45 hs45)
  replace Z57 := Z57.mono hE45
  replace Z51 := Z51.mono hE45
  replace Z41 := Z41.mono hE45
  replace hs38 := hs38.mono hE45
  replace Z33 := Z33.mono hE45
  replace Z27 := Z27.mono hE45
  replace Z19 := Z19.mono hE45
  replace Z13 := Z13.mono hE45
  replace Z5 := Z5.mono hE45
  replace hT := hT.mono hE45
  refine G_call (k := 13) (.mk rfl rfl rfl rfl) rfl rfl (.none rfl) (of_call' _ _ _ _ _ _ (by exact SlE.toI (by assumption) rfl) (by omega)) ?_
  rintro r58 E59 L60 hE61 ⟨z62, ⟨z63, ⟨z64, ⟨rfl, ⟨Z65, ⟨Z66, ⟨Z67, rfl⟩⟩⟩⟩⟩⟩⟩
  replace hs45 := hs45.mono hE61
  replace Z57 := Z57.mono hE61
  replace Z51 := Z51.mono hE61
  replace Z41 := Z41.mono hE61
  replace hs38 := hs38.mono hE61
  replace Z33 := Z33.mono hE61
  replace Z27 := Z27.mono hE61
  replace Z19 := Z19.mono hE61
  replace Z13 := Z13.mono hE61
  replace Z5 := Z5.mono hE61
  replace hT := hT.mono hE61
  refine G_call (k := 14) (.mk rfl rfl rfl rfl) rfl rfl (.none rfl) (kmove1 _ _ _ (by assumption) _ _ _ (by assumption) (by assumption)) ?_
  rintro r68 E69 L70 hE71 ⟨z72, ⟨z73, ⟨z74, ⟨rfl, ⟨Z75, ⟨Z76, rfl⟩⟩⟩⟩⟩⟩
  replace Z65 := Z65.mono hE71
  replace hs45 := hs45.mono hE71
  replace Z57 := Z57.mono hE71
  replace Z51 := Z51.mono hE71
  replace Z41 := Z41.mono hE71
  replace hs38 := hs38.mono hE71
  replace Z33 := Z33.mono hE71
  replace Z27 := Z27.mono hE71
  replace Z19 := Z19.mono hE71
  replace Z13 := Z13.mono hE71
  replace Z5 := Z5.mono hE71
  replace hT := hT.mono hE71
  refine Gm ?_
  refine Gv (V_extract rfl rfl rfl) ?_
  refine Gv (V_extract rfl rfl rfl) ?_
  refine Ga ?_
  refine Ga ?_
  refine G_end (X_then (G_seq (G_region ?_)))
  refine G_call (k := 12) (.mk rfl rfl rfl rfl) rfl rfl (.none rfl) (shown25_call' _ _) ?_
  rintro r77 E78 L79 hE80 ⟨Z81, rfl⟩
  replace Z75 := Z75.mono hE80
  replace Z65 := Z65.mono hE80
  replace hs45 := hs45.mono hE80
  replace Z57 := Z57.mono hE80
  replace Z51 := Z51.mono hE80
  replace Z41 := Z41.mono hE80
  replace hs38 := hs38.mono hE80
  replace Z33 := Z33.mono hE80
  replace Z27 := Z27.mono hE80
  replace Z19 := Z19.mono hE80
  replace Z13 := Z13.mono hE80
  replace Z5 := Z5.mono hE80
  replace hT := hT.mono hE80
  (refine G_litZ rfl rfl (by decide) (by simp [fillS, zeros, setLs, setL, Value.cells, List.range, List.range.loop]; rfl) (by rfl) rfl rfl (.none rfl) ?_; intro b52 E52 hE52 hs52)
  replace Z81 := Z81.mono hE52
  replace Z75 := Z75.mono hE52
  replace Z65 := Z65.mono hE52
  replace hs45 := hs45.mono hE52
  replace Z57 := Z57.mono hE52
  replace Z51 := Z51.mono hE52
  replace Z41 := Z41.mono hE52
  replace hs38 := hs38.mono hE52
  replace Z33 := Z33.mono hE52
  replace Z27 := Z27.mono hE52
  replace Z19 := Z19.mono hE52
  replace Z13 := Z13.mono hE52
  replace Z5 := Z5.mono hE52
  replace hT := hT.mono hE52
  refine G_call (k := 13) (.mk rfl rfl rfl rfl) rfl rfl (.none rfl) (of_call' _ _ _ _ _ _ (by exact SlE.toI (by assumption) rfl) (by omega)) ?_
  rintro r82 E83 L84 hE85 ⟨z86, ⟨z87, ⟨z88, ⟨rfl, ⟨Z89, ⟨Z90, ⟨Z91, rfl⟩⟩⟩⟩⟩⟩⟩
  replace hs52 := hs52.mono hE85
  replace Z81 := Z81.mono hE85
  replace Z75 := Z75.mono hE85
  replace Z65 := Z65.mono hE85
  replace hs45 := hs45.mono hE85
  replace Z57 := Z57.mono hE85
  replace Z51 := Z51.mono hE85
  replace Z41 := Z41.mono hE85
  replace hs38 := hs38.mono hE85
  replace Z33 := Z33.mono hE85
  replace Z27 := Z27.mono hE85
  replace Z19 := Z19.mono hE85
  replace Z13 := Z13.mono hE85
  replace Z5 := Z5.mono hE85
  replace hT := hT.mono hE85
  refine G_call (k := 14) (.mk rfl rfl rfl rfl) rfl rfl (.none rfl) (kmove2 _ _ _ (by assumption) _ _ _ (by assumption) (by assumption)) ?_
  rintro r92 E93 L94 hE95 ⟨z96, ⟨z97, ⟨z98, ⟨rfl, ⟨Z99, ⟨Z100, rfl⟩⟩⟩⟩⟩⟩
  replace Z89 := Z89.mono hE95
  replace hs52 := hs52.mono hE95
  replace Z81 := Z81.mono hE95
  replace Z75 := Z75.mono hE95
  replace Z65 := Z65.mono hE95
  replace hs45 := hs45.mono hE95
  replace Z57 := Z57.mono hE95
  replace Z51 := Z51.mono hE95
  replace Z41 := Z41.mono hE95
  replace hs38 := hs38.mono hE95
  replace Z33 := Z33.mono hE95
  replace Z27 := Z27.mono hE95
  replace Z19 := Z19.mono hE95
  replace Z13 := Z13.mono hE95
  replace Z5 := Z5.mono hE95
  replace hT := hT.mono hE95
  refine Gm ?_
  refine Gv (V_extract rfl rfl rfl) ?_
  refine Gv (V_extract rfl rfl rfl) ?_
  refine Ga ?_
  refine Ga ?_
  refine G_end (X_then (G_seq (G_region ?_)))
  refine G_call (k := 12) (.mk rfl rfl rfl rfl) rfl rfl (.none rfl) (shown25_call' _ _) ?_
  rintro r101 E102 L103 hE104 ⟨Z105, rfl⟩
  replace Z99 := Z99.mono hE104
  replace Z89 := Z89.mono hE104
  replace hs52 := hs52.mono hE104
  replace Z81 := Z81.mono hE104
  replace Z75 := Z75.mono hE104
  replace Z65 := Z65.mono hE104
  replace hs45 := hs45.mono hE104
  replace Z57 := Z57.mono hE104
  replace Z51 := Z51.mono hE104
  replace Z41 := Z41.mono hE104
  replace hs38 := hs38.mono hE104
  replace Z33 := Z33.mono hE104
  replace Z27 := Z27.mono hE104
  replace Z19 := Z19.mono hE104
  replace Z13 := Z13.mono hE104
  replace Z5 := Z5.mono hE104
  replace hT := hT.mono hE104
  (refine G_litZ rfl rfl (by decide) (by simp [fillS, zeros, setLs, setL, Value.cells, List.range, List.range.loop]; rfl) (by rfl) rfl rfl (.none rfl) ?_; intro b59 E59 hE59 hs59)
  replace Z105 := Z105.mono hE59
  replace Z99 := Z99.mono hE59
  replace Z89 := Z89.mono hE59
  replace hs52 := hs52.mono hE59
  replace Z81 := Z81.mono hE59
  replace Z75 := Z75.mono hE59
  replace Z65 := Z65.mono hE59
  replace hs45 := hs45.mono hE59
  replace Z57 := Z57.mono hE59
  replace Z51 := Z51.mono hE59
  replace Z41 := Z41.mono hE59
  replace hs38 := hs38.mono hE59
  replace Z33 := Z33.mono hE59
  replace Z27 := Z27.mono hE59
  replace Z19 := Z19.mono hE59
  replace Z13 := Z13.mono hE59
  replace Z5 := Z5.mono hE59
  replace hT := hT.mono hE59
  refine G_call (k := 13) (.mk rfl rfl rfl rfl) rfl rfl (.none rfl) (of_call' _ _ _ _ _ _ (by exact SlE.toI (by assumption) rfl) (by omega)) ?_
  rintro r106 E107 L108 hE109 ⟨z110, ⟨z111, ⟨z112, ⟨rfl, ⟨Z113, ⟨Z114, ⟨Z115, rfl⟩⟩⟩⟩⟩⟩⟩
  replace hs59 := hs59.mono hE109
  replace Z105 := Z105.mono hE109
  replace Z99 := Z99.mono hE109
  replace Z89 := Z89.mono hE109
  replace hs52 := hs52.mono hE109
  replace Z81 := Z81.mono hE109
  replace Z75 := Z75.mono hE109
  replace Z65 := Z65.mono hE109
  replace hs45 := hs45.mono hE109
  replace Z57 := Z57.mono hE109
  replace Z51 := Z51.mono hE109
  replace Z41 := Z41.mono hE109
  replace hs38 := hs38.mono hE109
  replace Z33 := Z33.mono hE109
  replace Z27 := Z27.mono hE109
  replace Z19 := Z19.mono hE109
  replace Z13 := Z13.mono hE109
  replace Z5 := Z5.mono hE109
  replace hT := hT.mono hE109
  refine G_call (k := 15) (.mk rfl rfl rfl rfl) rfl rfl (.none rfl) (kpop1 _ _ _ (by assumption) _ _ _ (by assumption) (by assumption)) ?_
  rintro r116 E117 L118 hE119 ⟨z120, ⟨z121, ⟨z122, ⟨rfl, ⟨Z123, ⟨Z124, rfl⟩⟩⟩⟩⟩⟩
  replace Z113 := Z113.mono hE119
  replace hs59 := hs59.mono hE119
  replace Z105 := Z105.mono hE119
  replace Z99 := Z99.mono hE119
  replace Z89 := Z89.mono hE119
  replace hs52 := hs52.mono hE119
  replace Z81 := Z81.mono hE119
  replace Z75 := Z75.mono hE119
  replace Z65 := Z65.mono hE119
  replace hs45 := hs45.mono hE119
  replace Z57 := Z57.mono hE119
  replace Z51 := Z51.mono hE119
  replace Z41 := Z41.mono hE119
  replace hs38 := hs38.mono hE119
  replace Z33 := Z33.mono hE119
  replace Z27 := Z27.mono hE119
  replace Z19 := Z19.mono hE119
  replace Z13 := Z13.mono hE119
  replace Z5 := Z5.mono hE119
  replace hT := hT.mono hE119
  refine Gm ?_
  refine Gv (V_extract rfl rfl rfl) ?_
  refine Gv (V_extract rfl rfl rfl) ?_
  refine Ga ?_
  refine Ga ?_
  refine G_end (X_then (G_seq (G_region ?_)))
  refine G_call (k := 12) (.mk rfl rfl rfl rfl) rfl rfl (.none rfl) (shown25_call' _ _) ?_
  rintro r125 E126 L127 hE128 ⟨Z129, rfl⟩
  replace Z123 := Z123.mono hE128
  replace Z113 := Z113.mono hE128
  replace hs59 := hs59.mono hE128
  replace Z105 := Z105.mono hE128
  replace Z99 := Z99.mono hE128
  replace Z89 := Z89.mono hE128
  replace hs52 := hs52.mono hE128
  replace Z81 := Z81.mono hE128
  replace Z75 := Z75.mono hE128
  replace Z65 := Z65.mono hE128
  replace hs45 := hs45.mono hE128
  replace Z57 := Z57.mono hE128
  replace Z51 := Z51.mono hE128
  replace Z41 := Z41.mono hE128
  replace hs38 := hs38.mono hE128
  replace Z33 := Z33.mono hE128
  replace Z27 := Z27.mono hE128
  replace Z19 := Z19.mono hE128
  replace Z13 := Z13.mono hE128
  replace Z5 := Z5.mono hE128
  replace hT := hT.mono hE128
  (refine G_litZ rfl rfl (by decide) (by simp [fillS, zeros, setLs, setL, Value.cells, List.range, List.range.loop]; rfl) (by rfl) rfl rfl (.none rfl) ?_; intro b66 E66 hE66 hs66)
  replace Z129 := Z129.mono hE66
  replace Z123 := Z123.mono hE66
  replace Z113 := Z113.mono hE66
  replace hs59 := hs59.mono hE66
  replace Z105 := Z105.mono hE66
  replace Z99 := Z99.mono hE66
  replace Z89 := Z89.mono hE66
  replace hs52 := hs52.mono hE66
  replace Z81 := Z81.mono hE66
  replace Z75 := Z75.mono hE66
  replace Z65 := Z65.mono hE66
  replace hs45 := hs45.mono hE66
  replace Z57 := Z57.mono hE66
  replace Z51 := Z51.mono hE66
  replace Z41 := Z41.mono hE66
  replace hs38 := hs38.mono hE66
  replace Z33 := Z33.mono hE66
  replace Z27 := Z27.mono hE66
  replace Z19 := Z19.mono hE66
  replace Z13 := Z13.mono hE66
  replace Z5 := Z5.mono hE66
  replace hT := hT.mono hE66
  refine G_call (k := 13) (.mk rfl rfl rfl rfl) rfl rfl (.none rfl) (of_call' _ _ _ _ _ _ (by exact SlE.toI (by assumption) rfl) (by omega)) ?_
  rintro r130 E131 L132 hE133 ⟨z134, ⟨z135, ⟨z136, ⟨rfl, ⟨Z137, ⟨Z138, ⟨Z139, rfl⟩⟩⟩⟩⟩⟩⟩
  replace hs66 := hs66.mono hE133
  replace Z129 := Z129.mono hE133
  replace Z123 := Z123.mono hE133
  replace Z113 := Z113.mono hE133
  replace hs59 := hs59.mono hE133
  replace Z105 := Z105.mono hE133
  replace Z99 := Z99.mono hE133
  replace Z89 := Z89.mono hE133
  replace hs52 := hs52.mono hE133
  replace Z81 := Z81.mono hE133
  replace Z75 := Z75.mono hE133
  replace Z65 := Z65.mono hE133
  replace hs45 := hs45.mono hE133
  replace Z57 := Z57.mono hE133
  replace Z51 := Z51.mono hE133
  replace Z41 := Z41.mono hE133
  replace hs38 := hs38.mono hE133
  replace Z33 := Z33.mono hE133
  replace Z27 := Z27.mono hE133
  replace Z19 := Z19.mono hE133
  replace Z13 := Z13.mono hE133
  replace Z5 := Z5.mono hE133
  replace hT := hT.mono hE133
  refine G_call (k := 15) (.mk rfl rfl rfl rfl) rfl rfl (.none rfl) (kpop2 _ _ _ (by assumption) _ _ _ (by assumption) (by assumption)) ?_
  rintro r140 E141 L142 hE143 ⟨z144, ⟨z145, ⟨rfl, ⟨Z146, rfl⟩⟩⟩⟩
  replace Z137 := Z137.mono hE143
  replace hs66 := hs66.mono hE143
  replace Z129 := Z129.mono hE143
  replace Z123 := Z123.mono hE143
  replace Z113 := Z113.mono hE143
  replace hs59 := hs59.mono hE143
  replace Z105 := Z105.mono hE143
  replace Z99 := Z99.mono hE143
  replace Z89 := Z89.mono hE143
  replace hs52 := hs52.mono hE143
  replace Z81 := Z81.mono hE143
  replace Z75 := Z75.mono hE143
  replace Z65 := Z65.mono hE143
  replace hs45 := hs45.mono hE143
  replace Z57 := Z57.mono hE143
  replace Z51 := Z51.mono hE143
  replace Z41 := Z41.mono hE143
  replace hs38 := hs38.mono hE143
  replace Z33 := Z33.mono hE143
  replace Z27 := Z27.mono hE143
  replace Z19 := Z19.mono hE143
  replace Z13 := Z13.mono hE143
  replace Z5 := Z5.mono hE143
  replace hT := hT.mono hE143
  refine Gm ?_
  refine Gv (V_extract rfl rfl rfl) ?_
  refine Gv (V_extract rfl rfl rfl) ?_
  refine Ga ?_
  refine Ga ?_
  refine G_end (X_then (G_seq (G_region ?_)))
  refine G_call (k := 12) (.mk rfl rfl rfl rfl) rfl rfl (.none rfl) (shown25_call' _ _) ?_
  rintro r147 E148 L149 hE150 ⟨Z151, rfl⟩
  replace Z146 := Z146.mono hE150
  replace Z137 := Z137.mono hE150
  replace hs66 := hs66.mono hE150
  replace Z129 := Z129.mono hE150
  replace Z123 := Z123.mono hE150
  replace Z113 := Z113.mono hE150
  replace hs59 := hs59.mono hE150
  replace Z105 := Z105.mono hE150
  replace Z99 := Z99.mono hE150
  replace Z89 := Z89.mono hE150
  replace hs52 := hs52.mono hE150
  replace Z81 := Z81.mono hE150
  replace Z75 := Z75.mono hE150
  replace Z65 := Z65.mono hE150
  replace hs45 := hs45.mono hE150
  replace Z57 := Z57.mono hE150
  replace Z51 := Z51.mono hE150
  replace Z41 := Z41.mono hE150
  replace hs38 := hs38.mono hE150
  replace Z33 := Z33.mono hE150
  replace Z27 := Z27.mono hE150
  replace Z19 := Z19.mono hE150
  replace Z13 := Z13.mono hE150
  replace Z5 := Z5.mono hE150
  replace hT := hT.mono hE150
  (refine G_litZ rfl rfl (by decide) (by simp [fillS, zeros, setLs, setL, Value.cells, List.range, List.range.loop]; rfl) (by rfl) rfl rfl (.none rfl) ?_; intro b73 E73 hE73 hs73)
  replace Z151 := Z151.mono hE73
  replace Z146 := Z146.mono hE73
  replace Z137 := Z137.mono hE73
  replace hs66 := hs66.mono hE73
  replace Z129 := Z129.mono hE73
  replace Z123 := Z123.mono hE73
  replace Z113 := Z113.mono hE73
  replace hs59 := hs59.mono hE73
  replace Z105 := Z105.mono hE73
  replace Z99 := Z99.mono hE73
  replace Z89 := Z89.mono hE73
  replace hs52 := hs52.mono hE73
  replace Z81 := Z81.mono hE73
  replace Z75 := Z75.mono hE73
  replace Z65 := Z65.mono hE73
  replace hs45 := hs45.mono hE73
  replace Z57 := Z57.mono hE73
  replace Z51 := Z51.mono hE73
  replace Z41 := Z41.mono hE73
  replace hs38 := hs38.mono hE73
  replace Z33 := Z33.mono hE73
  replace Z27 := Z27.mono hE73
  replace Z19 := Z19.mono hE73
  replace Z13 := Z13.mono hE73
  replace Z5 := Z5.mono hE73
  replace hT := hT.mono hE73
  refine G_call (k := 13) (.mk rfl rfl rfl rfl) rfl rfl (.none rfl) (of_call' _ _ _ _ _ _ (by exact SlE.toI (by assumption) rfl) (by omega)) ?_
  rintro r152 E153 L154 hE155 ⟨z156, ⟨z157, ⟨z158, ⟨rfl, ⟨Z159, ⟨Z160, ⟨Z161, rfl⟩⟩⟩⟩⟩⟩⟩
  replace hs73 := hs73.mono hE155
  replace Z151 := Z151.mono hE155
  replace Z146 := Z146.mono hE155
  replace Z137 := Z137.mono hE155
  replace hs66 := hs66.mono hE155
  replace Z129 := Z129.mono hE155
  replace Z123 := Z123.mono hE155
  replace Z113 := Z113.mono hE155
  replace hs59 := hs59.mono hE155
  replace Z105 := Z105.mono hE155
  replace Z99 := Z99.mono hE155
  replace Z89 := Z89.mono hE155
  replace hs52 := hs52.mono hE155
  replace Z81 := Z81.mono hE155
  replace Z75 := Z75.mono hE155
  replace Z65 := Z65.mono hE155
  replace hs45 := hs45.mono hE155
  replace Z57 := Z57.mono hE155
  replace Z51 := Z51.mono hE155
  replace Z41 := Z41.mono hE155
  replace hs38 := hs38.mono hE155
  replace Z33 := Z33.mono hE155
  replace Z27 := Z27.mono hE155
  replace Z19 := Z19.mono hE155
  replace Z13 := Z13.mono hE155
  replace Z5 := Z5.mono hE155
  replace hT := hT.mono hE155
  refine G_call (k := 15) (.mk rfl rfl rfl rfl) rfl rfl (.none rfl) (kpop3 _ _ _ (by assumption) _ _ _ (by assumption) (by assumption)) ?_
  rintro r162 E163 L164 hE165 ⟨z166, ⟨z167, ⟨z168, ⟨rfl, ⟨Z169, ⟨Z170, rfl⟩⟩⟩⟩⟩⟩
  replace Z159 := Z159.mono hE165
  replace hs73 := hs73.mono hE165
  replace Z151 := Z151.mono hE165
  replace Z146 := Z146.mono hE165
  replace Z137 := Z137.mono hE165
  replace hs66 := hs66.mono hE165
  replace Z129 := Z129.mono hE165
  replace Z123 := Z123.mono hE165
  replace Z113 := Z113.mono hE165
  replace hs59 := hs59.mono hE165
  replace Z105 := Z105.mono hE165
  replace Z99 := Z99.mono hE165
  replace Z89 := Z89.mono hE165
  replace hs52 := hs52.mono hE165
  replace Z81 := Z81.mono hE165
  replace Z75 := Z75.mono hE165
  replace Z65 := Z65.mono hE165
  replace hs45 := hs45.mono hE165
  replace Z57 := Z57.mono hE165
  replace Z51 := Z51.mono hE165
  replace Z41 := Z41.mono hE165
  replace hs38 := hs38.mono hE165
  replace Z33 := Z33.mono hE165
  replace Z27 := Z27.mono hE165
  replace Z19 := Z19.mono hE165
  replace Z13 := Z13.mono hE165
  replace Z5 := Z5.mono hE165
  replace hT := hT.mono hE165
  refine Gm ?_
  refine Gv (V_extract rfl rfl rfl) ?_
  refine Gv (V_extract rfl rfl rfl) ?_
  refine Ga ?_
  refine Ga ?_
  refine G_end (X_then (G_seq (G_region ?_)))
  refine G_call (k := 12) (.mk rfl rfl rfl rfl) rfl rfl (.none rfl) (shown25_call' _ _) ?_
  rintro r171 E172 L173 hE174 ⟨Z175, rfl⟩
  replace Z169 := Z169.mono hE174
  replace Z159 := Z159.mono hE174
  replace hs73 := hs73.mono hE174
  replace Z151 := Z151.mono hE174
  replace Z146 := Z146.mono hE174
  replace Z137 := Z137.mono hE174
  replace hs66 := hs66.mono hE174
  replace Z129 := Z129.mono hE174
  replace Z123 := Z123.mono hE174
  replace Z113 := Z113.mono hE174
  replace hs59 := hs59.mono hE174
  replace Z105 := Z105.mono hE174
  replace Z99 := Z99.mono hE174
  replace Z89 := Z89.mono hE174
  replace hs52 := hs52.mono hE174
  replace Z81 := Z81.mono hE174
  replace Z75 := Z75.mono hE174
  replace Z65 := Z65.mono hE174
  replace hs45 := hs45.mono hE174
  replace Z57 := Z57.mono hE174
  replace Z51 := Z51.mono hE174
  replace Z41 := Z41.mono hE174
  replace hs38 := hs38.mono hE174
  replace Z33 := Z33.mono hE174
  replace Z27 := Z27.mono hE174
  replace Z19 := Z19.mono hE174
  replace Z13 := Z13.mono hE174
  replace Z5 := Z5.mono hE174
  replace hT := hT.mono hE174
  (refine G_litZ rfl rfl (by decide) (by simp [fillS, zeros, setLs, setL, Value.cells, List.range, List.range.loop]; rfl) (by rfl) rfl rfl (.none rfl) ?_; intro b80 E80 hE80 hs80)
  replace Z175 := Z175.mono hE80
  replace Z169 := Z169.mono hE80
  replace Z159 := Z159.mono hE80
  replace hs73 := hs73.mono hE80
  replace Z151 := Z151.mono hE80
  replace Z146 := Z146.mono hE80
  replace Z137 := Z137.mono hE80
  replace hs66 := hs66.mono hE80
  replace Z129 := Z129.mono hE80
  replace Z123 := Z123.mono hE80
  replace Z113 := Z113.mono hE80
  replace hs59 := hs59.mono hE80
  replace Z105 := Z105.mono hE80
  replace Z99 := Z99.mono hE80
  replace Z89 := Z89.mono hE80
  replace hs52 := hs52.mono hE80
  replace Z81 := Z81.mono hE80
  replace Z75 := Z75.mono hE80
  replace Z65 := Z65.mono hE80
  replace hs45 := hs45.mono hE80
  replace Z57 := Z57.mono hE80
  replace Z51 := Z51.mono hE80
  replace Z41 := Z41.mono hE80
  replace hs38 := hs38.mono hE80
  replace Z33 := Z33.mono hE80
  replace Z27 := Z27.mono hE80
  replace Z19 := Z19.mono hE80
  replace Z13 := Z13.mono hE80
  replace Z5 := Z5.mono hE80
  replace hT := hT.mono hE80
  refine G_call (k := 13) (.mk rfl rfl rfl rfl) rfl rfl (.none rfl) (of_call' _ _ _ _ _ _ (by exact SlE.toI (by assumption) rfl) (by omega)) ?_
  rintro r176 E177 L178 hE179 ⟨z180, ⟨z181, ⟨z182, ⟨rfl, ⟨Z183, ⟨Z184, ⟨Z185, rfl⟩⟩⟩⟩⟩⟩⟩
  replace hs80 := hs80.mono hE179
  replace Z175 := Z175.mono hE179
  replace Z169 := Z169.mono hE179
  replace Z159 := Z159.mono hE179
  replace hs73 := hs73.mono hE179
  replace Z151 := Z151.mono hE179
  replace Z146 := Z146.mono hE179
  replace Z137 := Z137.mono hE179
  replace hs66 := hs66.mono hE179
  replace Z129 := Z129.mono hE179
  replace Z123 := Z123.mono hE179
  replace Z113 := Z113.mono hE179
  replace hs59 := hs59.mono hE179
  replace Z105 := Z105.mono hE179
  replace Z99 := Z99.mono hE179
  replace Z89 := Z89.mono hE179
  replace hs52 := hs52.mono hE179
  replace Z81 := Z81.mono hE179
  replace Z75 := Z75.mono hE179
  replace Z65 := Z65.mono hE179
  replace hs45 := hs45.mono hE179
  replace Z57 := Z57.mono hE179
  replace Z51 := Z51.mono hE179
  replace Z41 := Z41.mono hE179
  replace hs38 := hs38.mono hE179
  replace Z33 := Z33.mono hE179
  replace Z27 := Z27.mono hE179
  replace Z19 := Z19.mono hE179
  replace Z13 := Z13.mono hE179
  replace Z5 := Z5.mono hE179
  replace hT := hT.mono hE179
  refine G_call (k := 16) (.mk rfl rfl rfl rfl) rfl rfl (.none rfl) (krest _ _ _ (by assumption) _ _ _ (by assumption) (by assumption)) ?_
  rintro r186 E187 L188 hE189 ⟨z190, ⟨z191, ⟨z192, ⟨rfl, ⟨Z193, ⟨Z194, rfl⟩⟩⟩⟩⟩⟩
  replace Z183 := Z183.mono hE189
  replace hs80 := hs80.mono hE189
  replace Z175 := Z175.mono hE189
  replace Z169 := Z169.mono hE189
  replace Z159 := Z159.mono hE189
  replace hs73 := hs73.mono hE189
  replace Z151 := Z151.mono hE189
  replace Z146 := Z146.mono hE189
  replace Z137 := Z137.mono hE189
  replace hs66 := hs66.mono hE189
  replace Z129 := Z129.mono hE189
  replace Z123 := Z123.mono hE189
  replace Z113 := Z113.mono hE189
  replace hs59 := hs59.mono hE189
  replace Z105 := Z105.mono hE189
  replace Z99 := Z99.mono hE189
  replace Z89 := Z89.mono hE189
  replace hs52 := hs52.mono hE189
  replace Z81 := Z81.mono hE189
  replace Z75 := Z75.mono hE189
  replace Z65 := Z65.mono hE189
  replace hs45 := hs45.mono hE189
  replace Z57 := Z57.mono hE189
  replace Z51 := Z51.mono hE189
  replace Z41 := Z41.mono hE189
  replace hs38 := hs38.mono hE189
  replace Z33 := Z33.mono hE189
  replace Z27 := Z27.mono hE189
  replace Z19 := Z19.mono hE189
  replace Z13 := Z13.mono hE189
  replace Z5 := Z5.mono hE189
  replace hT := hT.mono hE189
  refine Gm ?_
  refine Gv (V_extract rfl rfl rfl) ?_
  refine Gv (V_extract rfl rfl rfl) ?_
  refine Ga ?_
  refine Ga ?_
  refine G_end (X_then (G_seq (G_region ?_)))
  refine G_call (k := 12) (.mk rfl rfl rfl rfl) rfl rfl (.none rfl) (shown25_call' _ _) ?_
  rintro r195 E196 L197 hE198 ⟨Z199, rfl⟩
  replace Z193 := Z193.mono hE198
  replace Z183 := Z183.mono hE198
  replace hs80 := hs80.mono hE198
  replace Z175 := Z175.mono hE198
  replace Z169 := Z169.mono hE198
  replace Z159 := Z159.mono hE198
  replace hs73 := hs73.mono hE198
  replace Z151 := Z151.mono hE198
  replace Z146 := Z146.mono hE198
  replace Z137 := Z137.mono hE198
  replace hs66 := hs66.mono hE198
  replace Z129 := Z129.mono hE198
  replace Z123 := Z123.mono hE198
  replace Z113 := Z113.mono hE198
  replace hs59 := hs59.mono hE198
  replace Z105 := Z105.mono hE198
  replace Z99 := Z99.mono hE198
  replace Z89 := Z89.mono hE198
  replace hs52 := hs52.mono hE198
  replace Z81 := Z81.mono hE198
  replace Z75 := Z75.mono hE198
  replace Z65 := Z65.mono hE198
  replace hs45 := hs45.mono hE198
  replace Z57 := Z57.mono hE198
  replace Z51 := Z51.mono hE198
  replace Z41 := Z41.mono hE198
  replace hs38 := hs38.mono hE198
  replace Z33 := Z33.mono hE198
  replace Z27 := Z27.mono hE198
  replace Z19 := Z19.mono hE198
  replace Z13 := Z13.mono hE198
  replace Z5 := Z5.mono hE198
  replace hT := hT.mono hE198
  (refine G_litZ rfl rfl (by decide) (by simp [fillS, zeros, setLs, setL, Value.cells, List.range, List.range.loop]; rfl) (by rfl) rfl rfl (.none rfl) ?_; intro b87 E87 hE87 hs87)
  replace Z199 := Z199.mono hE87
  replace Z193 := Z193.mono hE87
  replace Z183 := Z183.mono hE87
  replace hs80 := hs80.mono hE87
  replace Z175 := Z175.mono hE87
  replace Z169 := Z169.mono hE87
  replace Z159 := Z159.mono hE87
  replace hs73 := hs73.mono hE87
  replace Z151 := Z151.mono hE87
  replace Z146 := Z146.mono hE87
  replace Z137 := Z137.mono hE87
  replace hs66 := hs66.mono hE87
  replace Z129 := Z129.mono hE87
  replace Z123 := Z123.mono hE87
  replace Z113 := Z113.mono hE87
  replace hs59 := hs59.mono hE87
  replace Z105 := Z105.mono hE87
  replace Z99 := Z99.mono hE87
  replace Z89 := Z89.mono hE87
  replace hs52 := hs52.mono hE87
  replace Z81 := Z81.mono hE87
  replace Z75 := Z75.mono hE87
  replace Z65 := Z65.mono hE87
  replace hs45 := hs45.mono hE87
  replace Z57 := Z57.mono hE87
  replace Z51 := Z51.mono hE87
  replace Z41 := Z41.mono hE87
  replace hs38 := hs38.mono hE87
  replace Z33 := Z33.mono hE87
  replace Z27 := Z27.mono hE87
  replace Z19 := Z19.mono hE87
  replace Z13 := Z13.mono hE87
  replace Z5 := Z5.mono hE87
  replace hT := hT.mono hE87
  refine G_call (k := 13) (.mk rfl rfl rfl rfl) rfl rfl (.none rfl) (of_call' _ _ _ _ _ _ (by exact SlE.toI (by assumption) rfl) (by omega)) ?_
  rintro r200 E201 L202 hE203 ⟨z204, ⟨z205, ⟨z206, ⟨rfl, ⟨Z207, ⟨Z208, ⟨Z209, rfl⟩⟩⟩⟩⟩⟩⟩
  replace hs87 := hs87.mono hE203
  replace Z199 := Z199.mono hE203
  replace Z193 := Z193.mono hE203
  replace Z183 := Z183.mono hE203
  replace hs80 := hs80.mono hE203
  replace Z175 := Z175.mono hE203
  replace Z169 := Z169.mono hE203
  replace Z159 := Z159.mono hE203
  replace hs73 := hs73.mono hE203
  replace Z151 := Z151.mono hE203
  replace Z146 := Z146.mono hE203
  replace Z137 := Z137.mono hE203
  replace hs66 := hs66.mono hE203
  replace Z129 := Z129.mono hE203
  replace Z123 := Z123.mono hE203
  replace Z113 := Z113.mono hE203
  replace hs59 := hs59.mono hE203
  replace Z105 := Z105.mono hE203
  replace Z99 := Z99.mono hE203
  replace Z89 := Z89.mono hE203
  replace hs52 := hs52.mono hE203
  replace Z81 := Z81.mono hE203
  replace Z75 := Z75.mono hE203
  replace Z65 := Z65.mono hE203
  replace hs45 := hs45.mono hE203
  replace Z57 := Z57.mono hE203
  replace Z51 := Z51.mono hE203
  replace Z41 := Z41.mono hE203
  replace hs38 := hs38.mono hE203
  replace Z33 := Z33.mono hE203
  replace Z27 := Z27.mono hE203
  replace Z19 := Z19.mono hE203
  replace Z13 := Z13.mono hE203
  replace Z5 := Z5.mono hE203
  replace hT := hT.mono hE203
  refine G_call (k := 17) (.mk rfl rfl rfl rfl) rfl rfl (.none rfl) (kpath _ _ _ (by assumption) _ _ _ (by assumption) (by assumption)) ?_
  rintro r210 E211 L212 hE213 ⟨z214, ⟨z215, ⟨z216, ⟨rfl, ⟨Z217, ⟨Z218, rfl⟩⟩⟩⟩⟩⟩
  replace Z207 := Z207.mono hE213
  replace hs87 := hs87.mono hE213
  replace Z199 := Z199.mono hE213
  replace Z193 := Z193.mono hE213
  replace Z183 := Z183.mono hE213
  replace hs80 := hs80.mono hE213
  replace Z175 := Z175.mono hE213
  replace Z169 := Z169.mono hE213
  replace Z159 := Z159.mono hE213
  replace hs73 := hs73.mono hE213
  replace Z151 := Z151.mono hE213
  replace Z146 := Z146.mono hE213
  replace Z137 := Z137.mono hE213
  replace hs66 := hs66.mono hE213
  replace Z129 := Z129.mono hE213
  replace Z123 := Z123.mono hE213
  replace Z113 := Z113.mono hE213
  replace hs59 := hs59.mono hE213
  replace Z105 := Z105.mono hE213
  replace Z99 := Z99.mono hE213
  replace Z89 := Z89.mono hE213
  replace hs52 := hs52.mono hE213
  replace Z81 := Z81.mono hE213
  replace Z75 := Z75.mono hE213
  replace Z65 := Z65.mono hE213
  replace hs45 := hs45.mono hE213
  replace Z57 := Z57.mono hE213
  replace Z51 := Z51.mono hE213
  replace Z41 := Z41.mono hE213
  replace hs38 := hs38.mono hE213
  replace Z33 := Z33.mono hE213
  replace Z27 := Z27.mono hE213
  replace Z19 := Z19.mono hE213
  replace Z13 := Z13.mono hE213
  replace Z5 := Z5.mono hE213
  replace hT := hT.mono hE213
  refine Gm ?_
  refine Gv (V_extract rfl rfl rfl) ?_
  refine Gv (V_extract rfl rfl rfl) ?_
  refine Ga ?_
  refine Ga ?_
  refine G_end (X_then (G_seq (G_region ?_)))
  refine G_call (k := 8) (.mk rfl rfl rfl rfl) rfl rfl (.none rfl) (kparse1 _ _ (by assumption)) ?_
  rintro r219 E220 L221 hE222 ⟨z223, ⟨z224, ⟨z225, ⟨rfl, ⟨Z226, rfl⟩⟩⟩⟩⟩
  replace Z217 := Z217.mono hE222
  replace Z207 := Z207.mono hE222
  replace hs87 := hs87.mono hE222
  replace Z199 := Z199.mono hE222
  replace Z193 := Z193.mono hE222
  replace Z183 := Z183.mono hE222
  replace hs80 := hs80.mono hE222
  replace Z175 := Z175.mono hE222
  replace Z169 := Z169.mono hE222
  replace Z159 := Z159.mono hE222
  replace hs73 := hs73.mono hE222
  replace Z151 := Z151.mono hE222
  replace Z146 := Z146.mono hE222
  replace Z137 := Z137.mono hE222
  replace hs66 := hs66.mono hE222
  replace Z129 := Z129.mono hE222
  replace Z123 := Z123.mono hE222
  replace Z113 := Z113.mono hE222
  replace hs59 := hs59.mono hE222
  replace Z105 := Z105.mono hE222
  replace Z99 := Z99.mono hE222
  replace Z89 := Z89.mono hE222
  replace hs52 := hs52.mono hE222
  replace Z81 := Z81.mono hE222
  replace Z75 := Z75.mono hE222
  replace Z65 := Z65.mono hE222
  replace hs45 := hs45.mono hE222
  replace Z57 := Z57.mono hE222
  replace Z51 := Z51.mono hE222
  replace Z41 := Z41.mono hE222
  replace hs38 := hs38.mono hE222
  replace Z33 := Z33.mono hE222
  replace Z27 := Z27.mono hE222
  replace Z19 := Z19.mono hE222
  replace Z13 := Z13.mono hE222
  replace Z5 := Z5.mono hE222
  replace hT := hT.mono hE222
  refine Gm ?_
  refine Gv (V_extract rfl rfl rfl) ?_
  refine Gv (V_extract rfl rfl rfl) ?_
  refine Ga ?_
  refine Ga ?_
  refine G_end (X_then (G_seq (G_region ?_)))
  refine G_call (k := 8) (.mk rfl rfl rfl rfl) rfl rfl (.none rfl) (kparse2 _ _ (by assumption)) ?_
  rintro r227 E228 L229 hE230 ⟨z231, ⟨z232, ⟨z233, ⟨rfl, ⟨Z234, rfl⟩⟩⟩⟩⟩
  replace Z217 := Z217.mono hE230
  replace Z207 := Z207.mono hE230
  replace hs87 := hs87.mono hE230
  replace Z199 := Z199.mono hE230
  replace Z193 := Z193.mono hE230
  replace Z183 := Z183.mono hE230
  replace hs80 := hs80.mono hE230
  replace Z175 := Z175.mono hE230
  replace Z169 := Z169.mono hE230
  replace Z159 := Z159.mono hE230
  replace hs73 := hs73.mono hE230
  replace Z151 := Z151.mono hE230
  replace Z146 := Z146.mono hE230
  replace Z137 := Z137.mono hE230
  replace hs66 := hs66.mono hE230
  replace Z129 := Z129.mono hE230
  replace Z123 := Z123.mono hE230
  replace Z113 := Z113.mono hE230
  replace hs59 := hs59.mono hE230
  replace Z105 := Z105.mono hE230
  replace Z99 := Z99.mono hE230
  replace Z89 := Z89.mono hE230
  replace hs52 := hs52.mono hE230
  replace Z81 := Z81.mono hE230
  replace Z75 := Z75.mono hE230
  replace Z65 := Z65.mono hE230
  replace hs45 := hs45.mono hE230
  replace Z57 := Z57.mono hE230
  replace Z51 := Z51.mono hE230
  replace Z41 := Z41.mono hE230
  replace hs38 := hs38.mono hE230
  replace Z33 := Z33.mono hE230
  replace Z27 := Z27.mono hE230
  replace Z19 := Z19.mono hE230
  replace Z13 := Z13.mono hE230
  replace Z5 := Z5.mono hE230
  replace hT := hT.mono hE230
  refine Gm ?_
  refine Gv (V_extract rfl rfl rfl) ?_
  refine Gv (V_extract rfl rfl rfl) ?_
  refine Ga ?_
  refine Ga ?_
  refine G_end (X_then (G_seq (G_region ?_)))
  refine Gm ?_
  refine Gv (V_eql rfl rfl rfl) ?_
  refine Gm ?_
  refine G.bool_t 102 rfl (by kernel_rfl) ?_
  refine Gy (V_move rfl rfl) ?_
  (refine G_litZ rfl rfl (by decide) (by simp [fillS, zeros, setLs, setL, Value.cells, List.range, List.range.loop]; rfl) (by rfl) rfl rfl (.yes rfl rfl rfl rfl) ?_; intro b104 E104 hE104 hs104)
  replace Z217 := Z217.mono hE104
  replace Z207 := Z207.mono hE104
  replace hs87 := hs87.mono hE104
  replace Z199 := Z199.mono hE104
  replace Z193 := Z193.mono hE104
  replace Z183 := Z183.mono hE104
  replace hs80 := hs80.mono hE104
  replace Z175 := Z175.mono hE104
  replace Z169 := Z169.mono hE104
  replace Z159 := Z159.mono hE104
  replace hs73 := hs73.mono hE104
  replace Z151 := Z151.mono hE104
  replace Z146 := Z146.mono hE104
  replace Z137 := Z137.mono hE104
  replace hs66 := hs66.mono hE104
  replace Z129 := Z129.mono hE104
  replace Z123 := Z123.mono hE104
  replace Z113 := Z113.mono hE104
  replace hs59 := hs59.mono hE104
  replace Z105 := Z105.mono hE104
  replace Z99 := Z99.mono hE104
  replace Z89 := Z89.mono hE104
  replace hs52 := hs52.mono hE104
  replace Z81 := Z81.mono hE104
  replace Z75 := Z75.mono hE104
  replace Z65 := Z65.mono hE104
  replace hs45 := hs45.mono hE104
  replace Z57 := Z57.mono hE104
  replace Z51 := Z51.mono hE104
  replace Z41 := Z41.mono hE104
  replace hs38 := hs38.mono hE104
  replace Z33 := Z33.mono hE104
  replace Z27 := Z27.mono hE104
  replace Z19 := Z19.mono hE104
  replace Z13 := Z13.mono hE104
  replace Z5 := Z5.mono hE104
  replace hT := hT.mono hE104
  refine G_call (k := 13) (.mk rfl rfl rfl rfl) rfl rfl (.yes rfl rfl rfl rfl) (of_call' _ _ _ _ _ _ (by exact SlE.toI (by assumption) rfl) (by omega)) ?_
  rintro r235 E236 L237 hE238 ⟨z239, ⟨z240, ⟨z241, ⟨rfl, ⟨Z242, ⟨Z243, ⟨Z244, rfl⟩⟩⟩⟩⟩⟩⟩
  replace hs104 := hs104.mono hE238
  replace Z217 := Z217.mono hE238
  replace Z207 := Z207.mono hE238
  replace hs87 := hs87.mono hE238
  replace Z199 := Z199.mono hE238
  replace Z193 := Z193.mono hE238
  replace Z183 := Z183.mono hE238
  replace hs80 := hs80.mono hE238
  replace Z175 := Z175.mono hE238
  replace Z169 := Z169.mono hE238
  replace Z159 := Z159.mono hE238
  replace hs73 := hs73.mono hE238
  replace Z151 := Z151.mono hE238
  replace Z146 := Z146.mono hE238
  replace Z137 := Z137.mono hE238
  replace hs66 := hs66.mono hE238
  replace Z129 := Z129.mono hE238
  replace Z123 := Z123.mono hE238
  replace Z113 := Z113.mono hE238
  replace hs59 := hs59.mono hE238
  replace Z105 := Z105.mono hE238
  replace Z99 := Z99.mono hE238
  replace Z89 := Z89.mono hE238
  replace hs52 := hs52.mono hE238
  replace Z81 := Z81.mono hE238
  replace Z75 := Z75.mono hE238
  replace Z65 := Z65.mono hE238
  replace hs45 := hs45.mono hE238
  replace Z57 := Z57.mono hE238
  replace Z51 := Z51.mono hE238
  replace Z41 := Z41.mono hE238
  replace hs38 := hs38.mono hE238
  replace Z33 := Z33.mono hE238
  replace Z27 := Z27.mono hE238
  replace Z19 := Z19.mono hE238
  replace Z13 := Z13.mono hE238
  replace Z5 := Z5.mono hE238
  replace hT := hT.mono hE238
  refine G_callv (k := 10) (.mk rfl rfl rfl rfl) rfl rfl (.yes rfl rfl rfl rfl) (Same25_call _ _ _ _ _ _ _ _ _ _ (by assumption) (by assumption) (by omega) (by omega)) ?_
  refine Gv (V_pick_t rfl rfl rfl) ?_
  refine Gm ?_
  refine G.bool_t 108 rfl (by kernel_rfl) ?_
  refine Gy (V_move rfl rfl) ?_
  refine Gy (V_eql rfl rfl rfl) ?_
  refine Gv (V_pick_t rfl rfl rfl) ?_
  refine Gm ?_
  refine G.bool_t 112 rfl (by kernel_rfl) ?_
  refine Gy (V_move rfl rfl) ?_
  refine Gy (V_eql rfl rfl rfl) ?_
  refine Gv (V_pick_t rfl rfl rfl) ?_
  refine Gm ?_
  refine G.bool_t 116 rfl (by kernel_rfl) ?_
  refine Gy (V_move rfl rfl) ?_
  refine Gy (V_eql rfl rfl rfl) ?_
  refine Gv (V_pick_t rfl rfl rfl) ?_
  refine Gm ?_
  refine G.bool_t 120 rfl (by kernel_rfl) ?_
  refine Gy (V_move rfl rfl) ?_
  (refine G_litZ rfl rfl (by decide) (by simp [fillS, zeros, setLs, setL, Value.cells, List.range, List.range.loop]; rfl) (by rfl) rfl rfl (.yes rfl rfl rfl rfl) ?_; intro b122 E122 hE122 hs122)
  replace Z242 := Z242.mono hE122
  replace hs104 := hs104.mono hE122
  replace Z217 := Z217.mono hE122
  replace Z207 := Z207.mono hE122
  replace hs87 := hs87.mono hE122
  replace Z199 := Z199.mono hE122
  replace Z193 := Z193.mono hE122
  replace Z183 := Z183.mono hE122
  replace hs80 := hs80.mono hE122
  replace Z175 := Z175.mono hE122
  replace Z169 := Z169.mono hE122
  replace Z159 := Z159.mono hE122
  replace hs73 := hs73.mono hE122
  replace Z151 := Z151.mono hE122
  replace Z146 := Z146.mono hE122
  replace Z137 := Z137.mono hE122
  replace hs66 := hs66.mono hE122
  replace Z129 := Z129.mono hE122
  replace Z123 := Z123.mono hE122
  replace Z113 := Z113.mono hE122
  replace hs59 := hs59.mono hE122
  replace Z105 := Z105.mono hE122
  replace Z99 := Z99.mono hE122
  replace Z89 := Z89.mono hE122
  replace hs52 := hs52.mono hE122
  replace Z81 := Z81.mono hE122
  replace Z75 := Z75.mono hE122
  replace Z65 := Z65.mono hE122
  replace hs45 := hs45.mono hE122
  replace Z57 := Z57.mono hE122
  replace Z51 := Z51.mono hE122
  replace Z41 := Z41.mono hE122
  replace hs38 := hs38.mono hE122
  replace Z33 := Z33.mono hE122
  replace Z27 := Z27.mono hE122
  replace Z19 := Z19.mono hE122
  replace Z13 := Z13.mono hE122
  replace Z5 := Z5.mono hE122
  replace hT := hT.mono hE122
  refine G_call (k := 13) (.mk rfl rfl rfl rfl) rfl rfl (.yes rfl rfl rfl rfl) (of_call' _ _ _ _ _ _ (by exact SlE.toI (by assumption) rfl) (by omega)) ?_
  rintro r245 E246 L247 hE248 ⟨z249, ⟨z250, ⟨z251, ⟨rfl, ⟨Z252, ⟨Z253, ⟨Z254, rfl⟩⟩⟩⟩⟩⟩⟩
  replace hs122 := hs122.mono hE248
  replace Z242 := Z242.mono hE248
  replace hs104 := hs104.mono hE248
  replace Z217 := Z217.mono hE248
  replace Z207 := Z207.mono hE248
  replace hs87 := hs87.mono hE248
  replace Z199 := Z199.mono hE248
  replace Z193 := Z193.mono hE248
  replace Z183 := Z183.mono hE248
  replace hs80 := hs80.mono hE248
  replace Z175 := Z175.mono hE248
  replace Z169 := Z169.mono hE248
  replace Z159 := Z159.mono hE248
  replace hs73 := hs73.mono hE248
  replace Z151 := Z151.mono hE248
  replace Z146 := Z146.mono hE248
  replace Z137 := Z137.mono hE248
  replace hs66 := hs66.mono hE248
  replace Z129 := Z129.mono hE248
  replace Z123 := Z123.mono hE248
  replace Z113 := Z113.mono hE248
  replace hs59 := hs59.mono hE248
  replace Z105 := Z105.mono hE248
  replace Z99 := Z99.mono hE248
  replace Z89 := Z89.mono hE248
  replace hs52 := hs52.mono hE248
  replace Z81 := Z81.mono hE248
  replace Z75 := Z75.mono hE248
  replace Z65 := Z65.mono hE248
  replace hs45 := hs45.mono hE248
  replace Z57 := Z57.mono hE248
  replace Z51 := Z51.mono hE248
  replace Z41 := Z41.mono hE248
  replace hs38 := hs38.mono hE248
  replace Z33 := Z33.mono hE248
  replace Z27 := Z27.mono hE248
  replace Z19 := Z19.mono hE248
  replace Z13 := Z13.mono hE248
  replace Z5 := Z5.mono hE248
  replace hT := hT.mono hE248
  refine G_callv (k := 10) (.mk rfl rfl rfl rfl) rfl rfl (.yes rfl rfl rfl rfl) (Same25_call _ _ _ _ _ _ _ _ _ _ (by assumption) (by assumption) (by omega) (by omega)) ?_
  refine Gv (V_pick_t rfl rfl rfl) ?_
  refine Gm ?_
  refine G.bool_t 126 rfl (by kernel_rfl) ?_
  refine Gy (V_move rfl rfl) ?_
  refine Gy (V_eql rfl rfl rfl) ?_
  refine Gv (V_pick_t rfl rfl rfl) ?_
  refine Gm ?_
  refine G.bool_t 130 rfl (by kernel_rfl) ?_
  refine Gy (V_move rfl rfl) ?_
  refine Gy (V_eql rfl rfl rfl) ?_
  refine Gv (V_pick_t rfl rfl rfl) ?_
  refine Gm ?_
  refine G.bool_t 134 rfl (by kernel_rfl) ?_
  refine Gy (V_move rfl rfl) ?_
  (refine G_litZ rfl rfl (by decide) (by simp [fillS, zeros, setLs, setL, Value.cells, List.range, List.range.loop]; rfl) (by rfl) rfl rfl (.yes rfl rfl rfl rfl) ?_; intro b136 E136 hE136 hs136)
  replace Z252 := Z252.mono hE136
  replace hs122 := hs122.mono hE136
  replace Z242 := Z242.mono hE136
  replace hs104 := hs104.mono hE136
  replace Z217 := Z217.mono hE136
  replace Z207 := Z207.mono hE136
  replace hs87 := hs87.mono hE136
  replace Z199 := Z199.mono hE136
  replace Z193 := Z193.mono hE136
  replace Z183 := Z183.mono hE136
  replace hs80 := hs80.mono hE136
  replace Z175 := Z175.mono hE136
  replace Z169 := Z169.mono hE136
  replace Z159 := Z159.mono hE136
  replace hs73 := hs73.mono hE136
  replace Z151 := Z151.mono hE136
  replace Z146 := Z146.mono hE136
  replace Z137 := Z137.mono hE136
  replace hs66 := hs66.mono hE136
  replace Z129 := Z129.mono hE136
  replace Z123 := Z123.mono hE136
  replace Z113 := Z113.mono hE136
  replace hs59 := hs59.mono hE136
  replace Z105 := Z105.mono hE136
  replace Z99 := Z99.mono hE136
  replace Z89 := Z89.mono hE136
  replace hs52 := hs52.mono hE136
  replace Z81 := Z81.mono hE136
  replace Z75 := Z75.mono hE136
  replace Z65 := Z65.mono hE136
  replace hs45 := hs45.mono hE136
  replace Z57 := Z57.mono hE136
  replace Z51 := Z51.mono hE136
  replace Z41 := Z41.mono hE136
  replace hs38 := hs38.mono hE136
  replace Z33 := Z33.mono hE136
  replace Z27 := Z27.mono hE136
  replace Z19 := Z19.mono hE136
  replace Z13 := Z13.mono hE136
  replace Z5 := Z5.mono hE136
  replace hT := hT.mono hE136
  refine G_call (k := 13) (.mk rfl rfl rfl rfl) rfl rfl (.yes rfl rfl rfl rfl) (of_call' _ _ _ _ _ _ (by exact SlE.toI (by assumption) rfl) (by omega)) ?_
  rintro r255 E256 L257 hE258 ⟨z259, ⟨z260, ⟨z261, ⟨rfl, ⟨Z262, ⟨Z263, ⟨Z264, rfl⟩⟩⟩⟩⟩⟩⟩
  replace hs136 := hs136.mono hE258
  replace Z252 := Z252.mono hE258
  replace hs122 := hs122.mono hE258
  replace Z242 := Z242.mono hE258
  replace hs104 := hs104.mono hE258
  replace Z217 := Z217.mono hE258
  replace Z207 := Z207.mono hE258
  replace hs87 := hs87.mono hE258
  replace Z199 := Z199.mono hE258
  replace Z193 := Z193.mono hE258
  replace Z183 := Z183.mono hE258
  replace hs80 := hs80.mono hE258
  replace Z175 := Z175.mono hE258
  replace Z169 := Z169.mono hE258
  replace Z159 := Z159.mono hE258
  replace hs73 := hs73.mono hE258
  replace Z151 := Z151.mono hE258
  replace Z146 := Z146.mono hE258
  replace Z137 := Z137.mono hE258
  replace hs66 := hs66.mono hE258
  replace Z129 := Z129.mono hE258
  replace Z123 := Z123.mono hE258
  replace Z113 := Z113.mono hE258
  replace hs59 := hs59.mono hE258
  replace Z105 := Z105.mono hE258
  replace Z99 := Z99.mono hE258
  replace Z89 := Z89.mono hE258
  replace hs52 := hs52.mono hE258
  replace Z81 := Z81.mono hE258
  replace Z75 := Z75.mono hE258
  replace Z65 := Z65.mono hE258
  replace hs45 := hs45.mono hE258
  replace Z57 := Z57.mono hE258
  replace Z51 := Z51.mono hE258
  replace Z41 := Z41.mono hE258
  replace hs38 := hs38.mono hE258
  replace Z33 := Z33.mono hE258
  replace Z27 := Z27.mono hE258
  replace Z19 := Z19.mono hE258
  replace Z13 := Z13.mono hE258
  replace Z5 := Z5.mono hE258
  replace hT := hT.mono hE258
  refine G_callv (k := 10) (.mk rfl rfl rfl rfl) rfl rfl (.yes rfl rfl rfl rfl) (Same25_call _ _ _ _ _ _ _ _ _ _ (by assumption) (by assumption) (by omega) (by omega)) ?_
  refine Gv (V_pick_t rfl rfl rfl) ?_
  refine Gm ?_
  refine G.bool_t 140 rfl (by kernel_rfl) ?_
  refine Gy (V_move rfl rfl) ?_
  refine Gy (V_eql rfl rfl rfl) ?_
  refine Gv (V_pick_t rfl rfl rfl) ?_
  refine Gm ?_
  refine G.bool_t 144 rfl (by kernel_rfl) ?_
  refine Gy (V_move rfl rfl) ?_
  refine Gy (V_lenS rfl rfl) ?_
  refine Gy (V_eql rfl rfl rfl) ?_
  refine Gv (V_pick_t rfl rfl rfl) ?_
  refine Gm ?_
  refine G.bool_t 149 rfl (by kernel_rfl) ?_
  refine Gy (V_move rfl rfl) ?_
  refine Gy (V_eql rfl rfl rfl) ?_
  refine Gv (V_pick_t rfl rfl rfl) ?_
  refine Ga ?_
  refine G_end (X_then (G_seq (G_region ?_)))
  refine G_call (k := 7) (.mk rfl rfl rfl rfl) rfl rfl (.none rfl) (awake25_call _ _) ?_
  rintro r265 E266 L267 hE268 ⟨rfl, rfl⟩
  replace Z262 := Z262.mono hE268
  replace hs136 := hs136.mono hE268
  replace Z252 := Z252.mono hE268
  replace hs122 := hs122.mono hE268
  replace Z242 := Z242.mono hE268
  replace hs104 := hs104.mono hE268
  replace Z217 := Z217.mono hE268
  replace Z207 := Z207.mono hE268
  replace hs87 := hs87.mono hE268
  replace Z199 := Z199.mono hE268
  replace Z193 := Z193.mono hE268
  replace Z183 := Z183.mono hE268
  replace hs80 := hs80.mono hE268
  replace Z175 := Z175.mono hE268
  replace Z169 := Z169.mono hE268
  replace Z159 := Z159.mono hE268
  replace hs73 := hs73.mono hE268
  replace Z151 := Z151.mono hE268
  replace Z146 := Z146.mono hE268
  replace Z137 := Z137.mono hE268
  replace hs66 := hs66.mono hE268
  replace Z129 := Z129.mono hE268
  replace Z123 := Z123.mono hE268
  replace Z113 := Z113.mono hE268
  replace hs59 := hs59.mono hE268
  replace Z105 := Z105.mono hE268
  replace Z99 := Z99.mono hE268
  replace Z89 := Z89.mono hE268
  replace hs52 := hs52.mono hE268
  replace Z81 := Z81.mono hE268
  replace Z75 := Z75.mono hE268
  replace Z65 := Z65.mono hE268
  replace hs45 := hs45.mono hE268
  replace Z57 := Z57.mono hE268
  replace Z51 := Z51.mono hE268
  replace Z41 := Z41.mono hE268
  replace hs38 := hs38.mono hE268
  replace Z33 := Z33.mono hE268
  replace Z27 := Z27.mono hE268
  replace Z19 := Z19.mono hE268
  replace Z13 := Z13.mono hE268
  replace Z5 := Z5.mono hE268
  replace hT := hT.mono hE268
  refine Gm ?_
  refine Gy (V_move rfl rfl) ?_
  refine Gv (V_pick_t rfl rfl rfl) ?_
  refine Gm ?_
  refine G.bool_t 157 rfl (by kernel_rfl) ?_
  refine G_call (k := 18) (.mk rfl rfl rfl rfl) rfl rfl (.yes rfl rfl rfl rfl) (kawaits _ _) ?_
  rintro r269 E270 L271 hE272 ⟨rfl, rfl⟩
  replace Z262 := Z262.mono hE272
  replace hs136 := hs136.mono hE272
  replace Z252 := Z252.mono hE272
  replace hs122 := hs122.mono hE272
  replace Z242 := Z242.mono hE272
  replace hs104 := hs104.mono hE272
  replace Z217 := Z217.mono hE272
  replace Z207 := Z207.mono hE272
  replace hs87 := hs87.mono hE272
  replace Z199 := Z199.mono hE272
  replace Z193 := Z193.mono hE272
  replace Z183 := Z183.mono hE272
  replace hs80 := hs80.mono hE272
  replace Z175 := Z175.mono hE272
  replace Z169 := Z169.mono hE272
  replace Z159 := Z159.mono hE272
  replace hs73 := hs73.mono hE272
  replace Z151 := Z151.mono hE272
  replace Z146 := Z146.mono hE272
  replace Z137 := Z137.mono hE272
  replace hs66 := hs66.mono hE272
  replace Z129 := Z129.mono hE272
  replace Z123 := Z123.mono hE272
  replace Z113 := Z113.mono hE272
  replace hs59 := hs59.mono hE272
  replace Z105 := Z105.mono hE272
  replace Z99 := Z99.mono hE272
  replace Z89 := Z89.mono hE272
  replace hs52 := hs52.mono hE272
  replace Z81 := Z81.mono hE272
  replace Z75 := Z75.mono hE272
  replace Z65 := Z65.mono hE272
  replace hs45 := hs45.mono hE272
  replace Z57 := Z57.mono hE272
  replace Z51 := Z51.mono hE272
  replace Z41 := Z41.mono hE272
  replace hs38 := hs38.mono hE272
  replace Z33 := Z33.mono hE272
  replace Z27 := Z27.mono hE272
  replace Z19 := Z19.mono hE272
  replace Z13 := Z13.mono hE272
  replace Z5 := Z5.mono hE272
  replace hT := hT.mono hE272
  refine Gv (V_pick_t rfl rfl rfl) ?_
  refine Gm ?_
  (refine G_litZ rfl rfl (by decide) (by simp [fillS, zeros, setLs, setL, Value.cells, List.range, List.range.loop]; rfl) (by rfl) rfl rfl (.yes rfl rfl rfl rfl) ?_; intro b161 E161 hE161 hs161)
  replace Z262 := Z262.mono hE161
  replace hs136 := hs136.mono hE161
  replace Z252 := Z252.mono hE161
  replace hs122 := hs122.mono hE161
  replace Z242 := Z242.mono hE161
  replace hs104 := hs104.mono hE161
  replace Z217 := Z217.mono hE161
  replace Z207 := Z207.mono hE161
  replace hs87 := hs87.mono hE161
  replace Z199 := Z199.mono hE161
  replace Z193 := Z193.mono hE161
  replace Z183 := Z183.mono hE161
  replace hs80 := hs80.mono hE161
  replace Z175 := Z175.mono hE161
  replace Z169 := Z169.mono hE161
  replace Z159 := Z159.mono hE161
  replace hs73 := hs73.mono hE161
  replace Z151 := Z151.mono hE161
  replace Z146 := Z146.mono hE161
  replace Z137 := Z137.mono hE161
  replace hs66 := hs66.mono hE161
  replace Z129 := Z129.mono hE161
  replace Z123 := Z123.mono hE161
  replace Z113 := Z113.mono hE161
  replace hs59 := hs59.mono hE161
  replace Z105 := Z105.mono hE161
  replace Z99 := Z99.mono hE161
  replace Z89 := Z89.mono hE161
  replace hs52 := hs52.mono hE161
  replace Z81 := Z81.mono hE161
  replace Z75 := Z75.mono hE161
  replace Z65 := Z65.mono hE161
  replace hs45 := hs45.mono hE161
  replace Z57 := Z57.mono hE161
  replace Z51 := Z51.mono hE161
  replace Z41 := Z41.mono hE161
  replace hs38 := hs38.mono hE161
  replace Z33 := Z33.mono hE161
  replace Z27 := Z27.mono hE161
  replace Z19 := Z19.mono hE161
  replace Z13 := Z13.mono hE161
  replace Z5 := Z5.mono hE161
  replace hT := hT.mono hE161
  refine G_call (k := 19) (.mk rfl rfl rfl rfl) rfl rfl (.yes rfl rfl rfl rfl) (checks25_call _ _ _ _ _ _ _ (by exact SlE.toI (by assumption) rfl) (by omega) (by exact (by kernel_rfl : (_ : Bool) = _))) ?_
  rintro r273 E274 L275 hE276 ⟨rfl, rfl⟩
  replace hs161 := hs161.mono hE276
  replace Z262 := Z262.mono hE276
  replace hs136 := hs136.mono hE276
  replace Z252 := Z252.mono hE276
  replace hs122 := hs122.mono hE276
  replace Z242 := Z242.mono hE276
  replace hs104 := hs104.mono hE276
  replace Z217 := Z217.mono hE276
  replace Z207 := Z207.mono hE276
  replace hs87 := hs87.mono hE276
  replace Z199 := Z199.mono hE276
  replace Z193 := Z193.mono hE276
  replace Z183 := Z183.mono hE276
  replace hs80 := hs80.mono hE276
  replace Z175 := Z175.mono hE276
  replace Z169 := Z169.mono hE276
  replace Z159 := Z159.mono hE276
  replace hs73 := hs73.mono hE276
  replace Z151 := Z151.mono hE276
  replace Z146 := Z146.mono hE276
  replace Z137 := Z137.mono hE276
  replace hs66 := hs66.mono hE276
  replace Z129 := Z129.mono hE276
  replace Z123 := Z123.mono hE276
  replace Z113 := Z113.mono hE276
  replace hs59 := hs59.mono hE276
  replace Z105 := Z105.mono hE276
  replace Z99 := Z99.mono hE276
  replace Z89 := Z89.mono hE276
  replace hs52 := hs52.mono hE276
  replace Z81 := Z81.mono hE276
  replace Z75 := Z75.mono hE276
  replace Z65 := Z65.mono hE276
  replace hs45 := hs45.mono hE276
  replace Z57 := Z57.mono hE276
  replace Z51 := Z51.mono hE276
  replace Z41 := Z41.mono hE276
  replace hs38 := hs38.mono hE276
  replace Z33 := Z33.mono hE276
  replace Z27 := Z27.mono hE276
  replace Z19 := Z19.mono hE276
  replace Z13 := Z13.mono hE276
  replace Z5 := Z5.mono hE276
  replace hT := hT.mono hE276
  refine Gv (V_pick_t rfl rfl rfl) ?_
  refine Gm ?_
  (refine G_litZ rfl rfl (by decide) (by simp [fillS, zeros, setLs, setL, Value.cells, List.range, List.range.loop]; rfl) (by rfl) rfl rfl (.yes rfl rfl rfl rfl) ?_; intro b165 E165 hE165 hs165)
  replace hs161 := hs161.mono hE165
  replace Z262 := Z262.mono hE165
  replace hs136 := hs136.mono hE165
  replace Z252 := Z252.mono hE165
  replace hs122 := hs122.mono hE165
  replace Z242 := Z242.mono hE165
  replace hs104 := hs104.mono hE165
  replace Z217 := Z217.mono hE165
  replace Z207 := Z207.mono hE165
  replace hs87 := hs87.mono hE165
  replace Z199 := Z199.mono hE165
  replace Z193 := Z193.mono hE165
  replace Z183 := Z183.mono hE165
  replace hs80 := hs80.mono hE165
  replace Z175 := Z175.mono hE165
  replace Z169 := Z169.mono hE165
  replace Z159 := Z159.mono hE165
  replace hs73 := hs73.mono hE165
  replace Z151 := Z151.mono hE165
  replace Z146 := Z146.mono hE165
  replace Z137 := Z137.mono hE165
  replace hs66 := hs66.mono hE165
  replace Z129 := Z129.mono hE165
  replace Z123 := Z123.mono hE165
  replace Z113 := Z113.mono hE165
  replace hs59 := hs59.mono hE165
  replace Z105 := Z105.mono hE165
  replace Z99 := Z99.mono hE165
  replace Z89 := Z89.mono hE165
  replace hs52 := hs52.mono hE165
  replace Z81 := Z81.mono hE165
  replace Z75 := Z75.mono hE165
  replace Z65 := Z65.mono hE165
  replace hs45 := hs45.mono hE165
  replace Z57 := Z57.mono hE165
  replace Z51 := Z51.mono hE165
  replace Z41 := Z41.mono hE165
  replace hs38 := hs38.mono hE165
  replace Z33 := Z33.mono hE165
  replace Z27 := Z27.mono hE165
  replace Z19 := Z19.mono hE165
  replace Z13 := Z13.mono hE165
  replace Z5 := Z5.mono hE165
  replace hT := hT.mono hE165
  refine G_call (k := 19) (.mk rfl rfl rfl rfl) rfl rfl (.yes rfl rfl rfl rfl) (checks25_call _ _ _ _ _ _ _ (by exact SlE.toI (by assumption) rfl) (by omega) (by exact (by kernel_rfl : (_ : Bool) = _))) ?_
  rintro r277 E278 L279 hE280 ⟨rfl, rfl⟩
  replace hs165 := hs165.mono hE280
  replace hs161 := hs161.mono hE280
  replace Z262 := Z262.mono hE280
  replace hs136 := hs136.mono hE280
  replace Z252 := Z252.mono hE280
  replace hs122 := hs122.mono hE280
  replace Z242 := Z242.mono hE280
  replace hs104 := hs104.mono hE280
  replace Z217 := Z217.mono hE280
  replace Z207 := Z207.mono hE280
  replace hs87 := hs87.mono hE280
  replace Z199 := Z199.mono hE280
  replace Z193 := Z193.mono hE280
  replace Z183 := Z183.mono hE280
  replace hs80 := hs80.mono hE280
  replace Z175 := Z175.mono hE280
  replace Z169 := Z169.mono hE280
  replace Z159 := Z159.mono hE280
  replace hs73 := hs73.mono hE280
  replace Z151 := Z151.mono hE280
  replace Z146 := Z146.mono hE280
  replace Z137 := Z137.mono hE280
  replace hs66 := hs66.mono hE280
  replace Z129 := Z129.mono hE280
  replace Z123 := Z123.mono hE280
  replace Z113 := Z113.mono hE280
  replace hs59 := hs59.mono hE280
  replace Z105 := Z105.mono hE280
  replace Z99 := Z99.mono hE280
  replace Z89 := Z89.mono hE280
  replace hs52 := hs52.mono hE280
  replace Z81 := Z81.mono hE280
  replace Z75 := Z75.mono hE280
  replace Z65 := Z65.mono hE280
  replace hs45 := hs45.mono hE280
  replace Z57 := Z57.mono hE280
  replace Z51 := Z51.mono hE280
  replace Z41 := Z41.mono hE280
  replace hs38 := hs38.mono hE280
  replace Z33 := Z33.mono hE280
  replace Z27 := Z27.mono hE280
  replace Z19 := Z19.mono hE280
  replace Z13 := Z13.mono hE280
  replace Z5 := Z5.mono hE280
  replace hT := hT.mono hE280
  refine Gv (V_pick_t rfl rfl rfl) ?_
  refine Gm ?_
  (refine G_litZ rfl rfl (by decide) (by simp [fillS, zeros, setLs, setL, Value.cells, List.range, List.range.loop]; rfl) (by rfl) rfl rfl (.yes rfl rfl rfl rfl) ?_; intro b169 E169 hE169 hs169)
  replace hs165 := hs165.mono hE169
  replace hs161 := hs161.mono hE169
  replace Z262 := Z262.mono hE169
  replace hs136 := hs136.mono hE169
  replace Z252 := Z252.mono hE169
  replace hs122 := hs122.mono hE169
  replace Z242 := Z242.mono hE169
  replace hs104 := hs104.mono hE169
  replace Z217 := Z217.mono hE169
  replace Z207 := Z207.mono hE169
  replace hs87 := hs87.mono hE169
  replace Z199 := Z199.mono hE169
  replace Z193 := Z193.mono hE169
  replace Z183 := Z183.mono hE169
  replace hs80 := hs80.mono hE169
  replace Z175 := Z175.mono hE169
  replace Z169 := Z169.mono hE169
  replace Z159 := Z159.mono hE169
  replace hs73 := hs73.mono hE169
  replace Z151 := Z151.mono hE169
  replace Z146 := Z146.mono hE169
  replace Z137 := Z137.mono hE169
  replace hs66 := hs66.mono hE169
  replace Z129 := Z129.mono hE169
  replace Z123 := Z123.mono hE169
  replace Z113 := Z113.mono hE169
  replace hs59 := hs59.mono hE169
  replace Z105 := Z105.mono hE169
  replace Z99 := Z99.mono hE169
  replace Z89 := Z89.mono hE169
  replace hs52 := hs52.mono hE169
  replace Z81 := Z81.mono hE169
  replace Z75 := Z75.mono hE169
  replace Z65 := Z65.mono hE169
  replace hs45 := hs45.mono hE169
  replace Z57 := Z57.mono hE169
  replace Z51 := Z51.mono hE169
  replace Z41 := Z41.mono hE169
  replace hs38 := hs38.mono hE169
  replace Z33 := Z33.mono hE169
  replace Z27 := Z27.mono hE169
  replace Z19 := Z19.mono hE169
  replace Z13 := Z13.mono hE169
  replace Z5 := Z5.mono hE169
  replace hT := hT.mono hE169
  refine G_call (k := 19) (.mk rfl rfl rfl rfl) rfl rfl (.yes rfl rfl rfl rfl) (checks25_call _ _ _ _ _ _ _ (by exact SlE.toI (by assumption) rfl) (by omega) (by exact (by kernel_rfl : (_ : Bool) = _))) ?_
  rintro r281 E282 L283 hE284 ⟨rfl, rfl⟩
  replace hs169 := hs169.mono hE284
  replace hs165 := hs165.mono hE284
  replace hs161 := hs161.mono hE284
  replace Z262 := Z262.mono hE284
  replace hs136 := hs136.mono hE284
  replace Z252 := Z252.mono hE284
  replace hs122 := hs122.mono hE284
  replace Z242 := Z242.mono hE284
  replace hs104 := hs104.mono hE284
  replace Z217 := Z217.mono hE284
  replace Z207 := Z207.mono hE284
  replace hs87 := hs87.mono hE284
  replace Z199 := Z199.mono hE284
  replace Z193 := Z193.mono hE284
  replace Z183 := Z183.mono hE284
  replace hs80 := hs80.mono hE284
  replace Z175 := Z175.mono hE284
  replace Z169 := Z169.mono hE284
  replace Z159 := Z159.mono hE284
  replace hs73 := hs73.mono hE284
  replace Z151 := Z151.mono hE284
  replace Z146 := Z146.mono hE284
  replace Z137 := Z137.mono hE284
  replace hs66 := hs66.mono hE284
  replace Z129 := Z129.mono hE284
  replace Z123 := Z123.mono hE284
  replace Z113 := Z113.mono hE284
  replace hs59 := hs59.mono hE284
  replace Z105 := Z105.mono hE284
  replace Z99 := Z99.mono hE284
  replace Z89 := Z89.mono hE284
  replace hs52 := hs52.mono hE284
  replace Z81 := Z81.mono hE284
  replace Z75 := Z75.mono hE284
  replace Z65 := Z65.mono hE284
  replace hs45 := hs45.mono hE284
  replace Z57 := Z57.mono hE284
  replace Z51 := Z51.mono hE284
  replace Z41 := Z41.mono hE284
  replace hs38 := hs38.mono hE284
  replace Z33 := Z33.mono hE284
  replace Z27 := Z27.mono hE284
  replace Z19 := Z19.mono hE284
  replace Z13 := Z13.mono hE284
  replace Z5 := Z5.mono hE284
  replace hT := hT.mono hE284
  refine Gv (V_pick_t rfl rfl rfl) ?_
  refine Gm ?_
  (refine G_litZ rfl rfl (by decide) (by simp [fillS, zeros, setLs, setL, Value.cells, List.range, List.range.loop]; rfl) (by rfl) rfl rfl (.yes rfl rfl rfl rfl) ?_; intro b173 E173 hE173 hs173)
  replace hs169 := hs169.mono hE173
  replace hs165 := hs165.mono hE173
  replace hs161 := hs161.mono hE173
  replace Z262 := Z262.mono hE173
  replace hs136 := hs136.mono hE173
  replace Z252 := Z252.mono hE173
  replace hs122 := hs122.mono hE173
  replace Z242 := Z242.mono hE173
  replace hs104 := hs104.mono hE173
  replace Z217 := Z217.mono hE173
  replace Z207 := Z207.mono hE173
  replace hs87 := hs87.mono hE173
  replace Z199 := Z199.mono hE173
  replace Z193 := Z193.mono hE173
  replace Z183 := Z183.mono hE173
  replace hs80 := hs80.mono hE173
  replace Z175 := Z175.mono hE173
  replace Z169 := Z169.mono hE173
  replace Z159 := Z159.mono hE173
  replace hs73 := hs73.mono hE173
  replace Z151 := Z151.mono hE173
  replace Z146 := Z146.mono hE173
  replace Z137 := Z137.mono hE173
  replace hs66 := hs66.mono hE173
  replace Z129 := Z129.mono hE173
  replace Z123 := Z123.mono hE173
  replace Z113 := Z113.mono hE173
  replace hs59 := hs59.mono hE173
  replace Z105 := Z105.mono hE173
  replace Z99 := Z99.mono hE173
  replace Z89 := Z89.mono hE173
  replace hs52 := hs52.mono hE173
  replace Z81 := Z81.mono hE173
  replace Z75 := Z75.mono hE173
  replace Z65 := Z65.mono hE173
  replace hs45 := hs45.mono hE173
  replace Z57 := Z57.mono hE173
  replace Z51 := Z51.mono hE173
  replace Z41 := Z41.mono hE173
  replace hs38 := hs38.mono hE173
  replace Z33 := Z33.mono hE173
  replace Z27 := Z27.mono hE173
  replace Z19 := Z19.mono hE173
  replace Z13 := Z13.mono hE173
  replace Z5 := Z5.mono hE173
  replace hT := hT.mono hE173
  refine G_call (k := 19) (.mk rfl rfl rfl rfl) rfl rfl (.yes rfl rfl rfl rfl) (checks25_call _ _ _ _ _ _ _ (by exact SlE.toI (by assumption) rfl) (by omega) (by exact (by kernel_rfl : (_ : Bool) = _))) ?_
  rintro r285 E286 L287 hE288 ⟨rfl, rfl⟩
  replace hs173 := hs173.mono hE288
  replace hs169 := hs169.mono hE288
  replace hs165 := hs165.mono hE288
  replace hs161 := hs161.mono hE288
  replace Z262 := Z262.mono hE288
  replace hs136 := hs136.mono hE288
  replace Z252 := Z252.mono hE288
  replace hs122 := hs122.mono hE288
  replace Z242 := Z242.mono hE288
  replace hs104 := hs104.mono hE288
  replace Z217 := Z217.mono hE288
  replace Z207 := Z207.mono hE288
  replace hs87 := hs87.mono hE288
  replace Z199 := Z199.mono hE288
  replace Z193 := Z193.mono hE288
  replace Z183 := Z183.mono hE288
  replace hs80 := hs80.mono hE288
  replace Z175 := Z175.mono hE288
  replace Z169 := Z169.mono hE288
  replace Z159 := Z159.mono hE288
  replace hs73 := hs73.mono hE288
  replace Z151 := Z151.mono hE288
  replace Z146 := Z146.mono hE288
  replace Z137 := Z137.mono hE288
  replace hs66 := hs66.mono hE288
  replace Z129 := Z129.mono hE288
  replace Z123 := Z123.mono hE288
  replace Z113 := Z113.mono hE288
  replace hs59 := hs59.mono hE288
  replace Z105 := Z105.mono hE288
  replace Z99 := Z99.mono hE288
  replace Z89 := Z89.mono hE288
  replace hs52 := hs52.mono hE288
  replace Z81 := Z81.mono hE288
  replace Z75 := Z75.mono hE288
  replace Z65 := Z65.mono hE288
  replace hs45 := hs45.mono hE288
  replace Z57 := Z57.mono hE288
  replace Z51 := Z51.mono hE288
  replace Z41 := Z41.mono hE288
  replace hs38 := hs38.mono hE288
  replace Z33 := Z33.mono hE288
  replace Z27 := Z27.mono hE288
  replace Z19 := Z19.mono hE288
  replace Z13 := Z13.mono hE288
  replace Z5 := Z5.mono hE288
  replace hT := hT.mono hE288
  refine Gv (V_pick_t rfl rfl rfl) ?_
  refine Gm ?_
  refine Gy (V_move rfl rfl) ?_
  refine Gy (V_eql rfl rfl rfl) ?_
  refine Gv (V_pick_t rfl rfl rfl) ?_
  refine Gm ?_
  refine G.bool_t 180 rfl (by kernel_rfl) ?_
  refine Gy (V_move rfl rfl) ?_
  (refine G_litZ rfl rfl (by decide) (by simp [fillS, zeros, setLs, setL, Value.cells, List.range, List.range.loop]; rfl) (by rfl) rfl rfl (.yes rfl rfl rfl rfl) ?_; intro b182 E182 hE182 hs182)
  replace hs173 := hs173.mono hE182
  replace hs169 := hs169.mono hE182
  replace hs165 := hs165.mono hE182
  replace hs161 := hs161.mono hE182
  replace Z262 := Z262.mono hE182
  replace hs136 := hs136.mono hE182
  replace Z252 := Z252.mono hE182
  replace hs122 := hs122.mono hE182
  replace Z242 := Z242.mono hE182
  replace hs104 := hs104.mono hE182
  replace Z217 := Z217.mono hE182
  replace Z207 := Z207.mono hE182
  replace hs87 := hs87.mono hE182
  replace Z199 := Z199.mono hE182
  replace Z193 := Z193.mono hE182
  replace Z183 := Z183.mono hE182
  replace hs80 := hs80.mono hE182
  replace Z175 := Z175.mono hE182
  replace Z169 := Z169.mono hE182
  replace Z159 := Z159.mono hE182
  replace hs73 := hs73.mono hE182
  replace Z151 := Z151.mono hE182
  replace Z146 := Z146.mono hE182
  replace Z137 := Z137.mono hE182
  replace hs66 := hs66.mono hE182
  replace Z129 := Z129.mono hE182
  replace Z123 := Z123.mono hE182
  replace Z113 := Z113.mono hE182
  replace hs59 := hs59.mono hE182
  replace Z105 := Z105.mono hE182
  replace Z99 := Z99.mono hE182
  replace Z89 := Z89.mono hE182
  replace hs52 := hs52.mono hE182
  replace Z81 := Z81.mono hE182
  replace Z75 := Z75.mono hE182
  replace Z65 := Z65.mono hE182
  replace hs45 := hs45.mono hE182
  replace Z57 := Z57.mono hE182
  replace Z51 := Z51.mono hE182
  replace Z41 := Z41.mono hE182
  replace hs38 := hs38.mono hE182
  replace Z33 := Z33.mono hE182
  replace Z27 := Z27.mono hE182
  replace Z19 := Z19.mono hE182
  replace Z13 := Z13.mono hE182
  replace Z5 := Z5.mono hE182
  replace hT := hT.mono hE182
  refine G_callv (k := 20) (.mk rfl rfl rfl rfl) rfl rfl (.yes rfl rfl rfl rfl) (SameInts_call' _ _ _ _ _ _ _ _ _ _ (by assumption) (by exact SlE.toI (by assumption) rfl) (by omega) (by omega)) ?_
  refine Gv (V_pick_t rfl rfl rfl) ?_
  refine Gm ?_
  refine G.bool_t 185 rfl (by kernel_rfl) ?_
  refine Gy (V_move rfl rfl) ?_
  refine Gy (V_eql rfl rfl rfl) ?_
  refine Gv (V_pick_t rfl rfl rfl) ?_
  refine Gm ?_
  refine G.bool_t 189 rfl (by kernel_rfl) ?_
  refine Gy (V_move rfl rfl) ?_
  (refine G_litZ rfl rfl (by decide) (by simp [fillS, zeros, setLs, setL, Value.cells, List.range, List.range.loop]; rfl) (by rfl) rfl rfl (.yes rfl rfl rfl rfl) ?_; intro b191 E191 hE191 hs191)
  replace hs182 := hs182.mono hE191
  replace hs173 := hs173.mono hE191
  replace hs169 := hs169.mono hE191
  replace hs165 := hs165.mono hE191
  replace hs161 := hs161.mono hE191
  replace Z262 := Z262.mono hE191
  replace hs136 := hs136.mono hE191
  replace Z252 := Z252.mono hE191
  replace hs122 := hs122.mono hE191
  replace Z242 := Z242.mono hE191
  replace hs104 := hs104.mono hE191
  replace Z217 := Z217.mono hE191
  replace Z207 := Z207.mono hE191
  replace hs87 := hs87.mono hE191
  replace Z199 := Z199.mono hE191
  replace Z193 := Z193.mono hE191
  replace Z183 := Z183.mono hE191
  replace hs80 := hs80.mono hE191
  replace Z175 := Z175.mono hE191
  replace Z169 := Z169.mono hE191
  replace Z159 := Z159.mono hE191
  replace hs73 := hs73.mono hE191
  replace Z151 := Z151.mono hE191
  replace Z146 := Z146.mono hE191
  replace Z137 := Z137.mono hE191
  replace hs66 := hs66.mono hE191
  replace Z129 := Z129.mono hE191
  replace Z123 := Z123.mono hE191
  replace Z113 := Z113.mono hE191
  replace hs59 := hs59.mono hE191
  replace Z105 := Z105.mono hE191
  replace Z99 := Z99.mono hE191
  replace Z89 := Z89.mono hE191
  replace hs52 := hs52.mono hE191
  replace Z81 := Z81.mono hE191
  replace Z75 := Z75.mono hE191
  replace Z65 := Z65.mono hE191
  replace hs45 := hs45.mono hE191
  replace Z57 := Z57.mono hE191
  replace Z51 := Z51.mono hE191
  replace Z41 := Z41.mono hE191
  replace hs38 := hs38.mono hE191
  replace Z33 := Z33.mono hE191
  replace Z27 := Z27.mono hE191
  replace Z19 := Z19.mono hE191
  replace Z13 := Z13.mono hE191
  replace Z5 := Z5.mono hE191
  replace hT := hT.mono hE191
  refine G_callv (k := 20) (.mk rfl rfl rfl rfl) rfl rfl (.yes rfl rfl rfl rfl) (SameInts_call' _ _ _ _ _ _ _ _ _ _ (by assumption) (by exact SlE.toI (by assumption) rfl) (by omega) (by omega)) ?_
  refine Gv (V_pick_t rfl rfl rfl) ?_
  refine Gm ?_
  refine G.bool_t 194 rfl (by kernel_rfl) ?_
  refine Gy (V_move rfl rfl) ?_
  refine Gy (V_eql rfl rfl rfl) ?_
  refine Gv (V_pick_t rfl rfl rfl) ?_
  refine Gm ?_
  refine G.bool_t 198 rfl (by kernel_rfl) ?_
  refine Gy (V_move rfl rfl) ?_
  refine Gy (V_eql rfl rfl rfl) ?_
  refine Gv (V_pick_t rfl rfl rfl) ?_
  refine Ga ?_
  refine G_end (X_then (G_ret ?_))
  exact G_leave 0 (.cons (.tmp rfl) .nil) rfl (by repeat (first | assumption | refine Env.Le.trans (by assumption) ?_)) ⟨rfl, rfl⟩
end
end Go.Proofs.YtaibabmladgldaaGreatDoor
namespace Go.Proofs.YtaibabmladgldaaGreatDoor
open Go.RowKit
section
variable {P : Program} {ro : Option Nat} {n : Nat} {ds : List Deferred} {fs : List (Nat × Value)} {E : Env} {L : List Res} {ops : Array Oper} {T : Act → Fam → Prop} {π : List (Nat × Nat)} {i : Nat} {o : Oper} {J : Nat → World → Prop}
theorem F_freezeSl {e : TypeId} {sz k c b : Nat} {xs : List Value} {L' : List Res} (h0 : ops[i]? = some o) (hg : Goes ops fs o) (d : Del L (.sl e sz (some ⟨b, 0, none⟩) k c xs) L')
    (h : ∀ E', E.Le E' → SlE E' sz (some ⟨b, 0, none⟩) k xs → k ≤ c → GF n ds fs E' L' (wpF P ops T J ((i, 3) :: π))) : GF n ds fs E L (wpF P ops T J ((i, 3) :: π)) := fun a ha =>
  ⟨o, h0, by
    rw [if_pos (hg.wanted ha)]
    intro M w hw
    have hw1 : St E (.sl e sz (some ⟨b, 0, none⟩) k c xs :: (M ++ L')) w := St.perm hw ((d.perm.append_left M).trans List.perm_middle)
    obtain ⟨hl, h2 | ⟨g, cur, hg', hcur, hkc, hcm, hcs, htk⟩⟩ := hw1.own _ (.head _)
    · cases h2.1
    · cases hg'
      have hw2 : St E (.blk b (.cells cur e (0, 0)) :: (M ++ L')) w := hw1.conv rfl hcur
      have hE : E.heap b = none := (hw2.apart b (by simp [Res.blk])).1
      have hw3 := (St.shut hE).1 hw2
      have hs : SlE (E.blk b (.cells cur e (0, 0))) sz (some ⟨b, 0, none⟩) k xs := SlE.sl (e := e) (cap := c) ⟨hl, .inr ⟨b, cur, rfl, by simp [Env.blk], hkc, hcm, hcs, htk⟩⟩
      obtain ⟨o', e', h1⟩ := h _ (Env.blk_le hE) hs hkc a ha
      cases h0.symm.trans e'
      rw [if_pos (hg.wanted ha)] at h1
      refine Steps.mono (h1 M w hw3) ?_
      rintro r w' ⟨Φ', q1, q2, q3⟩
      refine ⟨Φ', fun w2 hJ => ?_, q2, q3⟩
      obtain ⟨M2, hw4⟩ := q1 w2 hJ
      have hw5 : St E (.blk b (.cells cur e (0, 0)) :: (M2 ++ L')) w2 := (St.shut hE).2 hw4
      have hw6 : St E (.sl e sz (some ⟨b, 0, none⟩) k c xs :: (M2 ++ L')) w2 := hw5.conv rfl ⟨hl, .inr ⟨b, cur, rfl, hw5.own _ (.head _), hkc, hcm, hcs, htk⟩⟩
      exact ⟨M2, hw6.perm (List.perm_middle.symm.trans (d.perm.symm.append_left M2))⟩⟩
end
end Go.Proofs.YtaibabmladgldaaGreatDoor
set_option linter.unusedSimpArgs false
set_option linter.unusedVariables false
set_option maxHeartbeats 2000000
set_option maxRecDepth 20000
namespace Go.Proofs.YtaibabmladgldaaGreatDoor
open Go.RowKit
/-! The law StackRests. -/
theorem SRest_call' {E : Env} {L : List Res} {gv : Value} {g : Gr} (hg : GrE E gv g) (hl : Light g) {p : Option Addr} {n c : Nat} {l : List Spt} (hs : SlE E 2 p n (spC l)) (hn : n ≤ 9223372036854775807) (h : chkS g l = 0) :
    CallS Tryz.prog 16 #[gv, .slice p n c] E L (fun r E' L' => (∃ a c', r = .tuple #[.slice a (restL g.prods l).length c', .int .i64 0] ∧ SlE E' 1 a (restL g.prods l).length (i64s (restL g.prods l)) ∧ (restL g.prods l).length ≤ c' ∧ (restL g.prods l).length ≤ 1000) ∧ L' = L) := by
  refine CallS.mono (SRest_call E L gv g hg hl p n c l hs hn) ?_
  rintro r E' L' _ ⟨⟨a, n', c', h1, h2, h3, h4⟩, h5⟩
  rw [restM_ok h] at h1 h2
  obtain rfl : n' = (restL g.prods l).length := h2.nI
  exact ⟨⟨a, c', h1, h2, h3, h4⟩, h5⟩
theorem SPath_call' {E : Env} {L : List Res} {gv : Value} {g : Gr} (hg : GrE E gv g) (hl : Light g) {p : Option Addr} {n c : Nat} {l : List Spt} (hs : SlE E 2 p n (spC l)) (hn : n ≤ 9223372036854775807) (h : chkS g l = 0) :
    CallS Tryz.prog 17 #[gv, .slice p n c] E L (fun r E' L' => (∃ a c', r = .tuple #[.slice a l.length c', .int .i64 0] ∧ SlE E' 1 a l.length (i64s (l.map fun s => leftP g.prods s.1))) ∧ L' = L) := by
  refine CallS.mono (SPath_call E L gv g hg hl p n c l hs hn) ?_
  rintro r E' L' _ ⟨⟨a, n', c', h1, h2, h3, h4⟩, h5⟩
  rw [pathM_ok h] at h1 h2
  obtain rfl : n' = l.length := by have := h2.nI; simpa using this
  exact ⟨⟨a, c', h1, h2⟩, h5⟩
theorem SMove_call' {E : Env} {L : List Res} {gv : Value} {g : Gr} (hg : GrE E gv g) (hl : Light g) {p : Option Addr} {n c : Nat} {l : List Spt} (hs : SlE E 2 p n (spC l)) (hn : n ≤ 9223372036854775807) (hc : n ≤ c) {m : List Spt} (h : moveM g l = (m, 0)) :
    CallS Tryz.prog 14 #[gv, .slice p n c] E L (fun r E' L' => (∃ a c', r = .tuple #[.slice a m.length c', .int .i64 0] ∧ SlE E' 2 a m.length (spC m) ∧ m.length ≤ c') ∧ L' = L) := by
  refine CallS.mono (SMove_call E L gv g hg hl p n c l hs hn hc) ?_
  rintro r E' L' _ ⟨⟨a, n', c', h1, h2, h3, h4⟩, h5⟩
  rw [h] at h1 h2
  obtain rfl : n' = m.length := h2.nSp
  exact ⟨⟨a, c', h1, h2, h3⟩, h5⟩
theorem SPop_call' {E : Env} {L : List Res} {gv : Value} {g : Gr} (hg : GrE E gv g) (hl : Light g) {p : Option Addr} {n c : Nat} {l : List Spt} (hs : SlE E 2 p n (spC l)) (hn : n ≤ 9223372036854775807) (hc : n ≤ c) {m : List Spt} (h : popM g l = (m, 0)) :
    CallS Tryz.prog 15 #[gv, .slice p n c] E L (fun r E' L' => (∃ a c', r = .tuple #[.slice a m.length c', .int .i64 0] ∧ SlE E' 2 a m.length (spC m) ∧ m.length ≤ c') ∧ L' = L) := by
  refine CallS.mono (SPop_call E L gv g hg hl p n c l hs hn hc) ?_
  rintro r E' L' _ ⟨⟨a, n', c', h1, h2, h3, h4⟩, h5⟩
  rw [h] at h1 h2
  obtain rfl : n' = m.length := h2.nSp
  exact ⟨⟨a, c', h1, h2, h3⟩, h5⟩
theorem SPush_call' {E : Env} {L : List Res} {gv : Value} {g : Gr} (hg : GrE E gv g) (hl : Light g) {p : Option Addr} {n c : Nat} {l : List Spt} (hs : SlE E 2 p n (spC l)) (hn : n ≤ 9223372036854775807) (hc : n ≤ c) {k e : Int} {m : List Spt} (h : pushM g l k = (m, e)) :
    CallS Tryz.prog 11 #[gv, .slice p n c, .int .i64 k] E L (fun r E' L' => (∃ a c', r = .tuple #[.slice a m.length c', .int .i64 e] ∧ SlE E' 2 a m.length (spC m) ∧ m.length ≤ c') ∧ L' = L) := by
  refine CallS.mono (SPush_call E L gv g hg hl p n c l hs hn hc k) ?_
  rintro r E' L' _ ⟨⟨a, n', c', h1, h2, h3, h4⟩, h5⟩
  rw [h] at h1 h2
  obtain rfl : n' = m.length := h2.nSp
  exact ⟨⟨a, c', h1, h2, h3⟩, h5⟩
section
variable (E : Env) (L : List Res)
theorem StackRests_call (hT : LaidS E) (p1 : Option Addr) (c1 : Nat) (xs1 : List Int) (hx1 : SlE E 1 p1 xs1.length (i64s xs1)) (hn1 : xs1.length ≤ 9223372036854775807) (hb1 : ∀ n, n ∈ xs1 → -9223372036854775808 ≤ n ∧ n ≤ 9223372036854775807)
    (p2 : Option Addr) (c2 : Nat) (xs2 : List Int) (hx2 : SlE E 1 p2 xs2.length (i64s xs2)) (hn2 : xs2.length ≤ 9223372036854775807) (hb2 : ∀ n, n ∈ xs2 → -9223372036854775808 ≤ n ∧ n ≤ 9223372036854775807) (k : Int) (hk' : -9223372036854775808 ≤ k ∧ k ≤ 9223372036854775807) :
    CallS Tryz.prog 5 #[.slice p1 xs1.length c1, .slice p2 xs2.length c2, .int .i64 k] E L (fun r E' L' => r = .bool true ∧ L' = L) := by
  refine CallS.intro (l := [_, _, _]) _ Tryz.func5 rfl Tryz.ntmps5 rfl ?_
  refine G_seq (G_region ?_)
  refine Ga ?_
  refine G_end (X_then (G_seq (G_region ?_)))
  refine G_call (k := 4) (.mk rfl rfl rfl rfl) rfl rfl (.none rfl) (StackKnown_call _ _ hT) ?_
  rintro x1 E1 L1 hE1 ⟨rfl, rfl⟩
  replace hx1 := hx1.mono hE1
  replace hx2 := hx2.mono hE1
  refine Ga ?_
  refine G_end (X_then (G_seq (G_region ?_)))
  refine Gm ?_
  refine G_call (k := 21) (.mk rfl rfl rfl rfl) rfl rfl (.none rfl) (Any_call _ _ p1 c1 xs1 hx1 hn1 hb1) ?_
  rintro gv E2 L2 hE2 ⟨g, hg, hl, hgc, rfl⟩
  replace hx2 := hx2.mono hE2
  have hg0 := hg
  obtain ⟨tp, tc, np, nc, pp, pc, rfl, ht, hn', ⟨rows, hrows, hps, hre⟩, k1, k2, k3⟩ := hg
  have hlen : g.prods.length = rows.length := by rw [← hrows]; simp
  have q3 := hl.p
  (refine G_alloc rfl rfl rfl (.none rfl) ?_; intro b8)
  refine G_storeA rfl rfl rfl rfl (by simp [Value.oneCell']) rfl (.none rfl) (.head _ _ _) rfl ?_
  refine G_end (X_then (G_seq (G_region ?_)))
  refine Gv (V_loadA rfl rfl (Cells.own (.head _)) rfl) ?_
  refine Gm ?_
  refine G_call (k := 22) (.mk rfl rfl rfl rfl) rfl rfl (.none rfl) (walked_call _ _ _ g hg0 hl hgc p2 _ c2 xs2 hx2 hn2 hb2) ?_
  rintro x3 E3 L3 hE3 ⟨⟨a, ca, l, rfl, hs, hca, hl30, hch⟩, rfl⟩
  replace hg0 := hg0.mono hE3
  refine Gm ?_
  refine Gv (V_extract rfl rfl rfl) ?_
  refine Gv (V_extract rfl rfl rfl) ?_
  refine Ga ?_
  refine Ga ?_
  refine G_end (X_then (G_seq (G_seq (G_region ?_))))
  refine Gm ?_
  refine Gv (V_not rfl rfl) ?_
  refine Gm ?_
  refine G.bool_f 48 rfl (by kernel_rfl) ?_
  refine Gy (V_loadA rfl rfl (Cells.own (.head _)) rfl) ?_
  refine Gy (V_move rfl rfl) ?_
  refine G_callv (k := 23) (.mk rfl rfl rfl rfl) rfl rfl (.yes rfl rfl rfl rfl) (SCheck_call _ _ _ g hg0 hl a _ ca l hs (by omega)) ?_
  rw [hch]
  refine Gy (V_neq rfl rfl rfl) ?_
  refine Gv (V_pick_f rfl rfl rfl) ?_
  refine G_end (X_then ?_)
  refine G_cond_f rfl (by kernel_rfl) ?_
  refine G_skip (X_then (G_seq (G_region ?_)))
  refine Gv (V_loadA rfl rfl (Cells.own (.head _)) rfl) ?_
  refine Gm ?_
  have ha := fun L0 => Awaits_call E3 L0 _ g hg0 hl a _ ca l hs (by omega)
  rw [awaitM_ok hch] at ha
  refine G_callv (k := 24) (.mk rfl rfl rfl rfl) rfl rfl (.none rfl) (ha _) ?_
  refine Gm ?_
  refine Gv (V_extract rfl rfl rfl) ?_
  refine Gv (V_extract rfl rfl rfl) ?_
  refine Gv (V_extract rfl rfl rfl) ?_
  refine Ga ?_
  refine Ga ?_
  refine Ga ?_
  refine G_end (X_then (G_seq (G_region ?_)))
  refine Gv (V_loadA rfl rfl (Cells.own (.head _)) rfl) ?_
  refine Gm ?_
  refine G_call (k := 16) (.mk rfl rfl rfl rfl) rfl rfl (.none rfl) (SRest_call' hg0 hl hs (by omega) hch) ?_
  rintro x4 E4 L4 hE4 ⟨⟨pr, cr, rfl, hr, hrc, hrn⟩, rfl⟩
  replace hg0 := hg0.mono hE4
  replace hs := hs.mono hE4
  refine Gm ?_
  refine Gv (V_extract rfl rfl rfl) ?_
  refine Gv (V_extract rfl rfl rfl) ?_
  refine Ga ?_
  refine Ga ?_
  refine G_end (X_then (G_seq (G_region ?_)))
  refine Gv (V_loadA rfl rfl (Cells.own (.head _)) rfl) ?_
  refine Gm ?_
  refine G_call (k := 17) (.mk rfl rfl rfl rfl) rfl rfl (.none rfl) (SPath_call' hg0 hl hs (by omega) hch) ?_
  rintro x5 E5 L5 hE5 ⟨⟨pq, cq, rfl, hq⟩, rfl⟩
  replace hg0 := hg0.mono hE5
  replace hs := hs.mono hE5
  replace hr := hr.mono hE5
  have hpath0 : 0 < l.length → (i64s (l.map fun s => leftP g.prods s.1))[((0 : Int)).toNat * 1]? = some (.int .i64 g.start) := fun h => by
    have h1 := path_start hch (List.getElem?_eq_getElem h)
    have h2 : (0 : Int).toNat * 1 = 0 := rfl
    rw [h2, ← h1]
    simp [i64s, h]
  have hsim : ((awS g.prods l).1, (awS g.prods l).2, (0 : Int)).2.2 = 0 := rfl
  refine G_ways (Y := ?Y) (β := Unit) (J := fun _ => True) (fs' := fun _ => [(2, .int .i64 k), (7, .bool true), (8, .pointer (some ⟨b8, 0, none⟩)), (9, .slice a l.length ca), (11, .int .i64 (awS g.prods l).1), (12, .int .i64 (awS g.prods l).2), (14, .slice pr (restL g.prods l).length cr), (16, .slice pq l.length cq), (18, .int .i64 1)]) (E' := fun _ => E5) (L' := fun _ => GB b8 g tp tc np nc pp pc :: L2) ?_ ?_
  rotate_left
  · intro hk2
    by_cases h0 : l.length = 0
    · refine Gm ?_
      refine Gv (V_extract rfl rfl rfl) ?_
      refine Gv (V_extract rfl rfl rfl) ?_
      refine Ga ?_
      refine Ga ?_
      refine G_end (X_then (G_seq (G_seq ?_)))
      refine G_draw mixed (by kernel_rfl) ?_
      refine Q_val (V_move rfl rfl) rfl rfl (.none rfl) ?_
      refine Q_val (V_neq rfl rfl rfl) rfl rfl (.none rfl) ?_
      refine Q_val (V_move rfl rfl) rfl rfl (.none rfl) ?_
      refine Q_bool_f 75 rfl (decide_eq_false (by omega)) ?_
      refine Q_val (V_move rfl rfl) rfl rfl (.yes rfl rfl rfl rfl) ?_
      refine Q_val (V_neq rfl rfl rfl) rfl rfl (.yes rfl rfl rfl rfl) ?_
      refine Q_val (V_pick_f rfl rfl rfl) rfl rfl (.none rfl) ?_
      refine Q_val (V_move rfl rfl) rfl rfl (.none rfl) ?_
      refine Q_bool_f 79 rfl (by kernel_rfl) ?_
      refine Q_val (V_move rfl rfl) rfl rfl (.yes rfl rfl rfl rfl) ?_
      refine Q_val (V_neq rfl rfl rfl) rfl rfl (.yes rfl rfl rfl rfl) ?_
      refine Q_val (V_pick_f rfl rfl rfl) rfl rfl (.none rfl) ?_
      refine Q_val (V_move rfl rfl) rfl rfl (.none rfl) ?_
      refine Q_bool_f 83 rfl (by kernel_rfl) ?_
      refine Q_val (V_move rfl rfl) rfl rfl (.yes rfl rfl rfl rfl) ?_
      refine Q_val (V_lenS rfl rfl) rfl rfl (.yes rfl rfl rfl rfl) ?_
      refine Q_val (V_move rfl rfl) rfl rfl (.yes rfl rfl rfl rfl) ?_
      refine Q_val (V_lenS rfl rfl) rfl rfl (.yes rfl rfl rfl rfl) ?_
      refine Q_val (V_neq rfl rfl rfl) rfl rfl (.yes rfl rfl rfl rfl) ?_
      refine Q_val (V_pick_f rfl rfl rfl) rfl rfl (.none rfl) ?_
      refine Q_val (V_move rfl rfl) rfl rfl (.none rfl) ?_
      refine Q_bool_f 90 rfl (decide_eq_false (by omega)) ?_
      refine Q_val (V_move rfl rfl) rfl rfl (.yes rfl rfl rfl rfl) ?_
      refine Q_val (V_lenS rfl rfl) rfl rfl (.yes rfl rfl rfl rfl) ?_
      refine Q_val (V_gtr rfl rfl rfl) rfl rfl (.yes rfl rfl rfl rfl) ?_
      refine Q_val (V_move rfl rfl) rfl rfl (.yes rfl rfl rfl rfl) ?_
      refine Q_bool_f 94 rfl (decide_eq_false (by omega)) ?_
      refine Q_stay (.no rfl rfl rfl rfl) rfl rfl ?_
      refine Q_stay (.no rfl rfl rfl rfl) rfl rfl ?_
      refine Q_stay (.no rfl rfl rfl rfl) rfl rfl ?_
      refine Q_stay (.no rfl rfl rfl rfl) rfl rfl ?_
      refine Q_stay (.no rfl rfl rfl rfl) rfl rfl ?_
      refine Q_stay (.no rfl rfl rfl rfl) rfl rfl ?_
      refine Q_val (V_pick_f rfl rfl rfl) rfl rfl (.yes rfl rfl rfl rfl) ?_
      refine Q_val (V_pick_f rfl rfl rfl) rfl rfl (.none rfl) ?_
      refine Q_end ?_
      refine X_then ?_
      refine G_cond_f rfl rfl ?_
      refine G_skip (X_then (G_seq (G_seq (G_region ?_))))
      refine Ga ?_
      refine G_end (X_then (G_block ?_))
      refine G.sub [(2, .int .i64 k), (7, .bool true), (8, .pointer (some ⟨b8, 0, none⟩)), (9, .slice a l.length ca), (11, .int .i64 (awS g.prods l).1), (12, .int .i64 (awS g.prods l).2), (14, .slice pr (restL g.prods l).length cr), (16, .slice pq l.length cq), (18, .int .i64 1)] ⟨rfl, rfl, rfl, rfl, rfl, rfl, rfl, rfl, rfl, trivial⟩ ?_
      exact hk2 () trivial
    · have hpp := hpath0 (by omega)
      refine Gm ?_
      refine Gv (V_extract rfl rfl rfl) ?_
      refine Gv (V_extract rfl rfl rfl) ?_
      refine Ga ?_
      refine Ga ?_
      refine G_end (X_then (G_seq (G_seq ?_)))
      refine G_draw mixed (by kernel_rfl) ?_
      refine Q_val (V_move rfl rfl) rfl rfl (.none rfl) ?_
      refine Q_val (V_neq rfl rfl rfl) rfl rfl (.none rfl) ?_
      refine Q_val (V_move rfl rfl) rfl rfl (.none rfl) ?_
      refine Q_bool_f 75 rfl (decide_eq_false (by omega)) ?_
      refine Q_val (V_move rfl rfl) rfl rfl (.yes rfl rfl rfl rfl) ?_
      refine Q_val (V_neq rfl rfl rfl) rfl rfl (.yes rfl rfl rfl rfl) ?_
      refine Q_val (V_pick_f rfl rfl rfl) rfl rfl (.none rfl) ?_
      refine Q_val (V_move rfl rfl) rfl rfl (.none rfl) ?_
      refine Q_bool_f 79 rfl (by kernel_rfl) ?_
      refine Q_val (V_move rfl rfl) rfl rfl (.yes rfl rfl rfl rfl) ?_
      refine Q_val (V_neq rfl rfl rfl) rfl rfl (.yes rfl rfl rfl rfl) ?_
      refine Q_val (V_pick_f rfl rfl rfl) rfl rfl (.none rfl) ?_
      refine Q_val (V_move rfl rfl) rfl rfl (.none rfl) ?_
      refine Q_bool_f 83 rfl (by kernel_rfl) ?_
      refine Q_val (V_move rfl rfl) rfl rfl (.yes rfl rfl rfl rfl) ?_
      refine Q_val (V_lenS rfl rfl) rfl rfl (.yes rfl rfl rfl rfl) ?_
      refine Q_val (V_move rfl rfl) rfl rfl (.yes rfl rfl rfl rfl) ?_
      refine Q_val (V_lenS rfl rfl) rfl rfl (.yes rfl rfl rfl rfl) ?_
      refine Q_val (V_neq rfl rfl rfl) rfl rfl (.yes rfl rfl rfl rfl) ?_
      refine Q_val (V_pick_f rfl rfl rfl) rfl rfl (.none rfl) ?_
      refine Q_val (V_move rfl rfl) rfl rfl (.none rfl) ?_
      refine Q_bool_f 90 rfl (decide_eq_false (by omega)) ?_
      refine Q_val (V_move rfl rfl) rfl rfl (.yes rfl rfl rfl rfl) ?_
      refine Q_val (V_lenS rfl rfl) rfl rfl (.yes rfl rfl rfl rfl) ?_
      refine Q_val (V_gtr rfl rfl rfl) rfl rfl (.yes rfl rfl rfl rfl) ?_
      refine Q_val (V_move rfl rfl) rfl rfl (.yes rfl rfl rfl rfl) ?_
      refine Q_bool_t 94 rfl (decide_eq_true (by omega)) ?_
      refine Q_val (V_move rfl rfl) rfl rfl (.yes rfl rfl rfl rfl) ?_
      refine Q_val (V_idxAddr rfl rfl rfl (SlE.rd (by assumption)) (by omega) (by omega)) rfl rfl (.yes rfl rfl rfl rfl) ?_
      refine Q_val (V_loadS rfl rfl (SlE.rd (by assumption)) (by assumption) (by simp)) rfl rfl (.yes rfl rfl rfl rfl) ?_
      refine Q_val (V_fieldAddr rfl rfl (by decide)) rfl rfl (.yes rfl rfl rfl rfl) ?_
      refine Q_val (V_load rfl rfl (Cell.own (.head _) rfl)) rfl rfl (.yes rfl rfl rfl rfl) ?_
      refine Q_val (V_neq rfl rfl rfl) rfl rfl (.yes rfl rfl rfl rfl) ?_
      refine Q_val (V_pick_t rfl rfl rfl) rfl rfl (.yes rfl rfl rfl rfl) ?_
      refine Q_val (V_pick_f rfl rfl rfl) rfl rfl (.none rfl) ?_
      refine Q_end ?_
      refine X_then ?_
      refine G_cond_f rfl (decide_eq_false (by omega)) ?_
      refine G_skip (X_then (G_seq (G_seq (G_region ?_))))
      refine Ga ?_
      refine G_end (X_then (G_block ?_))
      refine G.sub [(2, .int .i64 k), (7, .bool true), (8, .pointer (some ⟨b8, 0, none⟩)), (9, .slice a l.length ca), (11, .int .i64 (awS g.prods l).1), (12, .int .i64 (awS g.prods l).2), (14, .slice pr (restL g.prods l).length cr), (16, .slice pq l.length cq), (18, .int .i64 1)] ⟨rfl, rfl, rfl, rfl, rfl, rfl, rfl, rfl, rfl, trivial⟩ ?_
      exact hk2 () trivial
  · rintro _ _
    refine G_loop (α := Nat) (fun i => [(2, .int .i64 k), (7, .bool true), (8, .pointer (some ⟨b8, 0, none⟩)), (9, .slice a l.length ca), (11, .int .i64 (awS g.prods l).1), (12, .int .i64 (awS g.prods l).2), (14, .slice pr (restL g.prods l).length cr), (16, .slice pq l.length cq), (18, .int .i64 (i + 1 : Nat))]) (fun _ => E5) (fun _ => GB b8 g tp tc np nc pp pc :: L2)
      (fun i => i = 0 ∨ i < l.length) (fun i => l.length - i) 0 (.inl rfl) ⟨rfl, rfl, rfl, rfl, rfl, rfl, rfl, rfl, rfl, trivial⟩ rfl rfl ?_
    intro i hi
    by_cases hlt : i + 1 < l.length
    · have h1 := List.getElem?_eq_getElem hlt
      have h0 := List.getElem?_eq_getElem (show i < l.length by omega)
      obtain ⟨y1, y2⟩ := path_below hch h1 h0
      have hno := chkS_in hch _ (List.mem_of_getElem? h0)
      have w1 : (i64s (l.map fun s => leftP g.prods s.1))[((i + 1 : Nat) : Int).toNat * 1]? = some (.int .i64 (leftP g.prods l[i + 1].1)) := by
        rw [Int.toNat_natCast, Nat.mul_one]; simp [i64s, hlt]
      generalize leftP g.prods l[i + 1].1 = lf at *
      generalize l[i]'(by omega) = si at *
      obtain ⟨sp, sd⟩ := si
      simp only at y1 y2
      obtain ⟨row, r1, r2, r3, r4, r5, r6, r7, r8⟩ := in_row hrows hno
      rw [r3] at y2
      replace hps := ((hps.mono hE3).mono hE4).mono hE5
      replace hre := ((hre.mono hE3).mono hE4).mono hE5
      have h8 := hl.ps _ r4
      have x1 := prows_right r1
      have x2 := hre.get r1
      have x3 : (i64s row.2.2.2)[(sd - 1).toNat * 1]? = some (.int .i64 lf) := by rw [Nat.mul_one]; unfold i64s; rw [List.getElem?_map, y2]; rfl
      have eI : (((i + 1 : Nat) : Int) - 1) = ((i : Nat) : Int) := by omega
      have z1 : (spC l)[(((i + 1 : Nat) : Int) - 1).toNat * 2]? = some (.int .i64 sp) := by rw [eI, Int.toNat_natCast]; exact spC_fst h0
      have z2 : (spC l)[(((i + 1 : Nat) : Int) - 1).toNat * 2 + 1]? = some (.int .i64 sd) := by rw [eI, Int.toNat_natCast]; exact spC_snd h0
      refine G_seq (G_seq (G_region ?_))
      refine Gm ?_
      refine Gm ?_
      refine Gv (V_lenS rfl rfl) ?_
      refine Gv (V_lss rfl rfl rfl) ?_
      refine G_end (X_then ?_)
      refine G_cond_t rfl (decide_eq_true (by omega)) ?_
      refine G_skip (X_then (G_seq (G_block (G_seq ?_))))
      refine G_draw mixed (by kernel_rfl) ?_
      refine Q_val (V_fieldAddr rfl rfl (by decide)) rfl rfl (.none rfl) ?_
      refine Q_val (V_load rfl rfl (Cell.own (.head _) rfl)) rfl rfl (.none rfl) ?_
      refine Q_val (V_move rfl rfl) rfl rfl (.none rfl) ?_
      refine Q_val (V_move rfl rfl) rfl rfl (.none rfl) ?_
      refine Q_val (V_sub_i64 rfl rfl rfl (by omega) (by omega)) rfl rfl (.none rfl) ?_
      refine Q_val (V_idxAddr rfl rfl rfl (SlE.rd (by assumption)) (by omega) (by omega)) rfl rfl (.none rfl) ?_
      refine Q_val (V_fieldAddrE rfl rfl (by assumption) (by omega) (by decide)) rfl rfl (.none rfl) ?_
      refine Q_val (V_loadS rfl rfl (SlE.rd (by assumption)) z1 (by simp)) rfl rfl (.none rfl) ?_
      refine Q_val (V_idxAddr rfl rfl rfl (SlE.rd (by assumption)) (by omega) (by omega)) rfl rfl (.none rfl) ?_
      refine Q_val (V_fieldAddrE rfl rfl (by assumption) (by omega) (by decide)) rfl rfl (.none rfl) ?_
      refine Q_val (V_loadS rfl rfl (SlE.rd (by assumption)) (by assumption) (by simp)) rfl rfl (.none rfl) ?_
      refine Q_val (V_assign rfl rfl) rfl rfl (.none rfl) ?_
      refine Q_end ?_
      refine X_then (G_seq ?_)
      refine G_draw mixed (by kernel_rfl) ?_
      refine Q_val (V_move rfl rfl) rfl rfl (.none rfl) ?_
      refine Q_val (V_move rfl rfl) rfl rfl (.none rfl) ?_
      refine Q_val (V_sub_i64 rfl rfl rfl (by omega) (by omega)) rfl rfl (.none rfl) ?_
      refine Q_val (V_idxAddr rfl rfl rfl (SlE.rd (by assumption)) (by omega) (by omega)) rfl rfl (.none rfl) ?_
      refine Q_val (V_fieldAddrE rfl rfl (by assumption) (by omega) (by decide)) rfl rfl (.none rfl) ?_
      refine Q_val (V_loadS rfl rfl (SlE.rd (by assumption)) (by assumption) (by simp)) rfl rfl (.none rfl) ?_
      refine Q_val (V_lss rfl rfl rfl) rfl rfl (.none rfl) ?_
      refine Q_val (V_move rfl rfl) rfl rfl (.none rfl) ?_
      refine Q_bool_f 127 rfl (decide_eq_false (by omega)) ?_
      refine Q_val (V_move rfl rfl) rfl rfl (.yes rfl rfl rfl rfl) ?_
      refine Q_val (V_move rfl rfl) rfl rfl (.yes rfl rfl rfl rfl) ?_
      refine Q_val (V_idxAddr rfl rfl rfl (SlE.rd (by assumption)) (by omega) (by omega)) rfl rfl (.yes rfl rfl rfl rfl) ?_
      refine Q_val (V_loadS rfl rfl (SlE.rd (by assumption)) (by assumption) (by simp)) rfl rfl (.yes rfl rfl rfl rfl) ?_
      refine Q_val (V_move rfl rfl) rfl rfl (.yes rfl rfl rfl rfl) ?_
      refine Q_val (V_move rfl rfl) rfl rfl (.yes rfl rfl rfl rfl) ?_
      refine Q_val (V_move rfl rfl) rfl rfl (.yes rfl rfl rfl rfl) ?_
      refine Q_val (V_sub_i64 rfl rfl rfl (by omega) (by omega)) rfl rfl (.yes rfl rfl rfl rfl) ?_
      refine Q_val (V_idxAddr rfl rfl rfl (SlE.rd (by assumption)) (by omega) (by omega)) rfl rfl (.yes rfl rfl rfl rfl) ?_
      refine Q_val (V_fieldAddrE rfl rfl (by assumption) (by omega) (by decide)) rfl rfl (.yes rfl rfl rfl rfl) ?_
      refine Q_val (V_loadS rfl rfl (SlE.rd (by assumption)) (by assumption) (by simp)) rfl rfl (.yes rfl rfl rfl rfl) ?_
      refine Q_val (V_sub_i64 rfl rfl rfl (by omega) (by omega)) rfl rfl (.yes rfl rfl rfl rfl) ?_
      refine Q_val (V_idxAddr rfl rfl rfl (SlE.rd (by assumption)) (by omega) (by omega)) rfl rfl (.yes rfl rfl rfl rfl) ?_
      refine Q_val (V_loadS rfl rfl (SlE.rd (by assumption)) (by assumption) (by simp)) rfl rfl (.yes rfl rfl rfl rfl) ?_
      refine Q_val (V_neq rfl rfl rfl) rfl rfl (.yes rfl rfl rfl rfl) ?_
      refine Q_val (V_pick_f rfl rfl rfl) rfl rfl (.none rfl) ?_
      refine Q_end ?_
      refine X_then ?_
      refine G_cond_f rfl (decide_eq_false (by omega)) ?_
      refine G_skip (X_block (X_then (G_region ?_)))
      refine Gm ?_
      refine Gv (V_add_i64 rfl rfl rfl (by omega) (by omega)) ?_
      refine Ga ?_
      refine G_end (X_then ?_)
      exact G_again (i + 1) (.inr (by omega)) (by omega) ⟨rfl, rfl, rfl, rfl, rfl, rfl, rfl, rfl, rfl, trivial⟩ rfl rfl
    · have hk3 := awS_kind g.prods l
      clear hpath0 hq
      have hbl := bump_len l
      by_cases e1 : (awS g.prods l).1 = 1
      · obtain ⟨hb1, hb2⟩ := bump_chk hgc hch (.inl e1)
        have hrb := rest_bump hch (.inl e1)
        have hrl := congrArg List.length hrb
        rw [List.length_cons] at hrl
        have x1 : (i64s (restL g.prods l))[(0 : Int).toNat * 1]? = some (.int .i64 (awS g.prods l).2) := by rw [hrb]; rfl
        refine G_seq (G_seq (G_region ?_))
        refine Gm ?_
        refine Gm ?_
        refine Gv (V_lenS rfl rfl) ?_
        refine Gv (V_lss rfl rfl rfl) ?_
        refine G_end (X_then ?_)
        refine G_cond_f rfl (decide_eq_false (by omega)) ?_
        refine G_exit (X_then_exit (X_then_exit (X_block_hit (X_then (G_seq (G_seq (G_region ?_)))))))
        refine Gm ?_
        refine G_end (X_then (G_block (G_seq (G_region ?_))))
        refine Gv (V_eql rfl rfl rfl) ?_
        refine Ga ?_
        refine G_end (X_then ?_)
        refine G_cond_t rfl (decide_eq_true (by omega)) ?_
        refine G_seq (G_region ?_)
        refine Gv (V_loadA rfl rfl (Cells.own (.head _)) rfl) ?_
        refine Gm ?_
        refine G_call (k := 14) (.mk rfl rfl rfl rfl) rfl rfl (.none rfl) (SMove_call' hg0 hl hs (by omega) hca (move_ok hch e1)) ?_
        rintro x6 E6 L6 hE6 ⟨⟨a6, c6, rfl, hs6, hc6⟩, rfl⟩
        replace hg0 := hg0.mono hE6
        replace hr := hr.mono hE6
        refine Gm ?_
        refine Gv (V_extract rfl rfl rfl) ?_
        refine Gv (V_extract rfl rfl rfl) ?_
        refine Ga ?_
        refine Ga ?_
        refine G_end (X_then (G_seq (G_region ?_)))
        refine Gv (V_loadA rfl rfl (Cells.own (.head _)) rfl) ?_
        refine Gm ?_
        refine G_call (k := 16) (.mk rfl rfl rfl rfl) rfl rfl (.none rfl) (SRest_call' hg0 hl hs6 (by omega) hb1) ?_
        rintro x7 E7 L7 hE7 ⟨⟨p7, c7, rfl, hr7, _, hn7⟩, rfl⟩
        replace hr := hr.mono hE7
        have htl := hr.tail (l := 1) (c := cr) (by omega) hrc
        rw [i64s_dropN, show (restL g.prods l).drop 1 = restL g.prods (bump l) by rw [hrb]; rfl] at htl
        refine Gm ?_
        refine Gv (V_extract rfl rfl rfl) ?_
        refine Gv (V_extract rfl rfl rfl) ?_
        refine Ga ?_
        refine Ga ?_
        refine G_end (X_then (G_seq (G_region ?_)))
        refine Gm ?_
        refine Gm ?_
        refine Gy (V_move rfl rfl) ?_
        refine Gy (V_eql rfl rfl rfl) ?_
        refine Gv (V_pick_t rfl rfl rfl) ?_
        refine Gm ?_
        refine G.bool_t 164 rfl (by kernel_rfl) ?_
        refine Gy (V_move rfl rfl) ?_
        refine Gy (V_eql rfl rfl rfl) ?_
        refine Gv (V_pick_t rfl rfl rfl) ?_
        refine Gm ?_
        refine G.bool_t 168 rfl (by kernel_rfl) ?_
        refine Gy (V_move rfl rfl) ?_
        refine Gy (V_lenS rfl rfl) ?_
        refine Gy (V_gtr rfl rfl rfl) ?_
        refine Gv (V_pick_t rfl rfl rfl) ?_
        refine Gm ?_
        refine G.bool_t 173 rfl (decide_eq_true (by omega)) ?_
        refine Gy (V_move rfl rfl) ?_
        refine Gy (V_idxAddr rfl rfl rfl (SlE.rd (by assumption)) (by omega) (by omega)) ?_
        refine Gy (V_loadS rfl rfl (SlE.rd (by assumption)) (by assumption) (by simp)) ?_
        refine Gy (V_move rfl rfl) ?_
        refine Gy (V_eql rfl rfl rfl) ?_
        refine Gv (V_pick_t rfl rfl rfl) ?_
        refine Gm ?_
        refine G.bool_t 180 rfl (decide_eq_true (by omega)) ?_
        refine Gy (V_move rfl rfl) ?_
        refine Gy (V_move rfl rfl) ?_
        refine Gy (V_slTail1 rfl rfl rfl (by omega)) ?_
        refine G_callv (k := 20) (.mk rfl rfl rfl rfl) rfl rfl (.yes rfl rfl rfl rfl) (SameInts_call' _ _ _ _ _ _ _ _ _ _ (by assumption) (by assumption) (by omega) (by omega)) ?_
        refine Gv (V_pick_t rfl rfl rfl) ?_
        refine Ga ?_
        refine G_end (X_then (G_ret (X_block_ret (X_then_ret ?_))))
        refine G_leaveS (.drop _ (.nil _)) (by exact (.cons (.tmp rfl) (.nil))) rfl ?_ ?_
        · exact ((((((hE1.trans hE2).trans hE3).trans hE4).trans hE5).trans hE6).trans hE7)
        exact ⟨(by (simp (discharger := omega) only [resVal, if_pos, if_neg]; first | done | rfl)), (by rfl)⟩
      by_cases e3 : (awS g.prods l).1 = 3
      · have hd1 := drop_chk hgc hch
        have hrp := rest_pop (g := g) e3
        have hdl : l.dropLast.length = l.length - 1 := List.length_dropLast
        refine G_seq (G_seq (G_region ?_))
        refine Gm ?_
        refine Gm ?_
        refine Gv (V_lenS rfl rfl) ?_
        refine Gv (V_lss rfl rfl rfl) ?_
        refine G_end (X_then ?_)
        refine G_cond_f rfl (decide_eq_false (by omega)) ?_
        refine G_exit (X_then_exit (X_then_exit (X_block_hit (X_then (G_seq (G_seq (G_region ?_)))))))
        refine Gm ?_
        refine G_end (X_then (G_block (G_seq (G_region ?_))))
        refine Gv (V_eql rfl rfl rfl) ?_
        refine Ga ?_
        refine G_end (X_then ?_)
        refine G_cond_f rfl (decide_eq_false (by omega)) ?_
        refine G_seq (G_region ?_)
        refine Gv (V_eql rfl rfl rfl) ?_
        refine Ga ?_
        refine G_end (X_then ?_)
        refine G_cond_t rfl (decide_eq_true (by omega)) ?_
        refine G_seq (G_region ?_)
        refine Gv (V_loadA rfl rfl (Cells.own (.head _)) rfl) ?_
        refine Gm ?_
        refine G_call (k := 15) (.mk rfl rfl rfl rfl) rfl rfl (.none rfl) (SPop_call' hg0 hl hs (by omega) hca (pop_ok hch e3)) ?_
        rintro x6 E6 L6 hE6 ⟨⟨a6, c6, rfl, hs6, hc6⟩, rfl⟩
        replace hg0 := hg0.mono hE6
        replace hr := hr.mono hE6
        refine Gm ?_
        refine Gv (V_extract rfl rfl rfl) ?_
        refine Gv (V_extract rfl rfl rfl) ?_
        refine Ga ?_
        refine Ga ?_
        refine G_end (X_then (G_seq (G_region ?_)))
        refine Gv (V_loadA rfl rfl (Cells.own (.head _)) rfl) ?_
        refine Gm ?_
        refine G_call (k := 16) (.mk rfl rfl rfl rfl) rfl rfl (.none rfl) (SRest_call' hg0 hl hs6 (by omega) hd1) ?_
        rintro x7 E7 L7 hE7 ⟨⟨p7, c7, rfl, hr7, _, hn7⟩, rfl⟩
        replace hr := hr.mono hE7
        rw [hrp] at hr7 hn7 ⊢
        have hl1 : 0 < l.length := List.length_pos_iff.2 fun e => by rw [e, awS_nil] at e3; cases e3
        have hdl2 : (l.dropLast.length : Int) = (l.length : Int) - 1 := by omega
        refine Gm ?_
        refine Gv (V_extract rfl rfl rfl) ?_
        refine Gv (V_extract rfl rfl rfl) ?_
        refine Ga ?_
        refine Ga ?_
        refine G_end (X_then (G_seq (G_region ?_)))
        refine Gm ?_
        refine Gm ?_
        refine Gy (V_move rfl rfl) ?_
        refine Gy (V_eql rfl rfl rfl) ?_
        refine Gv (V_pick_t rfl rfl rfl) ?_
        refine Gm ?_
        refine G.bool_t 205 rfl (by kernel_rfl) ?_
        refine Gy (V_move rfl rfl) ?_
        refine Gy (V_eql rfl rfl rfl) ?_
        refine Gv (V_pick_t rfl rfl rfl) ?_
        refine Gm ?_
        refine G.bool_t 209 rfl (by kernel_rfl) ?_
        refine Gy (V_move rfl rfl) ?_
        refine Gy (V_lenS rfl rfl) ?_
        refine Gy (V_move rfl rfl) ?_
        refine Gy (V_lenS rfl rfl) ?_
        refine Gy (V_sub_i64 rfl rfl rfl (by omega) (by omega)) ?_
        refine Gy (V_eql rfl rfl rfl) ?_
        refine Gv (V_pick_t rfl rfl rfl) ?_
        refine Gm ?_
        refine G.bool_t 217 rfl (decide_eq_true (by omega)) ?_
        refine Gy (V_move rfl rfl) ?_
        refine Gy (V_move rfl rfl) ?_
        refine G_callv (k := 20) (.mk rfl rfl rfl rfl) rfl rfl (.yes rfl rfl rfl rfl) (SameInts_call' _ _ _ _ _ _ _ _ _ _ (by assumption) (by assumption) (by omega) (by omega)) ?_
        refine Gv (V_pick_t rfl rfl rfl) ?_
        refine Ga ?_
        refine G_end (X_then (G_ret (X_block_ret (X_then_ret ?_))))
        refine G_leaveS (.drop _ (.nil _)) (by exact (.cons (.tmp rfl) (.nil))) rfl ?_ ?_
        · exact ((((((hE1.trans hE2).trans hE3).trans hE4).trans hE5).trans hE6).trans hE7)
        exact ⟨(by (simp (discharger := omega) only [resVal, if_pos, if_neg]; first | done | rfl)), (by rfl)⟩
      have hk : (awS g.prods l).1 = 0 ∨ (awS g.prods l).1 = 2 := by omega
      obtain ⟨rb, hrbe⟩ : ∃ x, x = restL g.prods (bump l) := ⟨_, rfl⟩
      refine G_ways (Y := ?Y2) (β := Env × Option Addr × Nat × List Int) (J := fun x => E5.Le x.1 ∧ x.2.2.2 = wantP g l :: rb ∧ SlE x.1 1 x.2.1 x.2.2.2.length (i64s x.2.2.2) ∧ x.2.2.2.length ≤ x.2.2.1) (fs' := fun x => [(7, .bool true), (8, .pointer (some ⟨b8, 0, none⟩)), (9, .slice a l.length ca), (12, .int .i64 (x.2.2.2.headD 0)), (14, .slice x.2.1 x.2.2.2.length x.2.2.1), (229, .int .i64 k), (232, .int .i64 g.prods.length)]) (E' := fun x => x.1) (L' := fun _ => GB b8 g tp tc np nc pp pc :: L2) ?_ ?_
      rotate_left
      · intro hk2
        by_cases e0 : (awS g.prods l).1 = 0
        · have hw : wantP g l = g.start := by rw [wantP, if_pos e0]
          have hrb0 : rb = [] := by rw [hrbe, awS_zero e0]; rfl
          refine G_seq (G_seq (G_region ?_))
          refine Gm ?_
          refine Gm ?_
          refine Gv (V_lenS rfl rfl) ?_
          refine Gv (V_lss rfl rfl rfl) ?_
          refine G_end (X_then ?_)
          refine G_cond_f rfl (decide_eq_false (by omega)) ?_
          refine G_exit (X_then_exit (X_then_exit (X_block_hit (X_then (G_seq (G_seq (G_region ?_)))))))
          refine Gm ?_
          refine G_end (X_then (G_block (G_seq (G_region ?_))))
          refine Gv (V_eql rfl rfl rfl) ?_
          refine Ga ?_
          refine G_end (X_then ?_)
          refine G_cond_f rfl (decide_eq_false (by omega)) ?_
          refine G_seq (G_region ?_)
          refine Gv (V_eql rfl rfl rfl) ?_
          refine Ga ?_
          refine G_end (X_then ?_)
          refine G_cond_f rfl (decide_eq_false (by omega)) ?_
          refine G_seq (G_region ?_)
          refine Gv (V_eql rfl rfl rfl) ?_
          refine Ga ?_
          refine G_end (X_then ?_)
          refine G_cond_t rfl (decide_eq_true (by omega)) ?_
          refine G_drawX 7 [(0, 0), (1, 1), (2, 0), (3, 1), (4, 2), (5, 0), (6, 0)] mixed (by kernel_rfl) ?_
          refine F_pure rfl (fun _ _ => V_fieldAddr rfl rfl (by decide)) rfl rfl (.none rfl) ?_
          refine F_load rfl (.head _) (V_load rfl rfl (Cell.own (.head _) rfl)) rfl rfl (.none rfl) ?_
          refine F_pure rfl (fun _ _ => V_fieldAddr rfl rfl (by decide)) rfl rfl (.none rfl) ?_
          refine F_load rfl (.head _) (V_load rfl rfl (Cell.own (.head _) rfl)) rfl rfl (.none rfl) ?_
          (refine F_litZ rfl rfl rfl (by decide) (by simp [fillS, zeros, setLs, setL, Value.cells, List.range, List.range.loop]; rfl) (by rfl) rfl rfl (.none rfl) ?_; intro b228 E228 hE228 hs228)
          replace hg0 := hg0.mono hE228
          replace hs := hs.mono hE228
          replace hr := hr.mono hE228
          refine F_pure rfl (fun _ _ => V_assign rfl rfl) rfl rfl (.none rfl) ?_
          refine F_pure rfl (fun _ _ => V_assign rfl rfl) rfl rfl (.none rfl) ?_
          (refine F_end (.nil _) ?_; dsimp only [List.drop])
          refine G_end (X_block (X_then (G_seq (G_region ?_))))
          refine Gm ?_
          refine Gv (V_fieldAddr rfl rfl (by decide)) ?_
          refine Gv (V_load rfl rfl (Cell.own (.head _) rfl)) ?_
          refine Gv (V_lenS rfl rfl) ?_
          refine G.sub [(7, .bool true), (8, .pointer (some ⟨b8, 0, none⟩)), (9, .slice a l.length ca), (12, .int .i64 g.start), (14, .slice (some ⟨b228, 0, none⟩) 1 1), (229, .int .i64 k), (232, .int .i64 g.prods.length)] ⟨rfl, rfl, rfl, rfl, rfl, rfl, rfl, trivial⟩ ?_
          exact hk2 (E228, some ⟨b228, 0, none⟩, 1, [g.start]) ⟨hE228, by rw [hw, hrb0], by assumption, Nat.le_refl _⟩
        · have hw : wantP g l = (awS g.prods l).2 := by rw [wantP, if_neg e0]
          have hrb1 := rest_bump hch (.inr (by omega))
          rw [← hrbe, ← hw] at hrb1
          rw [hw] at hrb1
          refine G_seq (G_seq (G_region ?_))
          refine Gm ?_
          refine Gm ?_
          refine Gv (V_lenS rfl rfl) ?_
          refine Gv (V_lss rfl rfl rfl) ?_
          refine G_end (X_then ?_)
          refine G_cond_f rfl (decide_eq_false (by omega)) ?_
          refine G_exit (X_then_exit (X_then_exit (X_block_hit (X_then (G_seq (G_seq (G_region ?_)))))))
          refine Gm ?_
          refine G_end (X_then (G_block (G_seq (G_region ?_))))
          refine Gv (V_eql rfl rfl rfl) ?_
          refine Ga ?_
          refine G_end (X_then ?_)
          refine G_cond_f rfl (decide_eq_false (by omega)) ?_
          refine G_seq (G_region ?_)
          refine Gv (V_eql rfl rfl rfl) ?_
          refine Ga ?_
          refine G_end (X_then ?_)
          refine G_cond_f rfl (decide_eq_false (by omega)) ?_
          refine G_seq (G_region ?_)
          refine Gv (V_eql rfl rfl rfl) ?_
          refine Ga ?_
          refine G_end (X_then ?_)
          refine G_cond_f rfl (decide_eq_false (by omega)) ?_
          refine G_skip (X_block (X_then (G_seq (G_region ?_))))
          refine Gm ?_
          refine Gv (V_fieldAddr rfl rfl (by decide)) ?_
          refine Gv (V_load rfl rfl (Cell.own (.head _) rfl)) ?_
          refine Gv (V_lenS rfl rfl) ?_
          rw [hrb1] at hr hrc ⊢
          refine G.sub [(7, .bool true), (8, .pointer (some ⟨b8, 0, none⟩)), (9, .slice a l.length ca), (12, .int .i64 (awS g.prods l).2), (14, .slice pr ((awS g.prods l).2 :: rb).length cr), (229, .int .i64 k), (232, .int .i64 g.prods.length)] ⟨rfl, rfl, rfl, rfl, rfl, rfl, rfl, trivial⟩ ?_
          exact hk2 (E5, pr, cr, (awS g.prods l).2 :: rb) ⟨.refl _, by rw [hw], hr, hrc⟩
      · rintro ⟨E6, p6, c6, rl⟩ ⟨hE6, hrl, hr6, hc6⟩
        simp only at hE6 hrl hr6 hc6 ⊢
        clear hr hrc hrn
        subst hrl
        subst hrbe
        generalize hrbe : restL g.prods (bump l) = rb at *
        rw [List.headD_cons]
        replace hps := (((hps.mono hE3).mono hE4).mono hE5).mono hE6
        replace hre := (((hre.mono hE3).mono hE4).mono hE5).mono hE6
        obtain ⟨q0, hq0, _⟩ := wantP_some hgc hch hk
        have hpk := fun (m : Nat) (h : m < g.prods.length) (hw : leftP g.prods (m : Nat) = wantP g l) => push_ok hgc hch hk (by omega) h hw
        have hpn := fun (m : Nat) (h : m < g.prods.length) (hw : leftP g.prods (m : Nat) ≠ wantP g l) => push_kind hch hk h hw
        generalize wantP g l = w at *
        replace hg0 := hg0.mono hE6
        replace hs := hs.mono hE6
        refine G_call (k := 25) (.mk rfl rfl rfl rfl) rfl rfl (.none rfl) (Mod_call'' _ _ k _ hk' ⟨by omega, by omega⟩) ?_
        rintro x7 E7 L7 hE7 ⟨m, rfl, hm, rfl, rfl⟩
        have hm2 : m < g.prods.length := by omega
        have hm3 : m < rows.length := by omega
        have hrow := List.getElem?_eq_getElem hm3
        have hpm : g.prods[m]? = some rows[m].2.2 := by rw [← hrows, List.getElem?_map, hrow]; rfl
        have hlm := leftP_eq hpm
        have hrm := rightP_eq hpm
        have h8 := hl.ps _ (List.mem_of_getElem? hpm)
        have hrow2 : rows[((m : Nat) : Int).toNat]? = some rows[m] := by rw [Int.toNat_natCast]; exact hrow
        have x1 := prows_left hrow2
        have x2 := prows_right hrow2
        have x3 := hre.get hrow
        generalize rows[m] = row at *
        by_cases hw : row.2.2.1 = w
        · obtain ⟨hp1, hp2⟩ := hpk m hm2 (hlm.trans hw)
          subst hw
          refine Ga ?_
          refine G_end (X_then (G_seq (G_region ?_)))
          refine Gv (V_loadA rfl rfl (Cells.own (.head _)) rfl) ?_
          refine Gm ?_
          refine Gm ?_
          refine G_call (k := 11) (.mk rfl rfl rfl rfl) rfl rfl (.none rfl) (SPush_call' hg0 hl hs (by omega) hca hp1) ?_
          rintro x8 E8 L8 hE8 ⟨⟨a8, c8, rfl, hs8, hc8⟩, rfl⟩
          replace hg0 := hg0.mono hE8
          replace hps := hps.mono hE8
          replace x3 := x3.mono hE8
          replace hr6 := hr6.mono hE8
          have hbl8 : (bump l ++ [((m : Int), (0 : Int))]).length = l.length + 1 := by simp [hbl]
          have hrp : restL g.prods (bump l ++ [((m : Int), (0 : Int))]) = row.2.2.2 ++ rb := by rw [rest_push, hrm, hrbe]
          have htl := hr6.tail (l := 1) (c := c6) (by simp) hc6
          rw [i64s_dropN, List.drop_succ_cons, List.drop_zero] at htl
          refine Gm ?_
          refine Gv (V_extract rfl rfl rfl) ?_
          refine Gv (V_extract rfl rfl rfl) ?_
          refine Ga ?_
          refine Ga ?_
          refine G_end (X_then (G_seq (G_seq (G_region ?_))))
          refine Gv (V_fieldAddr rfl rfl (by decide)) ?_
          refine Gv (V_load rfl rfl (Cell.own (.head _) rfl)) ?_
          refine Gm ?_
          refine Gv (V_idxAddr rfl rfl rfl (SlE.rd (by assumption)) (by omega) (by omega)) ?_
          refine Gv (V_fieldAddrE rfl rfl (by assumption) (by omega) (by decide)) ?_
          refine Gv (V_loadS rfl rfl (SlE.rd hps) x1 (by simp)) ?_
          refine Gm ?_
          refine Gv (V_neq rfl rfl rfl) ?_
          refine G_end (X_then ?_)
          refine G_cond_f rfl (decide_eq_false (by omega)) ?_
          refine G_skip (X_then (G_seq (G_region ?_)))
          refine Gv (V_loadA rfl rfl (Cells.own (.head _)) rfl) ?_
          refine Gm ?_
          refine G_call (k := 16) (.mk rfl rfl rfl rfl) rfl rfl (.none rfl) (SRest_call' hg0 hl hs8 (by omega) hp2) ?_
          rw [hrp]
          rintro x9 E9 L9 hE9 ⟨⟨a9, c9, rfl, hr9, _, hn9⟩, rfl⟩
          replace hg0 := hg0.mono hE9
          replace hps := hps.mono hE9
          replace x3 := x3.mono hE9
          replace hr6 := hr6.mono hE9
          replace htl := htl.mono hE9
          replace hs8 := hs8.mono hE9
          have hrbl : (row.2.2.1 :: rb).length = rb.length + 1 := rfl
          have hapl : (row.2.2.2 ++ rb).length = row.2.2.2.length + rb.length := List.length_append
          by_cases hr0 : row.2.2.2.length = 0
          · have hnil : row.2.2.2 = [] := List.eq_nil_of_length_eq_zero hr0
            have hcb : chkS g (bump l) = 0 := pop_chk hgc hp2
            have hpop : popM g (bump l ++ [((m : Int), (0 : Int))]) = (bump l, 0) := by
              have h3 : (awS g.prods (bump l ++ [((m : Int), (0 : Int))])).1 = 3 := by rw [awS_of_end (by rw [hrm, hnil]; rfl)]
              rw [pop_ok hp2 h3, List.dropLast_concat]
            have hap : row.2.2.2 ++ rb = rb := by rw [hnil]; rfl
            rw [hap] at hr9 hn9 ⊢
            by_cases hb0 : rb.length = 0
            · have hrb0 : rb = [] := List.eq_nil_of_length_eq_zero hb0
              refine Gm ?_
              refine Gv (V_extract rfl rfl rfl) ?_
              refine Gv (V_extract rfl rfl rfl) ?_
              refine Ga ?_
              refine Ga ?_
              refine G_end (X_then (G_seq (G_seq ?_)))
              refine G_drawX 35 [(0, 0), (1, 0), (2, 0), (3, 0), (4, 0), (5, 0), (6, 0), (7, 0), (8, 0), (9, 0), (10, 0), (11, 0), (12, 0), (13, 0), (14, 0), (15, 0), (16, 0), (17, 0), (18, 0), (19, 0), (20, 0), (22, 0), (23, 1), (24, 0), (25, 1), (26, 0), (27, 1), (21, 2), (28, 3), (29, 0), (30, 0), (31, 3), (32, 3), (33, 0), (34, 0)] mixed (by kernel_rfl) ?_
              refine F_pure rfl (fun _ _ => V_move rfl rfl) rfl rfl (.none rfl) ?_
              refine F_pure rfl (fun _ _ => V_neq rfl rfl rfl) rfl rfl (.none rfl) ?_
              refine F_pure rfl (fun _ _ => V_move rfl rfl) rfl rfl (.none rfl) ?_
              refine GF.bool_f 262 rfl (by kernel_rfl) ?_
              refine F_pure rfl (fun _ _ => V_move rfl rfl) rfl rfl (.yes rfl rfl rfl rfl) ?_
              refine F_pure rfl (fun _ _ => V_neq rfl rfl rfl) rfl rfl (.yes rfl rfl rfl rfl) ?_
              refine F_pure rfl (fun _ _ => V_pick_f rfl rfl rfl) rfl rfl (.none rfl) ?_
              refine F_pure rfl (fun _ _ => V_move rfl rfl) rfl rfl (.none rfl) ?_
              refine GF.bool_f 266 rfl (by kernel_rfl) ?_
              refine F_pure rfl (fun _ _ => V_move rfl rfl) rfl rfl (.yes rfl rfl rfl rfl) ?_
              refine F_pure rfl (fun _ _ => V_lenS rfl rfl) rfl rfl (.yes rfl rfl rfl rfl) ?_
              refine F_pure rfl (fun _ _ => V_eql rfl rfl rfl) rfl rfl (.yes rfl rfl rfl rfl) ?_
              refine F_pure rfl (fun _ _ => V_pick_f rfl rfl rfl) rfl rfl (.none rfl) ?_
              refine F_pure rfl (fun _ _ => V_move rfl rfl) rfl rfl (.none rfl) ?_
              refine GF.bool_f 271 rfl (decide_eq_false (by omega)) ?_
              refine F_pure rfl (fun _ _ => V_move rfl rfl) rfl rfl (.yes rfl rfl rfl rfl) ?_
              refine F_pure rfl (fun _ _ => V_lenS rfl rfl) rfl rfl (.yes rfl rfl rfl rfl) ?_
              refine F_pure rfl (fun _ _ => V_move rfl rfl) rfl rfl (.yes rfl rfl rfl rfl) ?_
              refine F_pure rfl (fun _ _ => V_lenS rfl rfl) rfl rfl (.yes rfl rfl rfl rfl) ?_
              refine F_pure rfl (fun _ _ => V_add_i64 rfl rfl rfl (by omega) (by omega)) rfl rfl (.yes rfl rfl rfl rfl) ?_
              refine F_pure rfl (fun _ _ => V_neq rfl rfl rfl) rfl rfl (.yes rfl rfl rfl rfl) ?_
              refine F_pure rfl (fun _ _ => V_pick_f rfl rfl rfl) rfl rfl (.none rfl) ?_
              refine F_pure rfl (fun _ _ => V_move rfl rfl) rfl rfl (.none rfl) ?_
              refine GF.bool_f 279 rfl (decide_eq_false (by omega)) ?_
              refine F_pure rfl (fun _ _ => V_move rfl rfl) rfl rfl (.yes rfl rfl rfl rfl) ?_
              refine F_pure rfl (fun _ _ => V_fieldAddr rfl rfl (by decide)) rfl rfl (.yes rfl rfl rfl rfl) ?_
              refine F_load rfl (.head _) (V_load rfl rfl (Cell.own (.head _) rfl)) rfl rfl (.yes rfl rfl rfl rfl) ?_
              refine F_pure rfl (fun _ _ => V_move rfl rfl) rfl rfl (.yes rfl rfl rfl rfl) ?_
              refine F_loadE rfl (V_idxAddr rfl rfl rfl (SlE.rd (by assumption)) (by omega) (by omega)) rfl rfl (.yes rfl rfl rfl rfl) ?_
              refine F_pure rfl (fun _ _ => V_fieldAddrX rfl rfl (by assumption) (by omega) (by decide)) rfl rfl (.yes rfl rfl rfl rfl) ?_
              refine F_loadE rfl (V_loadS rfl rfl (SlE.rd (by assumption)) (by assumption) (by simp)) rfl rfl (.yes rfl rfl rfl rfl) ?_
              (refine F_lit0Z rfl rfl rfl rfl (.yes rfl rfl rfl rfl) ?_; intro b281 E281 hE281 hs281)
              replace hr9 := hr9.mono hE281
              replace hg0 := hg0.mono hE281
              replace hps := hps.mono hE281
              replace x3 := x3.mono hE281
              replace hr6 := hr6.mono hE281
              replace htl := htl.mono hE281
              replace hs8 := hs8.mono hE281
              (refine F_append0 rfl rfl rfl rfl (by omega) (by omega) rfl rfl (.yes rfl rfl rfl rfl) ?_)
              refine F_pure rfl (fun _ _ => V_move rfl rfl) rfl rfl (.yes rfl rfl rfl rfl) ?_
              refine F_pure rfl (fun _ _ => V_slTail1 rfl rfl rfl (by omega)) rfl rfl (.yes rfl rfl rfl rfl) ?_
              (refine F_append0 rfl rfl rfl rfl (by omega) (by omega) rfl rfl (.yes rfl rfl rfl rfl) ?_)
              refine F_callv (k := 20) rfl (.mk rfl rfl rfl rfl) rfl rfl (.yes rfl rfl rfl rfl) (fun _ => SameInts_call' _ _ _ _ _ _ _ _ _ _ (by assumption) (by exact SlE.toI (by assumption) rfl) (by omega) (by omega)) ?_
              refine F_pure rfl (fun _ _ => V_not rfl rfl) rfl rfl (.yes rfl rfl rfl rfl) ?_
              refine F_pure rfl (fun _ _ => V_pick_f rfl rfl rfl) rfl rfl (.none rfl) ?_
              (refine F_end (.nil _) ?_; dsimp only [List.drop])
              refine G_end (X_then ?_)
              refine G_cond_f rfl (by simp [*]; done) ?_
              refine G_skip (X_then (G_seq (G_seq (G_region ?_))))
              refine Gv (V_fieldAddr rfl rfl (by decide)) ?_
              refine Gv (V_load rfl rfl (Cell.own (.head _) rfl)) ?_
              refine Gm ?_
              refine Gv (V_idxAddr rfl rfl rfl (SlE.rd (by assumption)) (by omega) (by omega)) ?_
              refine Gv (V_fieldAddrE rfl rfl (by assumption) (by omega) (by decide)) ?_
              refine Gv (V_loadS rfl rfl (SlE.rd (by assumption)) (by assumption) (by simp)) ?_
              refine Gv (V_lenS rfl rfl) ?_
              refine Gv (V_gtr rfl rfl rfl) ?_
              refine G_end (X_then ?_)
              refine G_cond_f rfl (decide_eq_false (by omega)) ?_
              refine G_skip (X_then (G_seq (G_region ?_)))
              refine Gv (V_loadA rfl rfl (Cells.own (.head _)) rfl) ?_
              refine Gm ?_
              refine G_call (k := 15) (.mk rfl rfl rfl rfl) rfl rfl (.none rfl) (SPop_call' (by assumption) (by assumption) (by assumption) (by omega) (by assumption) (by assumption)) ?_
              rintro r1 E7 L8 hE10 ⟨⟨z11, ⟨z12, ⟨rfl, ⟨Z13, Z14⟩⟩⟩⟩, rfl⟩
              replace hs281 := hs281.mono hE10
              replace hr9 := hr9.mono hE10
              replace hg0 := hg0.mono hE10
              replace hps := hps.mono hE10
              replace x3 := x3.mono hE10
              replace hr6 := hr6.mono hE10
              replace htl := htl.mono hE10
              replace hs8 := hs8.mono hE10
              refine Gm ?_
              refine Gv (V_extract rfl rfl rfl) ?_
              refine Gv (V_extract rfl rfl rfl) ?_
              refine Ga ?_
              refine Ga ?_
              refine G_end (X_then (G_seq (G_region ?_)))
              refine Gv (V_loadA rfl rfl (Cells.own (.head _)) rfl) ?_
              refine Gm ?_
              refine G_call (k := 16) (.mk rfl rfl rfl rfl) rfl rfl (.none rfl) (SRest_call' (by assumption) (by assumption) (by assumption) (by omega) (by assumption)) ?_
              rintro r15 E16 L17 hE18 ⟨⟨z19, ⟨z20, ⟨rfl, ⟨Z21, ⟨Z22, Z23⟩⟩⟩⟩⟩, rfl⟩
              replace Z13 := Z13.mono hE18
              replace hs281 := hs281.mono hE18
              replace hr9 := hr9.mono hE18
              replace hg0 := hg0.mono hE18
              replace hps := hps.mono hE18
              replace x3 := x3.mono hE18
              replace hr6 := hr6.mono hE18
              replace htl := htl.mono hE18
              replace hs8 := hs8.mono hE18
              refine Gm ?_
              refine Gv (V_extract rfl rfl rfl) ?_
              refine Gv (V_extract rfl rfl rfl) ?_
              refine Ga ?_
              refine Ga ?_
              refine G_end (X_then (G_seq (G_region ?_)))
              refine Gm ?_
              refine Gm ?_
              refine Gy (V_move rfl rfl) ?_
              refine Gy (V_eql rfl rfl rfl) ?_
              refine Gv (V_pick_t rfl rfl rfl) ?_
              refine Gm ?_
              refine G.bool_t 321 rfl (by kernel_rfl) ?_
              refine Gy (V_move rfl rfl) ?_
              refine Gy (V_eql rfl rfl rfl) ?_
              refine Gv (V_pick_t rfl rfl rfl) ?_
              refine Gm ?_
              refine G.bool_t 325 rfl (by kernel_rfl) ?_
              refine Gy (V_move rfl rfl) ?_
              refine Gy (V_lenS rfl rfl) ?_
              refine Gy (V_move rfl rfl) ?_
              refine Gy (V_lenS rfl rfl) ?_
              refine Gy (V_eql rfl rfl rfl) ?_
              refine Gv (V_pick_t rfl rfl rfl) ?_
              refine Gm ?_
              refine G.bool_t 332 rfl (decide_eq_true (by omega)) ?_
              refine Gy (V_move rfl rfl) ?_
              refine Gy (V_move rfl rfl) ?_
              refine Gy (V_slTail1 rfl rfl rfl (by omega)) ?_
              refine G_callv (k := 20) (.mk rfl rfl rfl rfl) rfl rfl (.yes rfl rfl rfl rfl) (SameInts_call' _ _ _ _ _ _ _ _ _ _ (by assumption) (by assumption) (by omega) (by omega)) ?_
              refine Gv (V_pick_t rfl rfl rfl) ?_
              refine Ga ?_
              refine G_end (X_then (G_ret ?_))
              refine G_leaveS (.drop _ (.nil _)) (by exact (.cons (.tmp rfl) (.nil))) rfl ?_ ?_
              · exact ((((((((((hE1.trans hE2).trans hE3).trans hE4).trans hE5).trans hE6).trans hE8).trans hE9).trans hE281).trans hE10).trans hE18)
              exact ⟨(by (simp [resVal, *]; done)), (by rfl)⟩
            · have hb1 : 0 < rb.length := by omega
              refine Gm ?_
              refine Gv (V_extract rfl rfl rfl) ?_
              refine Gv (V_extract rfl rfl rfl) ?_
              refine Ga ?_
              refine Ga ?_
              refine G_end (X_then (G_seq (G_seq ?_)))
              refine G_drawX 35 [(0, 0), (1, 0), (2, 0), (3, 0), (4, 0), (5, 0), (6, 0), (7, 0), (8, 0), (9, 0), (10, 0), (11, 0), (12, 0), (13, 0), (14, 0), (15, 0), (16, 0), (17, 0), (18, 0), (19, 0), (20, 0), (22, 0), (23, 1), (24, 0), (25, 1), (26, 0), (27, 1), (21, 2), (28, 3), (29, 0), (30, 0), (31, 3), (32, 3), (33, 0), (34, 0)] mixed (by kernel_rfl) ?_
              refine F_pure rfl (fun _ _ => V_move rfl rfl) rfl rfl (.none rfl) ?_
              refine F_pure rfl (fun _ _ => V_neq rfl rfl rfl) rfl rfl (.none rfl) ?_
              refine F_pure rfl (fun _ _ => V_move rfl rfl) rfl rfl (.none rfl) ?_
              refine GF.bool_f 262 rfl (by kernel_rfl) ?_
              refine F_pure rfl (fun _ _ => V_move rfl rfl) rfl rfl (.yes rfl rfl rfl rfl) ?_
              refine F_pure rfl (fun _ _ => V_neq rfl rfl rfl) rfl rfl (.yes rfl rfl rfl rfl) ?_
              refine F_pure rfl (fun _ _ => V_pick_f rfl rfl rfl) rfl rfl (.none rfl) ?_
              refine F_pure rfl (fun _ _ => V_move rfl rfl) rfl rfl (.none rfl) ?_
              refine GF.bool_f 266 rfl (by kernel_rfl) ?_
              refine F_pure rfl (fun _ _ => V_move rfl rfl) rfl rfl (.yes rfl rfl rfl rfl) ?_
              refine F_pure rfl (fun _ _ => V_lenS rfl rfl) rfl rfl (.yes rfl rfl rfl rfl) ?_
              refine F_pure rfl (fun _ _ => V_eql rfl rfl rfl) rfl rfl (.yes rfl rfl rfl rfl) ?_
              refine F_pure rfl (fun _ _ => V_pick_f rfl rfl rfl) rfl rfl (.none rfl) ?_
              refine F_pure rfl (fun _ _ => V_move rfl rfl) rfl rfl (.none rfl) ?_
              refine GF.bool_f 271 rfl (decide_eq_false (by omega)) ?_
              refine F_pure rfl (fun _ _ => V_move rfl rfl) rfl rfl (.yes rfl rfl rfl rfl) ?_
              refine F_pure rfl (fun _ _ => V_lenS rfl rfl) rfl rfl (.yes rfl rfl rfl rfl) ?_
              refine F_pure rfl (fun _ _ => V_move rfl rfl) rfl rfl (.yes rfl rfl rfl rfl) ?_
              refine F_pure rfl (fun _ _ => V_lenS rfl rfl) rfl rfl (.yes rfl rfl rfl rfl) ?_
              refine F_pure rfl (fun _ _ => V_add_i64 rfl rfl rfl (by omega) (by omega)) rfl rfl (.yes rfl rfl rfl rfl) ?_
              refine F_pure rfl (fun _ _ => V_neq rfl rfl rfl) rfl rfl (.yes rfl rfl rfl rfl) ?_
              refine F_pure rfl (fun _ _ => V_pick_f rfl rfl rfl) rfl rfl (.none rfl) ?_
              refine F_pure rfl (fun _ _ => V_move rfl rfl) rfl rfl (.none rfl) ?_
              refine GF.bool_f 279 rfl (decide_eq_false (by omega)) ?_
              refine F_pure rfl (fun _ _ => V_move rfl rfl) rfl rfl (.yes rfl rfl rfl rfl) ?_
              refine F_pure rfl (fun _ _ => V_fieldAddr rfl rfl (by decide)) rfl rfl (.yes rfl rfl rfl rfl) ?_
              refine F_load rfl (.head _) (V_load rfl rfl (Cell.own (.head _) rfl)) rfl rfl (.yes rfl rfl rfl rfl) ?_
              refine F_pure rfl (fun _ _ => V_move rfl rfl) rfl rfl (.yes rfl rfl rfl rfl) ?_
              refine F_loadE rfl (V_idxAddr rfl rfl rfl (SlE.rd (by assumption)) (by omega) (by omega)) rfl rfl (.yes rfl rfl rfl rfl) ?_
              refine F_pure rfl (fun _ _ => V_fieldAddrX rfl rfl (by assumption) (by omega) (by decide)) rfl rfl (.yes rfl rfl rfl rfl) ?_
              refine F_loadE rfl (V_loadS rfl rfl (SlE.rd (by assumption)) (by assumption) (by simp)) rfl rfl (.yes rfl rfl rfl rfl) ?_
              (refine F_lit0Z rfl rfl rfl rfl (.yes rfl rfl rfl rfl) ?_; intro b281 E281 hE281 hs281)
              replace hr9 := hr9.mono hE281
              replace hg0 := hg0.mono hE281
              replace hps := hps.mono hE281
              replace x3 := x3.mono hE281
              replace hr6 := hr6.mono hE281
              replace htl := htl.mono hE281
              replace hs8 := hs8.mono hE281
              (refine F_append0 rfl rfl rfl rfl (by omega) (by omega) rfl rfl (.yes rfl rfl rfl rfl) ?_)
              refine F_pure rfl (fun _ _ => V_move rfl rfl) rfl rfl (.yes rfl rfl rfl rfl) ?_
              refine F_pure rfl (fun _ _ => V_slTail1 rfl rfl rfl (by omega)) rfl rfl (.yes rfl rfl rfl rfl) ?_
              (refine F_appendZ rfl rfl rfl rfl (by assumption) (by assumption) (by omega) (by omega) (by omega) rfl rfl (.yes rfl rfl rfl rfl) ?_; intro b291 c291 E291 hE291 hs291 hc291)
              replace hs281 := hs281.mono hE291
              replace hr9 := hr9.mono hE291
              replace hg0 := hg0.mono hE291
              replace hps := hps.mono hE291
              replace x3 := x3.mono hE291
              replace hr6 := hr6.mono hE291
              replace htl := htl.mono hE291
              replace hs8 := hs8.mono hE291
              refine F_callv (k := 20) rfl (.mk rfl rfl rfl rfl) rfl rfl (.yes rfl rfl rfl rfl) (fun _ => SameInts_call' _ _ _ _ _ _ _ _ _ _ (by assumption) (by assumption) (by omega) (by omega)) ?_
              refine F_pure rfl (fun _ _ => V_not rfl rfl) rfl rfl (.yes rfl rfl rfl rfl) ?_
              refine F_pure rfl (fun _ _ => V_pick_f rfl rfl rfl) rfl rfl (.none rfl) ?_
              (refine F_end (.nil _) ?_; dsimp only [List.drop])
              refine G_end (X_then ?_)
              refine G_cond_f rfl (by simp [*]; done) ?_
              refine G_skip (X_then (G_seq (G_seq (G_region ?_))))
              refine Gv (V_fieldAddr rfl rfl (by decide)) ?_
              refine Gv (V_load rfl rfl (Cell.own (.head _) rfl)) ?_
              refine Gm ?_
              refine Gv (V_idxAddr rfl rfl rfl (SlE.rd (by assumption)) (by omega) (by omega)) ?_
              refine Gv (V_fieldAddrE rfl rfl (by assumption) (by omega) (by decide)) ?_
              refine Gv (V_loadS rfl rfl (SlE.rd (by assumption)) (by assumption) (by simp)) ?_
              refine Gv (V_lenS rfl rfl) ?_
              refine Gv (V_gtr rfl rfl rfl) ?_
              refine G_end (X_then ?_)
              refine G_cond_f rfl (decide_eq_false (by omega)) ?_
              refine G_skip (X_then (G_seq (G_region ?_)))
              refine Gv (V_loadA rfl rfl (Cells.own (.head _)) rfl) ?_
              refine Gm ?_
              refine G_call (k := 15) (.mk rfl rfl rfl rfl) rfl rfl (.none rfl) (SPop_call' (by assumption) (by assumption) (by assumption) (by omega) (by assumption) (by assumption)) ?_
              rintro r1 E7 L8 hE10 ⟨⟨z11, ⟨z12, ⟨rfl, ⟨Z13, Z14⟩⟩⟩⟩, rfl⟩
              replace hs291 := hs291.mono hE10
              replace hs281 := hs281.mono hE10
              replace hr9 := hr9.mono hE10
              replace hg0 := hg0.mono hE10
              replace hps := hps.mono hE10
              replace x3 := x3.mono hE10
              replace hr6 := hr6.mono hE10
              replace htl := htl.mono hE10
              replace hs8 := hs8.mono hE10
              refine Gm ?_
              refine Gv (V_extract rfl rfl rfl) ?_
              refine Gv (V_extract rfl rfl rfl) ?_
              refine Ga ?_
              refine Ga ?_
              refine G_end (X_then (G_seq (G_region ?_)))
              refine Gv (V_loadA rfl rfl (Cells.own (.head _)) rfl) ?_
              refine Gm ?_
              refine G_call (k := 16) (.mk rfl rfl rfl rfl) rfl rfl (.none rfl) (SRest_call' (by assumption) (by assumption) (by assumption) (by omega) (by assumption)) ?_
              rintro r15 E16 L17 hE18 ⟨⟨z19, ⟨z20, ⟨rfl, ⟨Z21, ⟨Z22, Z23⟩⟩⟩⟩⟩, rfl⟩
              replace Z13 := Z13.mono hE18
              replace hs291 := hs291.mono hE18
              replace hs281 := hs281.mono hE18
              replace hr9 := hr9.mono hE18
              replace hg0 := hg0.mono hE18
              replace hps := hps.mono hE18
              replace x3 := x3.mono hE18
              replace hr6 := hr6.mono hE18
              replace htl := htl.mono hE18
              replace hs8 := hs8.mono hE18
              refine Gm ?_
              refine Gv (V_extract rfl rfl rfl) ?_
              refine Gv (V_extract rfl rfl rfl) ?_
              refine Ga ?_
              refine Ga ?_
              refine G_end (X_then (G_seq (G_region ?_)))
              refine Gm ?_
              refine Gm ?_
              refine Gy (V_move rfl rfl) ?_
              refine Gy (V_eql rfl rfl rfl) ?_
              refine Gv (V_pick_t rfl rfl rfl) ?_
              refine Gm ?_
              refine G.bool_t 321 rfl (by kernel_rfl) ?_
              refine Gy (V_move rfl rfl) ?_
              refine Gy (V_eql rfl rfl rfl) ?_
              refine Gv (V_pick_t rfl rfl rfl) ?_
              refine Gm ?_
              refine G.bool_t 325 rfl (by kernel_rfl) ?_
              refine Gy (V_move rfl rfl) ?_
              refine Gy (V_lenS rfl rfl) ?_
              refine Gy (V_move rfl rfl) ?_
              refine Gy (V_lenS rfl rfl) ?_
              refine Gy (V_eql rfl rfl rfl) ?_
              refine Gv (V_pick_t rfl rfl rfl) ?_
              refine Gm ?_
              refine G.bool_t 332 rfl (decide_eq_true (by omega)) ?_
              refine Gy (V_move rfl rfl) ?_
              refine Gy (V_move rfl rfl) ?_
              refine Gy (V_slTail1 rfl rfl rfl (by omega)) ?_
              refine G_callv (k := 20) (.mk rfl rfl rfl rfl) rfl rfl (.yes rfl rfl rfl rfl) (SameInts_call' _ _ _ _ _ _ _ _ _ _ (by assumption) (by assumption) (by omega) (by omega)) ?_
              refine Gv (V_pick_t rfl rfl rfl) ?_
              refine Ga ?_
              refine G_end (X_then (G_ret ?_))
              refine G_leaveS (.drop _ (.nil _)) (by exact (.cons (.tmp rfl) (.nil))) rfl ?_ ?_
              · exact (((((((((((hE1.trans hE2).trans hE3).trans hE4).trans hE5).trans hE6).trans hE8).trans hE9).trans hE281).trans hE291).trans hE10).trans hE18)
              exact ⟨(by (simp [resVal, *]; done)), (by rfl)⟩
          · have hr1 : 0 < row.2.2.2.length := by omega
            refine Gm ?_
            refine Gv (V_extract rfl rfl rfl) ?_
            refine Gv (V_extract rfl rfl rfl) ?_
            refine Ga ?_
            refine Ga ?_
            refine G_end (X_then (G_seq (G_seq ?_)))
            refine G_drawX 35 [(0, 0), (1, 0), (2, 0), (3, 0), (4, 0), (5, 0), (6, 0), (7, 0), (8, 0), (9, 0), (10, 0), (11, 0), (12, 0), (13, 0), (14, 0), (15, 0), (16, 0), (17, 0), (18, 0), (19, 0), (20, 0), (22, 0), (23, 1), (24, 0), (25, 1), (26, 0), (27, 1), (21, 2), (28, 3), (29, 0), (30, 0), (31, 3), (32, 3), (33, 0), (34, 0)] mixed (by kernel_rfl) ?_
            refine F_pure rfl (fun _ _ => V_move rfl rfl) rfl rfl (.none rfl) ?_
            refine F_pure rfl (fun _ _ => V_neq rfl rfl rfl) rfl rfl (.none rfl) ?_
            refine F_pure rfl (fun _ _ => V_move rfl rfl) rfl rfl (.none rfl) ?_
            refine GF.bool_f 262 rfl (by kernel_rfl) ?_
            refine F_pure rfl (fun _ _ => V_move rfl rfl) rfl rfl (.yes rfl rfl rfl rfl) ?_
            refine F_pure rfl (fun _ _ => V_neq rfl rfl rfl) rfl rfl (.yes rfl rfl rfl rfl) ?_
            refine F_pure rfl (fun _ _ => V_pick_f rfl rfl rfl) rfl rfl (.none rfl) ?_
            refine F_pure rfl (fun _ _ => V_move rfl rfl) rfl rfl (.none rfl) ?_
            refine GF.bool_f 266 rfl (by kernel_rfl) ?_
            refine F_pure rfl (fun _ _ => V_move rfl rfl) rfl rfl (.yes rfl rfl rfl rfl) ?_
            refine F_pure rfl (fun _ _ => V_lenS rfl rfl) rfl rfl (.yes rfl rfl rfl rfl) ?_
            refine F_pure rfl (fun _ _ => V_eql rfl rfl rfl) rfl rfl (.yes rfl rfl rfl rfl) ?_
            refine F_pure rfl (fun _ _ => V_pick_f rfl rfl rfl) rfl rfl (.none rfl) ?_
            refine F_pure rfl (fun _ _ => V_move rfl rfl) rfl rfl (.none rfl) ?_
            refine GF.bool_f 271 rfl (decide_eq_false (by omega)) ?_
            refine F_pure rfl (fun _ _ => V_move rfl rfl) rfl rfl (.yes rfl rfl rfl rfl) ?_
            refine F_pure rfl (fun _ _ => V_lenS rfl rfl) rfl rfl (.yes rfl rfl rfl rfl) ?_
            refine F_pure rfl (fun _ _ => V_move rfl rfl) rfl rfl (.yes rfl rfl rfl rfl) ?_
            refine F_pure rfl (fun _ _ => V_lenS rfl rfl) rfl rfl (.yes rfl rfl rfl rfl) ?_
            refine F_pure rfl (fun _ _ => V_add_i64 rfl rfl rfl (by omega) (by omega)) rfl rfl (.yes rfl rfl rfl rfl) ?_
            refine F_pure rfl (fun _ _ => V_neq rfl rfl rfl) rfl rfl (.yes rfl rfl rfl rfl) ?_
            refine F_pure rfl (fun _ _ => V_pick_f rfl rfl rfl) rfl rfl (.none rfl) ?_
            refine F_pure rfl (fun _ _ => V_move rfl rfl) rfl rfl (.none rfl) ?_
            refine GF.bool_f 279 rfl (decide_eq_false (by omega)) ?_
            refine F_pure rfl (fun _ _ => V_move rfl rfl) rfl rfl (.yes rfl rfl rfl rfl) ?_
            refine F_pure rfl (fun _ _ => V_fieldAddr rfl rfl (by decide)) rfl rfl (.yes rfl rfl rfl rfl) ?_
            refine F_load rfl (.head _) (V_load rfl rfl (Cell.own (.head _) rfl)) rfl rfl (.yes rfl rfl rfl rfl) ?_
            refine F_pure rfl (fun _ _ => V_move rfl rfl) rfl rfl (.yes rfl rfl rfl rfl) ?_
            refine F_loadE rfl (V_idxAddr rfl rfl rfl (SlE.rd (by assumption)) (by omega) (by omega)) rfl rfl (.yes rfl rfl rfl rfl) ?_
            refine F_pure rfl (fun _ _ => V_fieldAddrX rfl rfl (by assumption) (by omega) (by decide)) rfl rfl (.yes rfl rfl rfl rfl) ?_
            refine F_loadE rfl (V_loadS rfl rfl (SlE.rd (by assumption)) (by assumption) (by simp)) rfl rfl (.yes rfl rfl rfl rfl) ?_
            (refine F_lit0Z rfl rfl rfl rfl (.yes rfl rfl rfl rfl) ?_; intro b281 E281 hE281 hs281)
            replace hr9 := hr9.mono hE281
            replace hg0 := hg0.mono hE281
            replace hps := hps.mono hE281
            replace x3 := x3.mono hE281
            replace hr6 := hr6.mono hE281
            replace htl := htl.mono hE281
            replace hs8 := hs8.mono hE281
            (refine F_appendO rfl rfl rfl rfl (by assumption) (by assumption) (by omega) (by omega) (by omega) rfl rfl (.yes rfl rfl rfl rfl) ?_; intro b288 c288)
            refine F_pure rfl (fun _ _ => V_move rfl rfl) rfl rfl (.yes rfl rfl rfl rfl) ?_
            refine F_pure rfl (fun _ _ => V_slTail1 rfl rfl rfl (by omega)) rfl rfl (.yes rfl rfl rfl rfl) ?_
            (refine F_append2 rfl rfl rfl rfl (by assumption) (by simp [Value.oneCell', strs, i64s]) (by omega) (by omega) rfl rfl (.yes rfl rfl rfl rfl) (fun _ _ => (.head _ _ _)) ?_; intro b291 c291 N291; dsimp only [List.cons_append])
            refine F_freezeSl rfl (.yes rfl rfl rfl rfl) (.head _ _) ?_
            intro E20 hE20 hz20 hzc20
            have hz21 : SlE E20 1 (some ⟨b291, 0, none⟩) (row.2.2.2.length + rb.length) (i64s (row.2.2.2 ++ rb)) := by
              have e1 : i64s [] ++ i64s row.2.2.2 ++ i64s rb = i64s (row.2.2.2 ++ rb) := by simp [i64s]
              have e2 : 0 + row.2.2.2.length + ((row.2.2.1 :: rb).length - 1) = row.2.2.2.length + rb.length := by omega
              rw [← e1, ← e2]
              exact hz20
            replace hr9 := hr9.mono hE20
            replace hps := hps.mono hE20
            refine F_callv (k := 20) rfl (.mk rfl rfl rfl rfl) rfl rfl (.yes rfl rfl rfl rfl) (fun _ => SameInts_call' _ _ _ _ _ _ _ _ _ _ (by assumption) (by (simp; omega)) (by omega) (by omega)) ?_
            refine F_pure rfl (fun _ _ => V_not rfl rfl) rfl rfl (.yes rfl rfl rfl rfl) ?_
            refine F_pure rfl (fun _ _ => V_pick_f rfl rfl rfl) rfl rfl (.none rfl) ?_
            (refine F_end (.keep _ (.suf _ (.nil _))) ?_; dsimp only [List.drop])
            refine G_end (X_then ?_)
            refine G_cond_f rfl (by simp [*]; done) ?_
            refine G_skip (X_then (G_seq (G_seq (G_region ?_))))
            refine Gv (V_fieldAddr rfl rfl (by decide)) ?_
            refine Gv (V_load rfl rfl (Cell.own (.head _) rfl)) ?_
            refine Gm ?_
            refine Gv (V_idxAddr rfl rfl rfl (SlE.rd (by assumption)) (by omega) (by omega)) ?_
            refine Gv (V_fieldAddrE rfl rfl (by assumption) (by omega) (by decide)) ?_
            refine Gv (V_loadS rfl rfl (SlE.rd (by assumption)) (by assumption) (by simp)) ?_
            refine Gv (V_lenS rfl rfl) ?_
            refine Gv (V_gtr rfl rfl rfl) ?_
            refine G_end (X_then ?_)
            refine G_cond_t rfl (decide_eq_true (by omega)) ?_
            refine G_seq (G_region ?_)
            refine Gm ?_
            refine Ga ?_
            refine G_end (X_then (G_ret (X_then_ret ?_)))
            refine G_leaveS (.drop _ (.nil _)) (by exact (.cons (.tmp rfl) (.nil))) rfl ?_ ?_
            · exact (((((((((hE1.trans hE2).trans hE3).trans hE4).trans hE5).trans hE6).trans hE8).trans hE9).trans hE281).trans hE20)
            exact ⟨(by kernel_rfl), rfl⟩
        · have hp1 := hpn m hm2 (fun h => hw (hlm.symm.trans h))
          refine Ga ?_
          refine G_end (X_then (G_seq (G_region ?_)))
          refine Gv (V_loadA rfl rfl (Cells.own (.head _)) rfl) ?_
          refine Gm ?_
          refine Gm ?_
          refine G_call (k := 11) (.mk rfl rfl rfl rfl) rfl rfl (.none rfl) (SPush_call' hg0 hl hs (by omega) hca hp1) ?_
          rintro x8 E8 L8 hE8 ⟨⟨a8, c8, rfl, hs8, hc8⟩, rfl⟩
          replace hps := hps.mono hE8
          refine Gm ?_
          refine Gv (V_extract rfl rfl rfl) ?_
          refine Gv (V_extract rfl rfl rfl) ?_
          refine Ga ?_
          refine Ga ?_
          refine G_end (X_then (G_seq (G_seq (G_region ?_))))
          refine Gv (V_fieldAddr rfl rfl (by decide)) ?_
          refine Gv (V_load rfl rfl (Cell.own (.head _) rfl)) ?_
          refine Gm ?_
          refine Gv (V_idxAddr rfl rfl rfl (SlE.rd (by assumption)) (by omega) (by omega)) ?_
          refine Gv (V_fieldAddrE rfl rfl (by assumption) (by omega) (by decide)) ?_
          refine Gv (V_loadS rfl rfl (SlE.rd (by assumption)) x1 (by simp)) ?_
          refine Gm ?_
          refine Gv (V_neq rfl rfl rfl) ?_
          refine G_end (X_then ?_)
          refine G_cond_t rfl (decide_eq_true (by omega)) ?_
          refine G_seq (G_region ?_)
          refine Gm ?_
          refine Gm ?_
          refine Gy (V_move rfl rfl) ?_
          refine Gy (V_eql rfl rfl rfl) ?_
          refine Gv (V_pick_t rfl rfl rfl) ?_
          refine Ga ?_
          refine G_end (X_then (G_ret (X_then_ret ?_)))
          refine G_leaveS (.drop _ (.nil _)) (by exact (.cons (.tmp rfl) (.nil))) rfl ?_ ?_
          · exact ((((((hE1.trans hE2).trans hE3).trans hE4).trans hE5).trans hE6).trans hE8)
          exact ⟨(by kernel_rfl), rfl⟩
end
end Go.Proofs.YtaibabmladgldaaGreatDoor
