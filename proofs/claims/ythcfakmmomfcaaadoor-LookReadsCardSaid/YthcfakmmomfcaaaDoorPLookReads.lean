/-
  The row's proof: it returns true, whatever the input. The steps about the input's form were printed by a program of ours after the kit's shell; the walk stands in the texts that it imports.
-/
import Derived.Test.YthcfakmmomfcaaaDoorRows
import Derived.Test.YthcfakmmomfcaaaDoorQ9
import Derived.WalkKit
import Derived.ProofKit
import Derived.OpenShut
import Derived.ShutString
import Derived.ChangeOld
import Derived.Below
import Derived.Carry
import Derived.LaidMore
import Derived.Lay
import Derived.SevenTiedAt
import Derived.Stop.Joined
import Derived.Test.YthcfakmmomfcaaaDoorCards
import Derived.Test.YthcfakmmomfcaaaDoorTie
namespace Go.Proofs.YthcfakmmomfcaaaDoor.lookReads
open Go.ChangeShapes Go.WideShapes Go.ChangeAt Go.RowKit
open Go.ChangeMaps (open_string shut_string)
set_option linter.unusedVariables false

theorem own : ownKnob Tryd.prog.godebug = none := by kernel_rfl
theorem laidOut : laidOutB Tryd.prog = true := by kernel_rfl

theorem tab {W : World} (h : laidMetH Tryd.prog (Rows.lookReadsRow.laid) W) : SlE (Env.of W) 1 (some ⟨5, 1, none⟩) 1 [.int .u8 1] := by
  rw [MakeChecks.laidMetH_plain _ _ _ (by kernel_rfl)] at h
  exact tab_of h rfl
theorem walk (a0 : List UInt8) (a1 : Int) (a2 : Int) (a3 : Int) (a4_0 : Int) (a4_1_0 : Int) (a4_1_1 : Int) (a4_1_2 : Int) (a4_1_3 : Int) (w : World) (hT : SlE (Env.of w) 1 (some ⟨5, 1, none⟩) 1 [.int .u8 1]) (w0 : a0.length ≤ 9223372036854775807) (w1 : (Lit.int .i64 a1).wf = true) (w2 : (Lit.int .i64 a2).wf = true) (w3 : (Lit.int .i64 a3).wf = true) (w4_0 : (Lit.int .i64 a4_0).wf = true) (w4_1_0 : (Lit.int .i64 a4_1_0).wf = true) (w4_1_1 : (Lit.int .i64 a4_1_1).wf = true) (w4_1_2 : (Lit.int .i64 a4_1_2).wf = true) (w4_1_3 : (Lit.int .i64 a4_1_3).wf = true) :
    Calls Tryd.prog 5 #[.string (S a0), .int .i64 a1, .int .i64 a2, .int .i64 a3, .agg #[.int .i64 a4_0, .int .i64 a4_1_0, .int .i64 a4_1_1, .int .i64 a4_1_2, .int .i64 a4_1_3]] w fun e w' => e = .returned (.bool true) ∧ Below w.heap.size w w' := by
  exact CallS.run w (CallS.mono (LookReads_call _ [] hT _ w0 _ _ _ _ _ _ _ _) (fun _ _ _ _ h => ⟨h.1, h.2.symm⟩))

set_option maxRecDepth 100000 in
set_option maxHeartbeats 4000000 in
theorem lifted (os : Os) (started : os.Started) (H : Type) (enc : TypeId × Value → H) :
    ReturnsInHanded {} Tryd.checked os 5 .any (fun w args => (Rows.lookReadsSpec.pre enc Tryd.prog Tryd.f5 Rows.lookReadsRow.domain false w args ∧ laidMetH Tryd.prog (Rows.lookReadsRow.laid) w) ∧ sizedMet enc Tryd.prog Tryd.f5 (OpenSpec.ofChange Rows.lookReadsSpec) false w args) (Rows.lookReadsSpec.post enc Tryd.prog Tryd.f5 false true false false) := by
  refine returnsInHanded_of_change_and (C := Tryd.checked) (X := fun w _ => laidMetH Tryd.prog (Rows.lookReadsRow.laid) w) (fun _ _ _ hh h => h.of_heap hh) own started (by kernel_rfl) Tryd.func5
    (ChangeSpec.witness_shaped (enc := enc) (C := Tryd.checked) (os := os) (X := fun w _ => laidMetH Tryd.prog (Rows.lookReadsRow.laid) w) false (World.laidAll Tryd.prog os (Rows.lookReadsRow.laid)) #[.string ByteArray.empty, .int .i64 0, .int .i64 0, .int .i64 0, .agg #[.int .i64 0, .int .i64 0, .int .i64 0, .int .i64 0, .int .i64 0]] 8 (World.laidAll_os _ _ _)
      (World.shaped_of_ZipB (by kernel_rfl) (by kernel_rfl)) (by kernel_rfl) (by kernel_rfl) (by kernel_rfl)
      (by rw [MakeChecks.laidMetH_plain _ _ _ (by kernel_rfl)]; exact laidMet_laidAll _ (by kernel_rfl) (by kernel_rfl))) ?_
  intro W base args ds gs before hval0 hW hcnd _ hL _
  have hval : ∀ (j : Nat) t v, Tryd.f5.params[j]? = some t → args[j]? = some v → Value.okWide Tryd.prog W .any base t v := hval0
  have hW' := hW
  obtain ⟨p, q, hA0, hV, rfl, hfz, hnd⟩ := hW
  have hA : DataW.TrodAll enc Tryd.prog W 0 (fun _ => true) true Tryd.f5.params.toList args.toList ds p := hA0
  rw [Tryd.params5] at hA hval
  obtain ⟨v0, vs0, d0, ds0, p0, q0, hargs, rfl, rfl, h0, r0⟩ := trodAll_cons hA
  obtain ⟨v1, vs1, d1, ds1, p1, q1, rfl, rfl, rfl, h1, r1⟩ := trodAll_cons r0
  obtain ⟨v2, vs2, d2, ds2, p2, q2, rfl, rfl, rfl, h2, r2⟩ := trodAll_cons r1
  obtain ⟨v3, vs3, d3, ds3, p3, q3, rfl, rfl, rfl, h3, r3⟩ := trodAll_cons r2
  obtain ⟨v4, vs4, d4, ds4, p4, q4, rfl, rfl, rfl, h4, r4⟩ := trodAll_cons r3
  obtain ⟨rfl, rfl, rfl⟩ := trodAll_nil r4
  obtain rfl : args = #[v0, v1, v2, v3, v4] := by cases args; simp_all
  obtain ⟨rfl, rfl⟩ := trodVars_none hV
  obtain ⟨z0, rfl, rfl, rfl, w0⟩ := open_string Tryd.underlying9 (hval 0 9 v0 rfl rfl) h0
  obtain ⟨a0, rfl⟩ : ∃ a, z0 = S a := ⟨z0.data.toList, rfl⟩
  obtain ⟨a1, rfl, rfl, rfl, w1⟩ := open_int Tryd.underlying3 (hval 1 3 v1 rfl rfl) h1
  obtain ⟨a2, rfl, rfl, rfl, w2⟩ := open_int Tryd.underlying3 (hval 2 3 v2 rfl rfl) h2
  obtain ⟨a3, rfl, rfl, rfl, w3⟩ := open_int Tryd.underlying3 (hval 3 3 v3 rfl rfl) h3
  have k4 := h4
  have lt4 : ∀ x ∈ p4, x.block < W.heap.size := by obtain ⟨m, hm⟩ := k4; exact DataW.trod_lt m _ _ _ hm
  obtain ⟨cs4, rfl, hs4⟩ := okWide_struct Tryd.underlying25 (hval 4 25 v4 rfl rfl)
  obtain ⟨r4_0, rfl, l4_0⟩ := arr_cells (hs4.trans (show Tryd.prog.cellsOf 25 = 5 by kernel_rfl))
  obtain ⟨v4_0, r4_1, rfl, l4_1⟩ := list_cons l4_0
  obtain ⟨v4_1, r4_2, rfl, l4_2⟩ := list_cons l4_1
  obtain ⟨v4_2, r4_3, rfl, l4_3⟩ := list_cons l4_2
  obtain ⟨v4_3, r4_4, rfl, l4_4⟩ := list_cons l4_3
  obtain ⟨v4_4, r4_5, rfl, l4_5⟩ := list_cons l4_4
  obtain rfl := List.eq_nil_of_length_eq_zero l4_5
  obtain ⟨m4, hm4⟩ := h4
  replace hm4 : DataW.trod enc Tryd.prog W 0 (fun _ => true) true m4 25 [v4_0, v4_1, v4_2, v4_3, v4_4] = some _ := hm4
  obtain ⟨m4_0, y4_0, f4_0⟩ := struct_field Tryd.underlying25 hm4 0 3 0 1 rfl (by kernel_rfl)
  replace f4_0 : DataW.trod enc Tryd.prog W 0 (fun _ => true) true m4_0 3 [v4_0] = some y4_0 := f4_0
  obtain ⟨a4_0, e4_0, _, w4_0⟩ := DataW.trod_int Tryd.underlying3 f4_0
  cases e4_0
  obtain ⟨m4_1, y4_1, f4_1⟩ := struct_field Tryd.underlying25 hm4 1 23 1 4 rfl (by kernel_rfl)
  replace f4_1 : DataW.trod enc Tryd.prog W 0 (fun _ => true) true m4_1 23 [v4_1, v4_2, v4_3, v4_4] = some y4_1 := f4_1
  obtain ⟨m4_1_0, y4_1_0, f4_1_0⟩ := arr_field Tryd.underlying23 f4_1 0 0 1 (by decide) (by kernel_rfl) rfl
  replace f4_1_0 : DataW.trod enc Tryd.prog W 0 (fun _ => true) true m4_1_0 3 [v4_1] = some y4_1_0 := f4_1_0
  obtain ⟨a4_1_0, e4_1_0, _, w4_1_0⟩ := DataW.trod_int Tryd.underlying3 f4_1_0
  cases e4_1_0
  obtain ⟨m4_1_1, y4_1_1, f4_1_1⟩ := arr_field Tryd.underlying23 f4_1 1 1 1 (by decide) (by kernel_rfl) rfl
  replace f4_1_1 : DataW.trod enc Tryd.prog W 0 (fun _ => true) true m4_1_1 3 [v4_2] = some y4_1_1 := f4_1_1
  obtain ⟨a4_1_1, e4_1_1, _, w4_1_1⟩ := DataW.trod_int Tryd.underlying3 f4_1_1
  cases e4_1_1
  obtain ⟨m4_1_2, y4_1_2, f4_1_2⟩ := arr_field Tryd.underlying23 f4_1 2 2 1 (by decide) (by kernel_rfl) rfl
  replace f4_1_2 : DataW.trod enc Tryd.prog W 0 (fun _ => true) true m4_1_2 3 [v4_3] = some y4_1_2 := f4_1_2
  obtain ⟨a4_1_2, e4_1_2, _, w4_1_2⟩ := DataW.trod_int Tryd.underlying3 f4_1_2
  cases e4_1_2
  obtain ⟨m4_1_3, y4_1_3, f4_1_3⟩ := arr_field Tryd.underlying23 f4_1 3 3 1 (by decide) (by kernel_rfl) rfl
  replace f4_1_3 : DataW.trod enc Tryd.prog W 0 (fun _ => true) true m4_1_3 3 [v4_4] = some y4_1_3 := f4_1_3
  obtain ⟨a4_1_3, e4_1_3, _, w4_1_3⟩ := DataW.trod_int Tryd.underlying3 f4_1_3
  cases e4_1_3
  clear hA0 hval0
  refine (walk a0 a1 a2 a3 a4_0 a4_1_0 a4_1_1 a4_1_2 a4_1_3 W (tab hL) w0 w1 w2 w3 w4_0 w4_1_0 w4_1_1 w4_1_2 w4_1_3).mono fun e W' ⟨he, bel⟩ => ?_
  subst he
  exact ⟨_, rfl, _, _, _, [], _, [], hW', trodAll_mk1 (shut_bool Tryd.underlying4 _), (trodAll_cons_mk (shut_string Tryd.underlying9 w0) (trodAll_cons_mk (shut_int Tryd.underlying3 w1) (trodAll_cons_mk (shut_int Tryd.underlying3 w2) (trodAll_cons_mk (shut_int Tryd.underlying3 w3) (trodAll_cons_mk (Below.trod laidOut (by kernel_rfl) (of_decide_eq_true (by kernel_rfl)) k4 bel lt4) trodAll_mk0))))), rfl, bel.frame _, fun h => by cases h⟩

theorem over : Rows.lookReadsRow.holds Tryd.pinned (OpenSpec.ofChange Rows.lookReadsSpec) :=
  OpenClaim.holds_of_wide 5 Tryd.f5 rfl rfl rfl rfl rfl rfl rfl ⟨rfl, rfl, rfl, rfl, rfl⟩ rfl rfl rfl rfl rfl (by kernel_rfl) Tryd.func5 (by kernel_rfl)
    (of_decide_eq_true (by kernel_rfl)) (by unfold Func.isWrapper; first | (rw [if_pos (by decide +kernel)]; kernel_rfl) | (rw [if_neg (by decide +kernel)]; exact ⟨rfl, rfl⟩))
    (fun os started H enc _ => lifted os started H enc)

theorem proved : Rows.LookReadsCardSaid :=
  Claim7.holds_tied_plain_at .later [] [.data, .data, .data, .data, .pinned] true (true, "5293592eb18ba712e67e77121aebdd3b643b2d0be1cd2b435b1deaba0bb04752") false over (fun _ h => by cases h) (by kernel_rfl) (fun _ h => by cases h) lookReads_row_tie rfl ⟨rfl, rfl⟩ (by kernel_rfl) rfl
    (fun f fn hf hfn => by
      obtain rfl : f = 5 := Option.some.inj ((show Tryd.prog.funcNamed "stenotype/stenotypelaw13.LookReads" = some 5 by kernel_rfl).symm.trans hf) |>.symm
      obtain rfl : fn = Tryd.f5 := (Option.some.inj (Tryd.func5.symm.trans hfn)).symm
      exact ⟨by kernel_rfl, fun j t ht => by
        rw [Tryd.params5] at ht
        have hm : t ∈ [9, 3, 3, 3, 25] := by simpa using Array.mem_of_getElem? ht
        have hall : ([9, 3, 3, 3, 25].all fun u => !Tryd.prog.wantsStandIn u) = true := by kernel_rfl
        exact (show Tryd.prog.wantsStandIn t = false by simpa using List.all_eq_true.1 hall t hm)⟩)
    (by kernel_rfl)
#print axioms proved
end Go.Proofs.YthcfakmmomfcaaaDoor.lookReads
