/-
  The row's proof: it returns true, whatever the input. The steps about the input's form were printed by a program of ours after the kit's shell; the walk stands in the texts that it imports.
-/
import Derived.Test.YthcfakmmomfcaaaDoorRows
import Derived.Test.YthcfakmmomfcaaaDoorQ6
import Derived.WalkKit
import Derived.ProofKit
import Derived.OpenShut
import Derived.ShutString
import Derived.ChangeOld
import Derived.Below
import Derived.Carry
import Derived.LaidMore
import Derived.Lay
import Derived.SevenTiedAt
import Derived.Stop.Joined
import Derived.Test.YthcfakmmomfcaaaDoorCards
import Derived.Test.YthcfakmmomfcaaaDoorTie
namespace Go.Proofs.YthcfakmmomfcaaaDoor.lookJoins
open Go.ChangeShapes Go.WideShapes Go.ChangeAt Go.RowKit
open Go.ChangeMaps (open_string shut_string)
set_option linter.unusedVariables false

theorem own : ownKnob Tryd.prog.godebug = none := by kernel_rfl
theorem laidOut : laidOutB Tryd.prog = true := by kernel_rfl

theorem walk (a0_0 : Int) (a0_1_0 : Int) (a0_1_1 : Int) (a0_1_2 : Int) (a0_1_3 : Int) (a1_0 : Int) (a1_1_0 : Int) (a1_1_1 : Int) (a1_1_2 : Int) (a1_1_3 : Int) (a2 : Int) (w : World) (w0_0 : (Lit.int .i64 a0_0).wf = true) (w0_1_0 : (Lit.int .i64 a0_1_0).wf = true) (w0_1_1 : (Lit.int .i64 a0_1_1).wf = true) (w0_1_2 : (Lit.int .i64 a0_1_2).wf = true) (w0_1_3 : (Lit.int .i64 a0_1_3).wf = true) (w1_0 : (Lit.int .i64 a1_0).wf = true) (w1_1_0 : (Lit.int .i64 a1_1_0).wf = true) (w1_1_1 : (Lit.int .i64 a1_1_1).wf = true) (w1_1_2 : (Lit.int .i64 a1_1_2).wf = true) (w1_1_3 : (Lit.int .i64 a1_1_3).wf = true) (w2 : (Lit.int .i64 a2).wf = true) :
    Calls Tryd.prog 4 #[.agg #[.int .i64 a0_0, .int .i64 a0_1_0, .int .i64 a0_1_1, .int .i64 a0_1_2, .int .i64 a0_1_3], .agg #[.int .i64 a1_0, .int .i64 a1_1_0, .int .i64 a1_1_1, .int .i64 a1_1_2, .int .i64 a1_1_3], .int .i64 a2] w fun e w' => e = .returned (.bool true) ∧ Below w.heap.size w w' := by
  exact CallS.run w (CallS.mono (LookJoins_call _ [] _ _ _ _ _ _ _ _ _ _ _) (fun _ _ _ _ h => ⟨h.1, h.2.symm⟩))

set_option maxRecDepth 100000 in
set_option maxHeartbeats 4000000 in
theorem lifted (os : Os) (started : os.Started) (H : Type) (enc : TypeId × Value → H) :
    ReturnsInHanded {} Tryd.checked os 4 .any (fun w args => (Rows.lookJoinsSpec.pre enc Tryd.prog Tryd.f4 Rows.lookJoinsRow.domain false w args ∧ laidMetH Tryd.prog (Rows.lookJoinsRow.laid) w) ∧ sizedMet enc Tryd.prog Tryd.f4 (OpenSpec.ofChange Rows.lookJoinsSpec) false w args) (Rows.lookJoinsSpec.post enc Tryd.prog Tryd.f4 false true false false) := by
  refine returnsInHanded_of_change_and (C := Tryd.checked) (X := fun w _ => laidMetH Tryd.prog (Rows.lookJoinsRow.laid) w) (fun _ _ _ hh h => h.of_heap hh) own started (by kernel_rfl) Tryd.func4
    (ChangeSpec.witness_shaped (enc := enc) (C := Tryd.checked) (os := os) (X := fun w _ => laidMetH Tryd.prog (Rows.lookJoinsRow.laid) w) false (World.laidAll Tryd.prog os (Rows.lookJoinsRow.laid)) #[.agg #[.int .i64 0, .int .i64 0, .int .i64 0, .int .i64 0, .int .i64 0], .agg #[.int .i64 0, .int .i64 0, .int .i64 0, .int .i64 0, .int .i64 0], .int .i64 0] 8 (World.laidAll_os _ _ _)
      (World.shaped_of_ZipB (by kernel_rfl) (by kernel_rfl)) (by kernel_rfl) (by kernel_rfl) (by kernel_rfl)
      (by rw [MakeChecks.laidMetH_plain _ _ _ (by kernel_rfl)]; exact laidMet_laidAll _ (by kernel_rfl) (by kernel_rfl))) ?_
  intro W base args ds gs before hval0 hW hcnd _ hL _
  have hval : ∀ (j : Nat) t v, Tryd.f4.params[j]? = some t → args[j]? = some v → Value.okWide Tryd.prog W .any base t v := hval0
  have hW' := hW
  obtain ⟨p, q, hA0, hV, rfl, hfz, hnd⟩ := hW
  have hA : DataW.TrodAll enc Tryd.prog W 0 (fun _ => true) true Tryd.f4.params.toList args.toList ds p := hA0
  rw [Tryd.params4] at hA hval
  obtain ⟨v0, vs0, d0, ds0, p0, q0, hargs, rfl, rfl, h0, r0⟩ := trodAll_cons hA
  obtain ⟨v1, vs1, d1, ds1, p1, q1, rfl, rfl, rfl, h1, r1⟩ := trodAll_cons r0
  obtain ⟨v2, vs2, d2, ds2, p2, q2, rfl, rfl, rfl, h2, r2⟩ := trodAll_cons r1
  obtain ⟨rfl, rfl, rfl⟩ := trodAll_nil r2
  obtain rfl : args = #[v0, v1, v2] := by cases args; simp_all
  obtain ⟨rfl, rfl⟩ := trodVars_none hV
  have k0 := h0
  have lt0 : ∀ x ∈ p0, x.block < W.heap.size := by obtain ⟨m, hm⟩ := k0; exact DataW.trod_lt m _ _ _ hm
  obtain ⟨cs0, rfl, hs0⟩ := okWide_struct Tryd.underlying25 (hval 0 25 v0 rfl rfl)
  obtain ⟨r0_0, rfl, l0_0⟩ := arr_cells (hs0.trans (show Tryd.prog.cellsOf 25 = 5 by kernel_rfl))
  obtain ⟨v0_0, r0_1, rfl, l0_1⟩ := list_cons l0_0
  obtain ⟨v0_1, r0_2, rfl, l0_2⟩ := list_cons l0_1
  obtain ⟨v0_2, r0_3, rfl, l0_3⟩ := list_cons l0_2
  obtain ⟨v0_3, r0_4, rfl, l0_4⟩ := list_cons l0_3
  obtain ⟨v0_4, r0_5, rfl, l0_5⟩ := list_cons l0_4
  obtain rfl := List.eq_nil_of_length_eq_zero l0_5
  obtain ⟨m0, hm0⟩ := h0
  replace hm0 : DataW.trod enc Tryd.prog W 0 (fun _ => true) true m0 25 [v0_0, v0_1, v0_2, v0_3, v0_4] = some _ := hm0
  obtain ⟨m0_0, y0_0, f0_0⟩ := struct_field Tryd.underlying25 hm0 0 3 0 1 rfl (by kernel_rfl)
  replace f0_0 : DataW.trod enc Tryd.prog W 0 (fun _ => true) true m0_0 3 [v0_0] = some y0_0 := f0_0
  obtain ⟨a0_0, e0_0, _, w0_0⟩ := DataW.trod_int Tryd.underlying3 f0_0
  cases e0_0
  obtain ⟨m0_1, y0_1, f0_1⟩ := struct_field Tryd.underlying25 hm0 1 23 1 4 rfl (by kernel_rfl)
  replace f0_1 : DataW.trod enc Tryd.prog W 0 (fun _ => true) true m0_1 23 [v0_1, v0_2, v0_3, v0_4] = some y0_1 := f0_1
  obtain ⟨m0_1_0, y0_1_0, f0_1_0⟩ := arr_field Tryd.underlying23 f0_1 0 0 1 (by decide) (by kernel_rfl) rfl
  replace f0_1_0 : DataW.trod enc Tryd.prog W 0 (fun _ => true) true m0_1_0 3 [v0_1] = some y0_1_0 := f0_1_0
  obtain ⟨a0_1_0, e0_1_0, _, w0_1_0⟩ := DataW.trod_int Tryd.underlying3 f0_1_0
  cases e0_1_0
  obtain ⟨m0_1_1, y0_1_1, f0_1_1⟩ := arr_field Tryd.underlying23 f0_1 1 1 1 (by decide) (by kernel_rfl) rfl
  replace f0_1_1 : DataW.trod enc Tryd.prog W 0 (fun _ => true) true m0_1_1 3 [v0_2] = some y0_1_1 := f0_1_1
  obtain ⟨a0_1_1, e0_1_1, _, w0_1_1⟩ := DataW.trod_int Tryd.underlying3 f0_1_1
  cases e0_1_1
  obtain ⟨m0_1_2, y0_1_2, f0_1_2⟩ := arr_field Tryd.underlying23 f0_1 2 2 1 (by decide) (by kernel_rfl) rfl
  replace f0_1_2 : DataW.trod enc Tryd.prog W 0 (fun _ => true) true m0_1_2 3 [v0_3] = some y0_1_2 := f0_1_2
  obtain ⟨a0_1_2, e0_1_2, _, w0_1_2⟩ := DataW.trod_int Tryd.underlying3 f0_1_2
  cases e0_1_2
  obtain ⟨m0_1_3, y0_1_3, f0_1_3⟩ := arr_field Tryd.underlying23 f0_1 3 3 1 (by decide) (by kernel_rfl) rfl
  replace f0_1_3 : DataW.trod enc Tryd.prog W 0 (fun _ => true) true m0_1_3 3 [v0_4] = some y0_1_3 := f0_1_3
  obtain ⟨a0_1_3, e0_1_3, _, w0_1_3⟩ := DataW.trod_int Tryd.underlying3 f0_1_3
  cases e0_1_3
  have k1 := h1
  have lt1 : ∀ x ∈ p1, x.block < W.heap.size := by obtain ⟨m, hm⟩ := k1; exact DataW.trod_lt m _ _ _ hm
  obtain ⟨cs1, rfl, hs1⟩ := okWide_struct Tryd.underlying25 (hval 1 25 v1 rfl rfl)
  obtain ⟨r1_0, rfl, l1_0⟩ := arr_cells (hs1.trans (show Tryd.prog.cellsOf 25 = 5 by kernel_rfl))
  obtain ⟨v1_0, r1_1, rfl, l1_1⟩ := list_cons l1_0
  obtain ⟨v1_1, r1_2, rfl, l1_2⟩ := list_cons l1_1
  obtain ⟨v1_2, r1_3, rfl, l1_3⟩ := list_cons l1_2
  obtain ⟨v1_3, r1_4, rfl, l1_4⟩ := list_cons l1_3
  obtain ⟨v1_4, r1_5, rfl, l1_5⟩ := list_cons l1_4
  obtain rfl := List.eq_nil_of_length_eq_zero l1_5
  obtain ⟨m1, hm1⟩ := h1
  replace hm1 : DataW.trod enc Tryd.prog W 0 (fun _ => true) true m1 25 [v1_0, v1_1, v1_2, v1_3, v1_4] = some _ := hm1
  obtain ⟨m1_0, y1_0, f1_0⟩ := struct_field Tryd.underlying25 hm1 0 3 0 1 rfl (by kernel_rfl)
  replace f1_0 : DataW.trod enc Tryd.prog W 0 (fun _ => true) true m1_0 3 [v1_0] = some y1_0 := f1_0
  obtain ⟨a1_0, e1_0, _, w1_0⟩ := DataW.trod_int Tryd.underlying3 f1_0
  cases e1_0
  obtain ⟨m1_1, y1_1, f1_1⟩ := struct_field Tryd.underlying25 hm1 1 23 1 4 rfl (by kernel_rfl)
  replace f1_1 : DataW.trod enc Tryd.prog W 0 (fun _ => true) true m1_1 23 [v1_1, v1_2, v1_3, v1_4] = some y1_1 := f1_1
  obtain ⟨m1_1_0, y1_1_0, f1_1_0⟩ := arr_field Tryd.underlying23 f1_1 0 0 1 (by decide) (by kernel_rfl) rfl
  replace f1_1_0 : DataW.trod enc Tryd.prog W 0 (fun _ => true) true m1_1_0 3 [v1_1] = some y1_1_0 := f1_1_0
  obtain ⟨a1_1_0, e1_1_0, _, w1_1_0⟩ := DataW.trod_int Tryd.underlying3 f1_1_0
  cases e1_1_0
  obtain ⟨m1_1_1, y1_1_1, f1_1_1⟩ := arr_field Tryd.underlying23 f1_1 1 1 1 (by decide) (by kernel_rfl) rfl
  replace f1_1_1 : DataW.trod enc Tryd.prog W 0 (fun _ => true) true m1_1_1 3 [v1_2] = some y1_1_1 := f1_1_1
  obtain ⟨a1_1_1, e1_1_1, _, w1_1_1⟩ := DataW.trod_int Tryd.underlying3 f1_1_1
  cases e1_1_1
  obtain ⟨m1_1_2, y1_1_2, f1_1_2⟩ := arr_field Tryd.underlying23 f1_1 2 2 1 (by decide) (by kernel_rfl) rfl
  replace f1_1_2 : DataW.trod enc Tryd.prog W 0 (fun _ => true) true m1_1_2 3 [v1_3] = some y1_1_2 := f1_1_2
  obtain ⟨a1_1_2, e1_1_2, _, w1_1_2⟩ := DataW.trod_int Tryd.underlying3 f1_1_2
  cases e1_1_2
  obtain ⟨m1_1_3, y1_1_3, f1_1_3⟩ := arr_field Tryd.underlying23 f1_1 3 3 1 (by decide) (by kernel_rfl) rfl
  replace f1_1_3 : DataW.trod enc Tryd.prog W 0 (fun _ => true) true m1_1_3 3 [v1_4] = some y1_1_3 := f1_1_3
  obtain ⟨a1_1_3, e1_1_3, _, w1_1_3⟩ := DataW.trod_int Tryd.underlying3 f1_1_3
  cases e1_1_3
  obtain ⟨a2, rfl, rfl, rfl, w2⟩ := open_int Tryd.underlying3 (hval 2 3 v2 rfl rfl) h2
  clear hA0 hval0
  refine (walk a0_0 a0_1_0 a0_1_1 a0_1_2 a0_1_3 a1_0 a1_1_0 a1_1_1 a1_1_2 a1_1_3 a2 W w0_0 w0_1_0 w0_1_1 w0_1_2 w0_1_3 w1_0 w1_1_0 w1_1_1 w1_1_2 w1_1_3 w2).mono fun e W' ⟨he, bel⟩ => ?_
  subst he
  exact ⟨_, rfl, _, _, _, [], _, [], hW', trodAll_mk1 (shut_bool Tryd.underlying4 _), (trodAll_cons_mk (Below.trod laidOut (by kernel_rfl) (of_decide_eq_true (by kernel_rfl)) k0 bel lt0) (trodAll_cons_mk (Below.trod laidOut (by kernel_rfl) (of_decide_eq_true (by kernel_rfl)) k1 bel lt1) (trodAll_cons_mk (shut_int Tryd.underlying3 w2) trodAll_mk0))), rfl, bel.frame _, fun h => by cases h⟩

theorem over : Rows.lookJoinsRow.holds Tryd.pinned (OpenSpec.ofChange Rows.lookJoinsSpec) :=
  OpenClaim.holds_of_wide 4 Tryd.f4 rfl rfl rfl rfl rfl rfl rfl ⟨rfl, rfl, rfl, rfl, rfl⟩ rfl rfl rfl rfl rfl (by kernel_rfl) Tryd.func4 (by kernel_rfl)
    (of_decide_eq_true (by kernel_rfl)) (by unfold Func.isWrapper; first | (rw [if_pos (by decide +kernel)]; kernel_rfl) | (rw [if_neg (by decide +kernel)]; exact ⟨rfl, rfl⟩))
    (fun os started H enc _ => lifted os started H enc)

theorem proved : Rows.LookJoinsCardSaid :=
  Claim7.holds_tied_plain_at .later [] [.data, .data, .data, .data, .pinned] true (true, "5293592eb18ba712e67e77121aebdd3b643b2d0be1cd2b435b1deaba0bb04752") false over (fun _ h => by cases h) (by kernel_rfl) (fun _ h => by cases h) lookJoins_row_tie rfl ⟨rfl, rfl⟩ (by kernel_rfl) rfl
    (fun f fn hf hfn => by
      obtain rfl : f = 4 := Option.some.inj ((show Tryd.prog.funcNamed "stenotype/stenotypelaw13.LookJoins" = some 4 by kernel_rfl).symm.trans hf) |>.symm
      obtain rfl : fn = Tryd.f4 := (Option.some.inj (Tryd.func4.symm.trans hfn)).symm
      exact ⟨by kernel_rfl, fun j t ht => by
        rw [Tryd.params4] at ht
        have hm : t ∈ [25, 25, 3] := by simpa using Array.mem_of_getElem? ht
        have hall : ([25, 25, 3].all fun u => !Tryd.prog.wantsStandIn u) = true := by kernel_rfl
        exact (show Tryd.prog.wantsStandIn t = false by simpa using List.all_eq_true.1 hall t hm)⟩)
    (by kernel_rfl)
#print axioms proved
end Go.Proofs.YthcfakmmomfcaaaDoor.lookJoins
