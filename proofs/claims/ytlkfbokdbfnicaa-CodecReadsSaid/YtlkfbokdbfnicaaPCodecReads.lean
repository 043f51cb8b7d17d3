/-
  The row's proof: it returns true, whatever the input. The steps about the input's form were printed by a program of ours after the kit's shell; the walk stands in the texts that it imports.
-/
import Derived.Test.YtlkfbokdbfnicaaRows
import Derived.Test.YtlkfbokdbfnicaaSep9
import Derived.Test.YtlkfbokdbfnicaaSep18
import Derived.Test.YtlkfbokdbfnicaaC17
import Derived.WalkKit
import Derived.ProofKit
import Derived.OpenShut
import Derived.ShutString
import Derived.ChangeOld
import Derived.Below
import Derived.Carry
namespace Go.Proofs.Ytlkfbokdbfnicaa.codecReads
open Go.ChangeShapes Go.WideShapes Go.ChangeAt Go.RowKit
open Go.ChangeMaps (open_string shut_string)
set_option linter.unusedVariables false

theorem own : ownKnob Try.prog.godebug = none := by kernel_rfl
theorem laidOut : laidOutB Try.prog = true := by kernel_rfl

theorem walk (a0_0 : List UInt8) (a0_1 : Int) (a0_2_0 : Int) (a0_2_1 : Int) (a1 : Int) (a2 : Int) (a3 : Int) (a4 : Int) (a5 : Int) (w : World) (w0_0 : a0_0.length ≤ 9223372036854775807) (w0_1 : (Lit.int .i64 a0_1).wf = true) (w0_2_0 : (Lit.int .i64 a0_2_0).wf = true) (w0_2_1 : (Lit.int .i64 a0_2_1).wf = true) (w1 : (Lit.int .i64 a1).wf = true) (w2 : (Lit.int .i64 a2).wf = true) (w3 : (Lit.int .i64 a3).wf = true) (w4 : (Lit.int .u64 a4).wf = true) (w5 : (Lit.int .i64 a5).wf = true) :
    Calls Try.prog 10 #[.agg #[.string (S a0_0), .int .i64 a0_1, .int .i64 a0_2_0, .int .i64 a0_2_1], .int .i64 a1, .int .i64 a2, .int .i64 a3, .int .u64 a4, .int .i64 a5] w fun e w' => e = .returned (.bool true) ∧ Below w.heap.size w w' := by
  obtain ⟨k, rfl, hk⟩ := wf_u64 w4
  exact CallS.run w (Reads5_call _ _ a0_0 a0_1 a0_2_0 a0_2_1 a1 a2 a3 k a5 (wf_i64 w2).2 (wf_i64 w3).2)

set_option maxRecDepth 100000 in
theorem lifted (os : Os) (started : os.Started) (H : Type) (enc : TypeId × Value → H) :
    ReturnsInHanded {} Try.checked os 10 .any (Rows.codecReadsSpec.pre6 enc Try.prog Try.f10 Rows.codecReadsRow.domain false) (Rows.codecReadsSpec.post enc Try.prog Try.f10 false true false false) := by
  refine returnsInHanded_of_change (C := Try.checked) own started (by kernel_rfl) Try.func10
    (ChangeSpec.witness6 (enc := enc) (C := Try.checked) false ⟨#[], #[.agg #[.string ByteArray.empty, .int .i64 0, .int .i64 0, .int .i64 0], .int .i64 0, .int .i64 0, .int .i64 0, .int .u64 0, .int .i64 0], []⟩ 8 (by kernel_rfl) (by kernel_rfl) (by kernel_rfl) (by kernel_rfl)) ?_
  intro W base args ds gs before hval0 hW hcnd _
  have hval : ∀ (j : Nat) t v, Try.f10.params[j]? = some t → args[j]? = some v → Value.okWide Try.prog W .any base t v := hval0
  have hW' := hW
  obtain ⟨p, q, hA0, hV, rfl, hfz, hnd⟩ := hW
  have hA : DataW.TrodAll enc Try.prog W 0 (fun _ => true) true Try.f10.params.toList args.toList ds p := hA0
  rw [Try.params10] at hA hval
  obtain ⟨v0, vs0, d0, ds0, p0, q0, hargs, rfl, rfl, h0, r0⟩ := trodAll_cons hA
  obtain ⟨v1, vs1, d1, ds1, p1, q1, rfl, rfl, rfl, h1, r1⟩ := trodAll_cons r0
  obtain ⟨v2, vs2, d2, ds2, p2, q2, rfl, rfl, rfl, h2, r2⟩ := trodAll_cons r1
  obtain ⟨v3, vs3, d3, ds3, p3, q3, rfl, rfl, rfl, h3, r3⟩ := trodAll_cons r2
  obtain ⟨v4, vs4, d4, ds4, p4, q4, rfl, rfl, rfl, h4, r4⟩ := trodAll_cons r3
  obtain ⟨v5, vs5, d5, ds5, p5, q5, rfl, rfl, rfl, h5, r5⟩ := trodAll_cons r4
  obtain ⟨rfl, rfl, rfl⟩ := trodAll_nil r5
  obtain rfl : args = #[v0, v1, v2, v3, v4, v5] := by cases args; simp_all
  obtain ⟨rfl, rfl⟩ := trodVars_none hV
  have k0 := h0
  have lt0 : ∀ x ∈ p0, x.block < W.heap.size := by obtain ⟨m, hm⟩ := k0; exact DataW.trod_lt m _ _ _ hm
  obtain ⟨cs0, rfl, hs0⟩ := okWide_struct Try.underlying27 (hval 0 27 v0 rfl rfl)
  obtain ⟨r0_0, rfl, l0_0⟩ := arr_cells (hs0.trans (show Try.prog.cellsOf 27 = 4 by kernel_rfl))
  obtain ⟨v0_0, r0_1, rfl, l0_1⟩ := list_cons l0_0
  obtain ⟨v0_1, r0_2, rfl, l0_2⟩ := list_cons l0_1
  obtain ⟨v0_2, r0_3, rfl, l0_3⟩ := list_cons l0_2
  obtain ⟨v0_3, r0_4, rfl, l0_4⟩ := list_cons l0_3
  obtain rfl := List.eq_nil_of_length_eq_zero l0_4
  obtain ⟨m0, hm0⟩ := h0
  replace hm0 : DataW.trod enc Try.prog W 0 (fun _ => true) true m0 27 [v0_0, v0_1, v0_2, v0_3] = some _ := hm0
  obtain ⟨m0_0, y0_0, f0_0⟩ := struct_field Try.underlying27 hm0 0 9 0 1 rfl (by kernel_rfl)
  replace f0_0 : DataW.trod enc Try.prog W 0 (fun _ => true) true m0_0 9 [v0_0] = some y0_0 := f0_0
  obtain ⟨z0_0, e0_0, _, w0_0⟩ := DataW.trod_string Try.underlying9 f0_0
  obtain ⟨a0_0, rfl⟩ : ∃ a, z0_0 = S a := ⟨z0_0.data.toList, rfl⟩
  cases e0_0
  obtain ⟨m0_1, y0_1, f0_1⟩ := struct_field Try.underlying27 hm0 1 3 1 1 rfl (by kernel_rfl)
  replace f0_1 : DataW.trod enc Try.prog W 0 (fun _ => true) true m0_1 3 [v0_1] = some y0_1 := f0_1
  obtain ⟨a0_1, e0_1, _, w0_1⟩ := DataW.trod_int Try.underlying3 f0_1
  cases e0_1
  obtain ⟨m0_2, y0_2, f0_2⟩ := struct_field Try.underlying27 hm0 2 25 2 2 rfl (by kernel_rfl)
  replace f0_2 : DataW.trod enc Try.prog W 0 (fun _ => true) true m0_2 25 [v0_2, v0_3] = some y0_2 := f0_2
  obtain ⟨m0_2_0, y0_2_0, f0_2_0⟩ := struct_field Try.underlying25 f0_2 0 23 0 1 rfl (by kernel_rfl)
  replace f0_2_0 : DataW.trod enc Try.prog W 0 (fun _ => true) true m0_2_0 23 [v0_2] = some y0_2_0 := f0_2_0
  obtain ⟨a0_2_0, e0_2_0, _, w0_2_0⟩ := DataW.trod_int Try.underlying23 f0_2_0
  cases e0_2_0
  obtain ⟨m0_2_1, y0_2_1, f0_2_1⟩ := struct_field Try.underlying25 f0_2 1 3 1 1 rfl (by kernel_rfl)
  replace f0_2_1 : DataW.trod enc Try.prog W 0 (fun _ => true) true m0_2_1 3 [v0_3] = some y0_2_1 := f0_2_1
  obtain ⟨a0_2_1, e0_2_1, _, w0_2_1⟩ := DataW.trod_int Try.underlying3 f0_2_1
  cases e0_2_1
  obtain ⟨a1, rfl, rfl, rfl, w1⟩ := open_int Try.underlying3 (hval 1 3 v1 rfl rfl) h1
  obtain ⟨a2, rfl, rfl, rfl, w2⟩ := open_int Try.underlying3 (hval 2 3 v2 rfl rfl) h2
  obtain ⟨a3, rfl, rfl, rfl, w3⟩ := open_int Try.underlying3 (hval 3 3 v3 rfl rfl) h3
  obtain ⟨a4, rfl, rfl, rfl, w4⟩ := open_int Try.underlying32 (hval 4 32 v4 rfl rfl) h4
  obtain ⟨a5, rfl, rfl, rfl, w5⟩ := open_int Try.underlying23 (hval 5 23 v5 rfl rfl) h5
  clear hA0 hval0
  refine (walk a0_0 a0_1 a0_2_0 a0_2_1 a1 a2 a3 a4 a5 W w0_0 w0_1 w0_2_0 w0_2_1 w1 w2 w3 w4 w5).mono fun e W' ⟨he, bel⟩ => ?_
  subst he
  exact ⟨_, rfl, _, _, _, [], _, [], hW', trodAll_mk1 (shut_bool Try.underlying4 _), (trodAll_cons_mk (Below.trod laidOut (by kernel_rfl) (of_decide_eq_true (by kernel_rfl)) k0 bel lt0) (trodAll_cons_mk (shut_int Try.underlying3 w1) (trodAll_cons_mk (shut_int Try.underlying3 w2) (trodAll_cons_mk (shut_int Try.underlying3 w3) (trodAll_cons_mk (shut_int Try.underlying32 w4) (trodAll_cons_mk (shut_int Try.underlying23 w5) trodAll_mk0)))))), rfl, bel.frame _, fun h => by cases h⟩

theorem over : Rows.codecReadsRow.holds Try.pinned (OpenSpec.ofChange Rows.codecReadsSpec) :=
  OpenClaim.holds_of_wide 10 Try.f10 rfl rfl rfl rfl rfl rfl rfl ⟨rfl, rfl, rfl, rfl, rfl⟩ rfl rfl rfl rfl rfl (by kernel_rfl) Try.func10 (by kernel_rfl)
    (of_decide_eq_true (by kernel_rfl)) (by unfold Func.isWrapper; first | (rw [if_pos (by decide +kernel)]; kernel_rfl) | (rw [if_neg (by decide +kernel)]; exact ⟨rfl, rfl⟩))
    (fun os started H enc _ => lifted os started H enc)

theorem proved : Rows.CodecReadsSaid :=
  over
#print axioms proved
end Go.Proofs.Ytlkfbokdbfnicaa.codecReads
