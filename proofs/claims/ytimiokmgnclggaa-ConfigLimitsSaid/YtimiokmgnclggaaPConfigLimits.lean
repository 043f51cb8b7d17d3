/-
  The row's proof: it returns true, whatever the input. The steps about the input's form were printed by a program of ours after the kit's shell; the walk stands in the texts that it imports.
-/
import Derived.Test.YtimiokmgnclggaaRows
import Derived.Test.YtimiokmgnclggaaQ9
import Derived.WalkKit
import Derived.ProofKit
import Derived.OpenShut
import Derived.ShutString
import Derived.ChangeOld
import Derived.Below
import Derived.Carry
namespace Go.Proofs.Ytimiokmgnclggaa.configLimits
open Go.ChangeShapes Go.WideShapes Go.ChangeAt Go.RowKit
open Go.ChangeMaps (open_string shut_string)
set_option linter.unusedVariables false

theorem own : ownKnob Try.prog.godebug = none := by kernel_rfl
theorem laidOut : laidOutB Try.prog = true := by kernel_rfl

theorem walk (a0_0 : Int) (a0_1 : Int) (a0_2 : Int) (a0_3 : Int) (a1_0 : Int) (a1_1 : Int) (a1_2 : Int) (a1_3 : List UInt8) (p1_4_0 : Option Addr) (c1_4_0 : Nat) (x1_4_0 : List Tok) (a1_4_1 : Int) (a1_4_2 : Int) (a1_5 : Bool) (p1_6 : Option Addr) (c1_6 : Nat) (x1_6 : List Spt) (a2_0 : Int) (a2_1 : Int) (a2_2 : Int) (a2_3 : List UInt8) (p2_4_0 : Option Addr) (c2_4_0 : Nat) (x2_4_0 : List Tok) (a2_4_1 : Int) (a2_4_2 : Int) (a2_5 : Bool) (p2_6 : Option Addr) (c2_6 : Nat) (x2_6 : List Spt) (w : World) (w0_0 : (Lit.int .i64 a0_0).wf = true) (w0_1 : (Lit.int .i64 a0_1).wf = true) (w0_2 : (Lit.int .i64 a0_2).wf = true) (w0_3 : (Lit.int .i64 a0_3).wf = true) (w1_0 : (Lit.int .i64 a1_0).wf = true) (w1_1 : (Lit.int .i64 a1_1).wf = true) (w1_2 : (Lit.int .i64 a1_2).wf = true) (w1_3 : a1_3.length ≤ 9223372036854775807) (h1_4_0 : SlE (Env.of w) 3 p1_4_0 x1_4_0.length (toks x1_4_0)) (b1_4_0 : ∀ r, r ∈ x1_4_0 → r.text.length ≤ 9223372036854775807) (n1_4_0 : x1_4_0.length ≤ 9223372036854775807) (w1_4_1 : (Lit.int .i64 a1_4_1).wf = true) (w1_4_2 : (Lit.int .i64 a1_4_2).wf = true) (h1_6 : SlE (Env.of w) 2 p1_6 x1_6.length (spC x1_6)) (b1_6 : ∀ r, r ∈ x1_6 → ((-9223372036854775808 ≤ r.1 ∧ r.1 ≤ 9223372036854775807) ∧ -9223372036854775808 ≤ r.2 ∧ r.2 ≤ 9223372036854775807)) (n1_6 : x1_6.length ≤ 9223372036854775807) (w2_0 : (Lit.int .i64 a2_0).wf = true) (w2_1 : (Lit.int .i64 a2_1).wf = true) (w2_2 : (Lit.int .i64 a2_2).wf = true) (w2_3 : a2_3.length ≤ 9223372036854775807) (h2_4_0 : SlE (Env.of w) 3 p2_4_0 x2_4_0.length (toks x2_4_0)) (b2_4_0 : ∀ r, r ∈ x2_4_0 → r.text.length ≤ 9223372036854775807) (n2_4_0 : x2_4_0.length ≤ 9223372036854775807) (w2_4_1 : (Lit.int .i64 a2_4_1).wf = true) (w2_4_2 : (Lit.int .i64 a2_4_2).wf = true) (h2_6 : SlE (Env.of w) 2 p2_6 x2_6.length (spC x2_6)) (b2_6 : ∀ r, r ∈ x2_6 → ((-9223372036854775808 ≤ r.1 ∧ r.1 ≤ 9223372036854775807) ∧ -9223372036854775808 ≤ r.2 ∧ r.2 ≤ 9223372036854775807)) (n2_6 : x2_6.length ≤ 9223372036854775807) :
    Calls Try.prog 3 #[.agg #[.int .i64 a0_0, .int .i64 a0_1, .int .i64 a0_2, .int .i64 a0_3], .agg #[.int .i64 a1_0, .int .i64 a1_1, .int .i64 a1_2, .string (S a1_3), .slice p1_4_0 x1_4_0.length c1_4_0, .int .i64 a1_4_1, .int .i64 a1_4_2, .bool a1_5, .slice p1_6 x1_6.length c1_6], .agg #[.int .i64 a2_0, .int .i64 a2_1, .int .i64 a2_2, .string (S a2_3), .slice p2_4_0 x2_4_0.length c2_4_0, .int .i64 a2_4_1, .int .i64 a2_4_2, .bool a2_5, .slice p2_6 x2_6.length c2_6]] w fun e w' => e = .returned (.bool true) ∧ Below w.heap.size w w' := by
  exact CallS.run w (ConfigLimits_call _ [] _ _ _ _ _ _ _ _ _ _ _ _ _ _ _ _ _ _ _ _ _ _ _ _ _ _ _ _ _ _ _ _ _ _ h1_4_0 h2_4_0 h1_6 h2_6 n1_4_0 n2_4_0 n1_6 n2_6 w1_3 w2_3 b1_4_0 b2_4_0)

set_option maxRecDepth 100000 in
set_option maxHeartbeats 4000000 in
theorem lifted (os : Os) (started : os.Started) (H : Type) (enc : TypeId × Value → H) :
    ReturnsInHanded {} Try.checked os 3 .any (Rows.configLimitsSpec.pre6 enc Try.prog Try.f3 Rows.configLimitsRow.domain false) (Rows.configLimitsSpec.post enc Try.prog Try.f3 false true false false) := by
  refine returnsInHanded_of_change (C := Try.checked) own started (by kernel_rfl) Try.func3
    (ChangeSpec.witness6 (enc := enc) (C := Try.checked) false ⟨#[], #[.agg #[.int .i64 0, .int .i64 0, .int .i64 0, .int .i64 0], .agg #[.int .i64 0, .int .i64 0, .int .i64 0, .string ByteArray.empty, .slice none 0 0, .int .i64 0, .int .i64 0, .bool false, .slice none 0 0], .agg #[.int .i64 0, .int .i64 0, .int .i64 0, .string ByteArray.empty, .slice none 0 0, .int .i64 0, .int .i64 0, .bool false, .slice none 0 0]], []⟩ 8 (by kernel_rfl) (by kernel_rfl) (by kernel_rfl) (by kernel_rfl)) ?_
  intro W base args ds gs before hval0 hW hcnd _
  have hval : ∀ (j : Nat) t v, Try.f3.params[j]? = some t → args[j]? = some v → Value.okWide Try.prog W .any base t v := hval0
  have hW' := hW
  obtain ⟨p, q, hA0, hV, rfl, hfz, hnd⟩ := hW
  have hA : DataW.TrodAll enc Try.prog W 0 (fun _ => true) true Try.f3.params.toList args.toList ds p := hA0
  rw [Try.params3] at hA hval
  obtain ⟨v0, vs0, d0, ds0, p0, q0, hargs, rfl, rfl, h0, r0⟩ := trodAll_cons hA
  obtain ⟨v1, vs1, d1, ds1, p1, q1, rfl, rfl, rfl, h1, r1⟩ := trodAll_cons r0
  obtain ⟨v2, vs2, d2, ds2, p2, q2, rfl, rfl, rfl, h2, r2⟩ := trodAll_cons r1
  obtain ⟨rfl, rfl, rfl⟩ := trodAll_nil r2
  obtain rfl : args = #[v0, v1, v2] := by cases args; simp_all
  obtain ⟨rfl, rfl⟩ := trodVars_none hV
  have k0 := h0
  have lt0 : ∀ x ∈ p0, x.block < W.heap.size := by obtain ⟨m, hm⟩ := k0; exact DataW.trod_lt m _ _ _ hm
  obtain ⟨cs0, rfl, hs0⟩ := okWide_struct Try.underlying23 (hval 0 23 v0 rfl rfl)
  obtain ⟨r0_0, rfl, l0_0⟩ := arr_cells (hs0.trans (show Try.prog.cellsOf 23 = 4 by kernel_rfl))
  obtain ⟨v0_0, r0_1, rfl, l0_1⟩ := list_cons l0_0
  obtain ⟨v0_1, r0_2, rfl, l0_2⟩ := list_cons l0_1
  obtain ⟨v0_2, r0_3, rfl, l0_3⟩ := list_cons l0_2
  obtain ⟨v0_3, r0_4, rfl, l0_4⟩ := list_cons l0_3
  obtain rfl := List.eq_nil_of_length_eq_zero l0_4
  obtain ⟨m0, hm0⟩ := h0
  replace hm0 : DataW.trod enc Try.prog W 0 (fun _ => true) true m0 23 [v0_0, v0_1, v0_2, v0_3] = some _ := hm0
  obtain ⟨m0_0, y0_0, f0_0⟩ := struct_field Try.underlying23 hm0 0 3 0 1 rfl (by kernel_rfl)
  replace f0_0 : DataW.trod enc Try.prog W 0 (fun _ => true) true m0_0 3 [v0_0] = some y0_0 := f0_0
  obtain ⟨a0_0, e0_0, _, w0_0⟩ := DataW.trod_int Try.underlying3 f0_0
  cases e0_0
  obtain ⟨m0_1, y0_1, f0_1⟩ := struct_field Try.underlying23 hm0 1 3 1 1 rfl (by kernel_rfl)
  replace f0_1 : DataW.trod enc Try.prog W 0 (fun _ => true) true m0_1 3 [v0_1] = some y0_1 := f0_1
  obtain ⟨a0_1, e0_1, _, w0_1⟩ := DataW.trod_int Try.underlying3 f0_1
  cases e0_1
  obtain ⟨m0_2, y0_2, f0_2⟩ := struct_field Try.underlying23 hm0 2 3 2 1 rfl (by kernel_rfl)
  replace f0_2 : DataW.trod enc Try.prog W 0 (fun _ => true) true m0_2 3 [v0_2] = some y0_2 := f0_2
  obtain ⟨a0_2, e0_2, _, w0_2⟩ := DataW.trod_int Try.underlying3 f0_2
  cases e0_2
  obtain ⟨m0_3, y0_3, f0_3⟩ := struct_field Try.underlying23 hm0 3 3 3 1 rfl (by kernel_rfl)
  replace f0_3 : DataW.trod enc Try.prog W 0 (fun _ => true) true m0_3 3 [v0_3] = some y0_3 := f0_3
  obtain ⟨a0_3, e0_3, _, w0_3⟩ := DataW.trod_int Try.underlying3 f0_3
  cases e0_3
  have k1 := h1
  have lt1 : ∀ x ∈ p1, x.block < W.heap.size := by obtain ⟨m, hm⟩ := k1; exact DataW.trod_lt m _ _ _ hm
  obtain ⟨cs1, rfl, hs1⟩ := okWide_struct Try.underlying29 (hval 1 29 v1 rfl rfl)
  obtain ⟨r1_0, rfl, l1_0⟩ := arr_cells (hs1.trans (show Try.prog.cellsOf 29 = 9 by kernel_rfl))
  obtain ⟨v1_0, r1_1, rfl, l1_1⟩ := list_cons l1_0
  obtain ⟨v1_1, r1_2, rfl, l1_2⟩ := list_cons l1_1
  obtain ⟨v1_2, r1_3, rfl, l1_3⟩ := list_cons l1_2
  obtain ⟨v1_3, r1_4, rfl, l1_4⟩ := list_cons l1_3
  obtain ⟨v1_4, r1_5, rfl, l1_5⟩ := list_cons l1_4
  obtain ⟨v1_5, r1_6, rfl, l1_6⟩ := list_cons l1_5
  obtain ⟨v1_6, r1_7, rfl, l1_7⟩ := list_cons l1_6
  obtain ⟨v1_7, r1_8, rfl, l1_8⟩ := list_cons l1_7
  obtain ⟨v1_8, r1_9, rfl, l1_9⟩ := list_cons l1_8
  obtain rfl := List.eq_nil_of_length_eq_zero l1_9
  obtain ⟨m1, hm1⟩ := h1
  replace hm1 : DataW.trod enc Try.prog W 0 (fun _ => true) true m1 29 [v1_0, v1_1, v1_2, v1_3, v1_4, v1_5, v1_6, v1_7, v1_8] = some _ := hm1
  obtain ⟨m1_0, y1_0, f1_0⟩ := struct_field Try.underlying29 hm1 0 3 0 1 rfl (by kernel_rfl)
  replace f1_0 : DataW.trod enc Try.prog W 0 (fun _ => true) true m1_0 3 [v1_0] = some y1_0 := f1_0
  obtain ⟨a1_0, e1_0, _, w1_0⟩ := DataW.trod_int Try.underlying3 f1_0
  cases e1_0
  obtain ⟨m1_1, y1_1, f1_1⟩ := struct_field Try.underlying29 hm1 1 3 1 1 rfl (by kernel_rfl)
  replace f1_1 : DataW.trod enc Try.prog W 0 (fun _ => true) true m1_1 3 [v1_1] = some y1_1 := f1_1
  obtain ⟨a1_1, e1_1, _, w1_1⟩ := DataW.trod_int Try.underlying3 f1_1
  cases e1_1
  obtain ⟨m1_2, y1_2, f1_2⟩ := struct_field Try.underlying29 hm1 2 3 2 1 rfl (by kernel_rfl)
  replace f1_2 : DataW.trod enc Try.prog W 0 (fun _ => true) true m1_2 3 [v1_2] = some y1_2 := f1_2
  obtain ⟨a1_2, e1_2, _, w1_2⟩ := DataW.trod_int Try.underlying3 f1_2
  cases e1_2
  obtain ⟨m1_3, y1_3, f1_3⟩ := struct_field Try.underlying29 hm1 3 9 3 1 rfl (by kernel_rfl)
  replace f1_3 : DataW.trod enc Try.prog W 0 (fun _ => true) true m1_3 9 [v1_3] = some y1_3 := f1_3
  obtain ⟨z1_3, e1_3, _, w1_3⟩ := DataW.trod_string Try.underlying9 f1_3
  obtain ⟨a1_3, rfl⟩ : ∃ a, z1_3 = S a := ⟨z1_3.data.toList, rfl⟩
  cases e1_3
  obtain ⟨m1_4, y1_4, f1_4⟩ := struct_field Try.underlying29 hm1 4 26 4 3 rfl (by kernel_rfl)
  replace f1_4 : DataW.trod enc Try.prog W 0 (fun _ => true) true m1_4 26 [v1_4, v1_5, v1_6] = some y1_4 := f1_4
  obtain ⟨m1_4_0, y1_4_0, f1_4_0⟩ := struct_field Try.underlying26 f1_4 0 24 0 1 rfl (by kernel_rfl)
  replace f1_4_0 : DataW.trod enc Try.prog W 0 (fun _ => true) true m1_4_0 24 [v1_4] = some y1_4_0 := f1_4_0
  obtain ⟨p1_4_0, c1_4_0, x1_4_0, e1_4_0, h1_4_0, b1_4_0, n1_4_0⟩ := open_tok Try.underlying24 Try.underlying49 Try.underlying3 Try.underlying9 rfl rfl rfl (by kernel_rfl) (by kernel_rfl) (by kernel_rfl) f1_4_0
  cases e1_4_0
  obtain ⟨m1_4_1, y1_4_1, f1_4_1⟩ := struct_field Try.underlying26 f1_4 1 3 1 1 rfl (by kernel_rfl)
  replace f1_4_1 : DataW.trod enc Try.prog W 0 (fun _ => true) true m1_4_1 3 [v1_5] = some y1_4_1 := f1_4_1
  obtain ⟨a1_4_1, e1_4_1, _, w1_4_1⟩ := DataW.trod_int Try.underlying3 f1_4_1
  cases e1_4_1
  obtain ⟨m1_4_2, y1_4_2, f1_4_2⟩ := struct_field Try.underlying26 f1_4 2 3 2 1 rfl (by kernel_rfl)
  replace f1_4_2 : DataW.trod enc Try.prog W 0 (fun _ => true) true m1_4_2 3 [v1_6] = some y1_4_2 := f1_4_2
  obtain ⟨a1_4_2, e1_4_2, _, w1_4_2⟩ := DataW.trod_int Try.underlying3 f1_4_2
  cases e1_4_2
  obtain ⟨m1_5, y1_5, f1_5⟩ := struct_field Try.underlying29 hm1 5 4 7 1 rfl (by kernel_rfl)
  replace f1_5 : DataW.trod enc Try.prog W 0 (fun _ => true) true m1_5 4 [v1_7] = some y1_5 := f1_5
  obtain ⟨a1_5, e1_5, _⟩ := DataW.trod_bool Try.underlying4 f1_5
  cases e1_5
  obtain ⟨m1_6, y1_6, f1_6⟩ := struct_field Try.underlying29 hm1 6 27 8 1 rfl (by kernel_rfl)
  replace f1_6 : DataW.trod enc Try.prog W 0 (fun _ => true) true m1_6 27 [v1_8] = some y1_6 := f1_6
  obtain ⟨p1_6, c1_6, x1_6, e1_6, h1_6, b1_6, n1_6⟩ := open_spt Try.underlying27 Try.underlying47 Try.underlying3 rfl rfl (by kernel_rfl) (by kernel_rfl) f1_6
  cases e1_6
  have k2 := h2
  have lt2 : ∀ x ∈ p2, x.block < W.heap.size := by obtain ⟨m, hm⟩ := k2; exact DataW.trod_lt m _ _ _ hm
  obtain ⟨cs2, rfl, hs2⟩ := okWide_struct Try.underlying29 (hval 2 29 v2 rfl rfl)
  obtain ⟨r2_0, rfl, l2_0⟩ := arr_cells (hs2.trans (show Try.prog.cellsOf 29 = 9 by kernel_rfl))
  obtain ⟨v2_0, r2_1, rfl, l2_1⟩ := list_cons l2_0
  obtain ⟨v2_1, r2_2, rfl, l2_2⟩ := list_cons l2_1
  obtain ⟨v2_2, r2_3, rfl, l2_3⟩ := list_cons l2_2
  obtain ⟨v2_3, r2_4, rfl, l2_4⟩ := list_cons l2_3
  obtain ⟨v2_4, r2_5, rfl, l2_5⟩ := list_cons l2_4
  obtain ⟨v2_5, r2_6, rfl, l2_6⟩ := list_cons l2_5
  obtain ⟨v2_6, r2_7, rfl, l2_7⟩ := list_cons l2_6
  obtain ⟨v2_7, r2_8, rfl, l2_8⟩ := list_cons l2_7
  obtain ⟨v2_8, r2_9, rfl, l2_9⟩ := list_cons l2_8
  obtain rfl := List.eq_nil_of_length_eq_zero l2_9
  obtain ⟨m2, hm2⟩ := h2
  replace hm2 : DataW.trod enc Try.prog W 0 (fun _ => true) true m2 29 [v2_0, v2_1, v2_2, v2_3, v2_4, v2_5, v2_6, v2_7, v2_8] = some _ := hm2
  obtain ⟨m2_0, y2_0, f2_0⟩ := struct_field Try.underlying29 hm2 0 3 0 1 rfl (by kernel_rfl)
  replace f2_0 : DataW.trod enc Try.prog W 0 (fun _ => true) true m2_0 3 [v2_0] = some y2_0 := f2_0
  obtain ⟨a2_0, e2_0, _, w2_0⟩ := DataW.trod_int Try.underlying3 f2_0
  cases e2_0
  obtain ⟨m2_1, y2_1, f2_1⟩ := struct_field Try.underlying29 hm2 1 3 1 1 rfl (by kernel_rfl)
  replace f2_1 : DataW.trod enc Try.prog W 0 (fun _ => true) true m2_1 3 [v2_1] = some y2_1 := f2_1
  obtain ⟨a2_1, e2_1, _, w2_1⟩ := DataW.trod_int Try.underlying3 f2_1
  cases e2_1
  obtain ⟨m2_2, y2_2, f2_2⟩ := struct_field Try.underlying29 hm2 2 3 2 1 rfl (by kernel_rfl)
  replace f2_2 : DataW.trod enc Try.prog W 0 (fun _ => true) true m2_2 3 [v2_2] = some y2_2 := f2_2
  obtain ⟨a2_2, e2_2, _, w2_2⟩ := DataW.trod_int Try.underlying3 f2_2
  cases e2_2
  obtain ⟨m2_3, y2_3, f2_3⟩ := struct_field Try.underlying29 hm2 3 9 3 1 rfl (by kernel_rfl)
  replace f2_3 : DataW.trod enc Try.prog W 0 (fun _ => true) true m2_3 9 [v2_3] = some y2_3 := f2_3
  obtain ⟨z2_3, e2_3, _, w2_3⟩ := DataW.trod_string Try.underlying9 f2_3
  obtain ⟨a2_3, rfl⟩ : ∃ a, z2_3 = S a := ⟨z2_3.data.toList, rfl⟩
  cases e2_3
  obtain ⟨m2_4, y2_4, f2_4⟩ := struct_field Try.underlying29 hm2 4 26 4 3 rfl (by kernel_rfl)
  replace f2_4 : DataW.trod enc Try.prog W 0 (fun _ => true) true m2_4 26 [v2_4, v2_5, v2_6] = some y2_4 := f2_4
  obtain ⟨m2_4_0, y2_4_0, f2_4_0⟩ := struct_field Try.underlying26 f2_4 0 24 0 1 rfl (by kernel_rfl)
  replace f2_4_0 : DataW.trod enc Try.prog W 0 (fun _ => true) true m2_4_0 24 [v2_4] = some y2_4_0 := f2_4_0
  obtain ⟨p2_4_0, c2_4_0, x2_4_0, e2_4_0, h2_4_0, b2_4_0, n2_4_0⟩ := open_tok Try.underlying24 Try.underlying49 Try.underlying3 Try.underlying9 rfl rfl rfl (by kernel_rfl) (by kernel_rfl) (by kernel_rfl) f2_4_0
  cases e2_4_0
  obtain ⟨m2_4_1, y2_4_1, f2_4_1⟩ := struct_field Try.underlying26 f2_4 1 3 1 1 rfl (by kernel_rfl)
  replace f2_4_1 : DataW.trod enc Try.prog W 0 (fun _ => true) true m2_4_1 3 [v2_5] = some y2_4_1 := f2_4_1
  obtain ⟨a2_4_1, e2_4_1, _, w2_4_1⟩ := DataW.trod_int Try.underlying3 f2_4_1
  cases e2_4_1
  obtain ⟨m2_4_2, y2_4_2, f2_4_2⟩ := struct_field Try.underlying26 f2_4 2 3 2 1 rfl (by kernel_rfl)
  replace f2_4_2 : DataW.trod enc Try.prog W 0 (fun _ => true) true m2_4_2 3 [v2_6] = some y2_4_2 := f2_4_2
  obtain ⟨a2_4_2, e2_4_2, _, w2_4_2⟩ := DataW.trod_int Try.underlying3 f2_4_2
  cases e2_4_2
  obtain ⟨m2_5, y2_5, f2_5⟩ := struct_field Try.underlying29 hm2 5 4 7 1 rfl (by kernel_rfl)
  replace f2_5 : DataW.trod enc Try.prog W 0 (fun _ => true) true m2_5 4 [v2_7] = some y2_5 := f2_5
  obtain ⟨a2_5, e2_5, _⟩ := DataW.trod_bool Try.underlying4 f2_5
  cases e2_5
  obtain ⟨m2_6, y2_6, f2_6⟩ := struct_field Try.underlying29 hm2 6 27 8 1 rfl (by kernel_rfl)
  replace f2_6 : DataW.trod enc Try.prog W 0 (fun _ => true) true m2_6 27 [v2_8] = some y2_6 := f2_6
  obtain ⟨p2_6, c2_6, x2_6, e2_6, h2_6, b2_6, n2_6⟩ := open_spt Try.underlying27 Try.underlying47 Try.underlying3 rfl rfl (by kernel_rfl) (by kernel_rfl) f2_6
  cases e2_6
  clear hA0 hval0
  refine (walk a0_0 a0_1 a0_2 a0_3 a1_0 a1_1 a1_2 a1_3 p1_4_0 c1_4_0 x1_4_0 a1_4_1 a1_4_2 a1_5 p1_6 c1_6 x1_6 a2_0 a2_1 a2_2 a2_3 p2_4_0 c2_4_0 x2_4_0 a2_4_1 a2_4_2 a2_5 p2_6 c2_6 x2_6 W w0_0 w0_1 w0_2 w0_3 w1_0 w1_1 w1_2 w1_3 h1_4_0 b1_4_0 n1_4_0 w1_4_1 w1_4_2 h1_6 b1_6 n1_6 w2_0 w2_1 w2_2 w2_3 h2_4_0 b2_4_0 n2_4_0 w2_4_1 w2_4_2 h2_6 b2_6 n2_6).mono fun e W' ⟨he, bel⟩ => ?_
  subst he
  exact ⟨_, rfl, _, _, _, [], _, [], hW', trodAll_mk1 (shut_bool Try.underlying4 _), (trodAll_cons_mk (Below.trod laidOut (by kernel_rfl) (of_decide_eq_true (by kernel_rfl)) k0 bel lt0) (trodAll_cons_mk (Below.trod laidOut (by kernel_rfl) (of_decide_eq_true (by kernel_rfl)) k1 bel lt1) (trodAll_cons_mk (Below.trod laidOut (by kernel_rfl) (of_decide_eq_true (by kernel_rfl)) k2 bel lt2) trodAll_mk0))), rfl, bel.frame _, fun h => by cases h⟩

theorem over : Rows.configLimitsRow.holds Try.pinned (OpenSpec.ofChange Rows.configLimitsSpec) :=
  OpenClaim.holds_of_wide 3 Try.f3 rfl rfl rfl rfl rfl rfl rfl ⟨rfl, rfl, rfl, rfl, rfl⟩ rfl rfl rfl rfl rfl (by kernel_rfl) Try.func3 (by kernel_rfl)
    (of_decide_eq_true (by kernel_rfl)) (by unfold Func.isWrapper; first | (rw [if_pos (by decide +kernel)]; kernel_rfl) | (rw [if_neg (by decide +kernel)]; exact ⟨rfl, rfl⟩))
    (fun os started H enc _ => lifted os started H enc)

theorem proved : Rows.ConfigLimitsSaid :=
  over
#print axioms proved
end Go.Proofs.Ytimiokmgnclggaa.configLimits
