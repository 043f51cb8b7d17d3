/-
  The row's proof: it returns true, whatever the input. The steps about the input's form were printed by a program of ours after the kit's shell; the walk stands in the texts that it imports.
-/
import Derived.Test.YtlkfbokdbfnicaaRows
import Derived.Test.YtlkfbokdbfnicaaSep9
import Derived.Test.YtlkfbokdbfnicaaSep18
import Derived.Test.YtlkfbokdbfnicaaC20
import Derived.WalkKit
import Derived.ProofKit
import Derived.OpenShut
import Derived.ShutString
import Derived.ChangeOld
import Derived.Below
import Derived.Carry
namespace Go.Proofs.Ytlkfbokdbfnicaa.codecWrites
open Go.ChangeShapes Go.WideShapes Go.ChangeAt Go.RowKit
open Go.ChangeMaps (open_string shut_string)
set_option linter.unusedVariables false

theorem own : ownKnob Try.prog.godebug = none := by kernel_rfl
theorem laidOut : laidOutB Try.prog = true := by kernel_rfl

theorem walk (a0_0 : List UInt8) (a0_1 : Int) (a0_2 : Int) (a1 : Int) (p2 : Option Addr) (c2 : Nat) (x2 : List (List UInt8)) (p3 : Option Addr) (c3 : Nat) (x3 : List (Int)) (a4 : Int) (w : World) (w0_0 : a0_0.length ≤ 9223372036854775807) (w0_1 : (Lit.int .i64 a0_1).wf = true) (w0_2 : (Lit.int .i64 a0_2).wf = true) (w1 : (Lit.int .u64 a1).wf = true) (h2 : SlE (Env.of w) 1 p2 x2.length (x2.map (fun s => .string (S s)))) (b2 : ∀ s, s ∈ x2 → s.length ≤ 9223372036854775807) (n2 : x2.length ≤ 9223372036854775807) (h3 : SlE (Env.of w) 1 p3 x3.length (x3.map (fun n => .int .i64 n))) (b3 : ∀ n, n ∈ x3 → -9223372036854775808 ≤ n ∧ n ≤ 9223372036854775807) (n3 : x3.length ≤ 9223372036854775807) (w4 : (Lit.int .i64 a4).wf = true) :
    Calls Try.prog 4 #[.agg #[.string (S a0_0), .int .i64 a0_1, .int .i64 a0_2], .int .u64 a1, .slice p2 x2.length c2, .slice p3 x3.length c3, .int .i64 a4] w fun e w' => e = .returned (.bool true) ∧ Below w.heap.size w w' := by
  obtain ⟨k, rfl, hk⟩ := wf_u64 w1
  exact CallS.run w (Writes5_call _ _ a0_0 a0_1 a0_2 k hk _ c2 x2 h2 n2 _ c3 x3 h3 n3 b3 a4)

set_option maxRecDepth 100000 in
set_option maxHeartbeats 4000000 in
theorem lifted (os : Os) (started : os.Started) (H : Type) (enc : TypeId × Value → H) :
    ReturnsInHanded {} Try.checked os 4 .any (Rows.codecWritesSpec.pre6 enc Try.prog Try.f4 Rows.codecWritesRow.domain false) (Rows.codecWritesSpec.post enc Try.prog Try.f4 false true false false) := by
  refine returnsInHanded_of_change (C := Try.checked) own started (by kernel_rfl) Try.func4
    (ChangeSpec.witness6 (enc := enc) (C := Try.checked) false ⟨#[], #[.agg #[.string ByteArray.empty, .int .i64 0, .int .i64 0], .int .u64 0, .slice none 0 0, .slice none 0 0, .int .i64 0], []⟩ 8 (by kernel_rfl) (by kernel_rfl) (by kernel_rfl) (by kernel_rfl)) ?_
  intro W base args ds gs before hval0 hW hcnd _
  have hval : ∀ (j : Nat) t v, Try.f4.params[j]? = some t → args[j]? = some v → Value.okWide Try.prog W .any base t v := hval0
  have hW' := hW
  obtain ⟨p, q, hA0, hV, rfl, hfz, hnd⟩ := hW
  have hA : DataW.TrodAll enc Try.prog W 0 (fun _ => true) true Try.f4.params.toList args.toList ds p := hA0
  rw [Try.params4] at hA hval
  obtain ⟨v0, vs0, d0, ds0, p0, q0, hargs, rfl, rfl, h0, r0⟩ := trodAll_cons hA
  obtain ⟨v1, vs1, d1, ds1, p1, q1, rfl, rfl, rfl, h1, r1⟩ := trodAll_cons r0
  obtain ⟨v2, vs2, d2, ds2, p2, q2, rfl, rfl, rfl, h2, r2⟩ := trodAll_cons r1
  obtain ⟨v3, vs3, d3, ds3, p3, q3, rfl, rfl, rfl, h3, r3⟩ := trodAll_cons r2
  obtain ⟨v4, vs4, d4, ds4, p4, q4, rfl, rfl, rfl, h4, r4⟩ := trodAll_cons r3
  obtain ⟨rfl, rfl, rfl⟩ := trodAll_nil r4
  obtain rfl : args = #[v0, v1, v2, v3, v4] := by cases args; simp_all
  obtain ⟨rfl, rfl⟩ := trodVars_none hV
  have k0 := h0
  have lt0 : ∀ x ∈ p0, x.block < W.heap.size := by obtain ⟨m, hm⟩ := k0; exact DataW.trod_lt m _ _ _ hm
  obtain ⟨cs0, rfl, hs0⟩ := okWide_struct Try.underlying31 (hval 0 31 v0 rfl rfl)
  obtain ⟨r0_0, rfl, l0_0⟩ := arr_cells (hs0.trans (show Try.prog.cellsOf 31 = 3 by kernel_rfl))
  obtain ⟨v0_0, r0_1, rfl, l0_1⟩ := list_cons l0_0
  obtain ⟨v0_1, r0_2, rfl, l0_2⟩ := list_cons l0_1
  obtain ⟨v0_2, r0_3, rfl, l0_3⟩ := list_cons l0_2
  obtain rfl := List.eq_nil_of_length_eq_zero l0_3
  obtain ⟨m0, hm0⟩ := h0
  replace hm0 : DataW.trod enc Try.prog W 0 (fun _ => true) true m0 31 [v0_0, v0_1, v0_2] = some _ := hm0
  obtain ⟨m0_0, y0_0, f0_0⟩ := struct_field Try.underlying31 hm0 0 9 0 1 rfl (by kernel_rfl)
  replace f0_0 : DataW.trod enc Try.prog W 0 (fun _ => true) true m0_0 9 [v0_0] = some y0_0 := f0_0
  obtain ⟨z0_0, e0_0, _, w0_0⟩ := DataW.trod_string Try.underlying9 f0_0
  obtain ⟨a0_0, rfl⟩ : ∃ a, z0_0 = S a := ⟨z0_0.data.toList, rfl⟩
  cases e0_0
  obtain ⟨m0_1, y0_1, f0_1⟩ := struct_field Try.underlying31 hm0 1 3 1 1 rfl (by kernel_rfl)
  replace f0_1 : DataW.trod enc Try.prog W 0 (fun _ => true) true m0_1 3 [v0_1] = some y0_1 := f0_1
  obtain ⟨a0_1, e0_1, _, w0_1⟩ := DataW.trod_int Try.underlying3 f0_1
  cases e0_1
  obtain ⟨m0_2, y0_2, f0_2⟩ := struct_field Try.underlying31 hm0 2 23 2 1 rfl (by kernel_rfl)
  replace f0_2 : DataW.trod enc Try.prog W 0 (fun _ => true) true m0_2 23 [v0_2] = some y0_2 := f0_2
  obtain ⟨a0_2, e0_2, _, w0_2⟩ := DataW.trod_int Try.underlying23 f0_2
  cases e0_2
  obtain ⟨a1, rfl, rfl, rfl, w1⟩ := open_int Try.underlying32 (hval 1 32 v1 rfl rfl) h1
  have k2 := h2
  have lt2 : ∀ x ∈ p2, x.block < W.heap.size := by obtain ⟨m, hm⟩ := k2; exact DataW.trod_lt m _ _ _ hm
  obtain ⟨q2, len2, cap2, rfl⟩ := okWide_slice Try.underlying33 (hval 2 33 v2 rfl rfl)
  obtain ⟨m2, hm2⟩ := h2
  obtain ⟨pp2, c2, x2, e2, h2, b2, n2⟩ := open_texts Try.underlying33 Try.underlying9 (by kernel_rfl) hm2
  simp [Value.cells] at e2
  obtain ⟨rfl, rfl, rfl⟩ := e2
  have k3 := h3
  have lt3 : ∀ x ∈ p3, x.block < W.heap.size := by obtain ⟨m, hm⟩ := k3; exact DataW.trod_lt m _ _ _ hm
  obtain ⟨q3, len3, cap3, rfl⟩ := okWide_slice Try.underlying34 (hval 3 34 v3 rfl rfl)
  obtain ⟨m3, hm3⟩ := h3
  obtain ⟨pp3, c3, x3, e3, h3, b3, n3⟩ := open_i64s Try.underlying34 Try.underlying3 (by kernel_rfl) hm3
  simp [Value.cells] at e3
  obtain ⟨rfl, rfl, rfl⟩ := e3
  obtain ⟨a4, rfl, rfl, rfl, w4⟩ := open_int Try.underlying3 (hval 4 3 v4 rfl rfl) h4
  clear hA0 hval0
  refine (walk a0_0 a0_1 a0_2 a1 _ _ x2 _ _ x3 a4 W w0_0 w0_1 w0_2 w1 h2 b2 n2 h3 b3 n3 w4).mono fun e W' ⟨he, bel⟩ => ?_
  subst he
  exact ⟨_, rfl, _, _, _, [], _, [], hW', trodAll_mk1 (shut_bool Try.underlying4 _), (trodAll_cons_mk (Below.trod laidOut (by kernel_rfl) (of_decide_eq_true (by kernel_rfl)) k0 bel lt0) (trodAll_cons_mk (shut_int Try.underlying32 w1) (trodAll_cons_mk (Below.trod laidOut (by kernel_rfl) (of_decide_eq_true (by kernel_rfl)) k2 bel lt2) (trodAll_cons_mk (Below.trod laidOut (by kernel_rfl) (of_decide_eq_true (by kernel_rfl)) k3 bel lt3) (trodAll_cons_mk (shut_int Try.underlying3 w4) trodAll_mk0))))), rfl, bel.frame _, fun h => by cases h⟩

theorem over : Rows.codecWritesRow.holds Try.pinned (OpenSpec.ofChange Rows.codecWritesSpec) :=
  OpenClaim.holds_of_wide 4 Try.f4 rfl rfl rfl rfl rfl rfl rfl ⟨rfl, rfl, rfl, rfl, rfl⟩ rfl rfl rfl rfl rfl (by kernel_rfl) Try.func4 (by kernel_rfl)
    (of_decide_eq_true (by kernel_rfl)) (by unfold Func.isWrapper; first | (rw [if_pos (by decide +kernel)]; kernel_rfl) | (rw [if_neg (by decide +kernel)]; exact ⟨rfl, rfl⟩))
    (fun os started H enc _ => lifted os started H enc)

theorem proved : Rows.CodecWritesSaid :=
  over
#print axioms proved
end Go.Proofs.Ytlkfbokdbfnicaa.codecWrites
