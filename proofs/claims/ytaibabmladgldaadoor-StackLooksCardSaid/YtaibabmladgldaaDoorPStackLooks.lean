/-
  The row's proof: it returns true, whatever the input. The steps about the input's form were printed by a program of ours after the kit's shell; the walk stands in the texts that it imports.
-/
import Derived.Test.YtaibabmladgldaaDoorRows
import Derived.Test.YtaibabmladgldaaDoorQ9
import Derived.WalkKit
import Derived.ProofKit
import Derived.OpenShut
import Derived.ShutString
import Derived.ChangeOld
import Derived.Below
import Derived.Carry
import Derived.LaidMore
import Derived.Lay
import Derived.SevenTiedAt
import Derived.Stop.Joined
import Derived.Test.YtaibabmladgldaaDoorCards
import Derived.Test.YtaibabmladgldaaDoorTie
namespace Go.Proofs.YtaibabmladgldaaDoor.stackLooks
open Go.ChangeShapes Go.WideShapes Go.ChangeAt Go.RowKit
open Go.ChangeMaps (open_string shut_string)
set_option linter.unusedVariables false

theorem own : ownKnob Tryd.prog.godebug = none := by kernel_rfl
theorem laidOut : laidOutB Tryd.prog = true := by kernel_rfl

theorem tab {W : World} (h : laidMetH Tryd.prog (Rows.stackLooksRow.laid) W) : RowLaid (Env.of W) := by
  rw [MakeChecks.laidMetH_plain _ _ _ (by kernel_rfl)] at h
  exact rowLaid h (List.mem_of_getElem? (i := 2) rfl)
theorem walk (a0_0 : Int) (p0_1 : Option Addr) (c0_1 : Nat) (x0_1 : List (List UInt8)) (a0_2 : List UInt8) (p0_3 : Option Addr) (c0_3 : Nat) (x0_3 : List (List UInt8)) (a0_4 : Int) (p0_5 : Option Addr) (c0_5 : Nat) (x0_5 : List Row) (p1 : Option Addr) (c1 : Nat) (x1 : List Spt) (p2 : Option Addr) (c2 : Nat) (x2 : List Spt) (w : World) (hT : RowLaid (Env.of w)) (w0_0 : (Lit.int .i64 a0_0).wf = true) (h0_1 : SlE (Env.of w) 1 p0_1 x0_1.length (x0_1.map (fun s => .string (S s)))) (b0_1 : ∀ s, s ∈ x0_1 → s.length ≤ 9223372036854775807) (n0_1 : x0_1.length ≤ 9223372036854775807) (g0_1 : x0_1.length ≤ c0_1) (w0_2 : a0_2.length ≤ 9223372036854775807) (h0_3 : SlE (Env.of w) 1 p0_3 x0_3.length (x0_3.map (fun s => .string (S s)))) (b0_3 : ∀ s, s ∈ x0_3 → s.length ≤ 9223372036854775807) (n0_3 : x0_3.length ≤ 9223372036854775807) (g0_3 : x0_3.length ≤ c0_3) (w0_4 : (Lit.int .i64 a0_4).wf = true) (h0_5 : SlE (Env.of w) 2 p0_5 x0_5.length (prows x0_5)) (r0_5 : RowsE (Env.of w) x0_5) (b0_5 : ∀ r, r ∈ x0_5 → (-9223372036854775808 ≤ r.2.2.1 ∧ r.2.2.1 ≤ 9223372036854775807) ∧ (∀ n, n ∈ r.2.2.2 → -9223372036854775808 ≤ n ∧ n ≤ 9223372036854775807) ∧ r.2.2.2.length ≤ 9223372036854775807) (n0_5 : x0_5.length ≤ 9223372036854775807) (g0_5 : x0_5.length ≤ c0_5) (h1 : SlE (Env.of w) 2 p1 x1.length (spC x1)) (b1 : ∀ r, r ∈ x1 → ((-9223372036854775808 ≤ r.1 ∧ r.1 ≤ 9223372036854775807) ∧ -9223372036854775808 ≤ r.2 ∧ r.2 ≤ 9223372036854775807)) (n1 : x1.length ≤ 9223372036854775807) (g1 : x1.length ≤ c1) (h2 : SlE (Env.of w) 2 p2 x2.length (spC x2)) (b2 : ∀ r, r ∈ x2 → ((-9223372036854775808 ≤ r.1 ∧ r.1 ≤ 9223372036854775807) ∧ -9223372036854775808 ≤ r.2 ∧ r.2 ≤ 9223372036854775807)) (n2 : x2.length ≤ 9223372036854775807) (g2 : x2.length ≤ c2) :
    Calls Tryd.prog 3 #[.agg #[.int .i64 a0_0, .slice p0_1 x0_1.length c0_1, .string (S a0_2), .slice p0_3 x0_3.length c0_3, .int .i64 a0_4, .slice p0_5 x0_5.length c0_5], .slice p1 x1.length c1, .slice p2 x2.length c2] w fun e w' => e = .returned (.bool true) ∧ Below w.heap.size w w' := by
  exact CallS.run w (StackLooks_call _ [] hT _ _ (GrE.arg h0_1 h0_3 h0_5 r0_5 g0_1 g0_3 g0_5) n0_1 n0_3 (by simpa using n0_5) (fun p hp => by obtain ⟨x, hx, rfl⟩ := List.mem_map.1 hp; exact (b0_5 x hx).2.2) _ _ c1 x1 h1 n1 g1 _ _ c2 x2 h2 n2)

set_option maxRecDepth 100000 in
set_option maxHeartbeats 4000000 in
theorem lifted (os : Os) (started : os.Started) (H : Type) (enc : TypeId × Value → H) :
    ReturnsInHanded {} Tryd.checked os 3 .any (fun w args => (Rows.stackLooksSpec.pre enc Tryd.prog Tryd.f3 Rows.stackLooksRow.domain false w args ∧ laidMetH Tryd.prog (Rows.stackLooksRow.laid) w) ∧ sizedMet enc Tryd.prog Tryd.f3 (OpenSpec.ofChange Rows.stackLooksSpec) false w args) (Rows.stackLooksSpec.post enc Tryd.prog Tryd.f3 false true false false) := by
  refine returnsInHanded_of_change_and (C := Tryd.checked) (X := fun w _ => laidMetH Tryd.prog (Rows.stackLooksRow.laid) w) (fun _ _ _ hh h => h.of_heap hh) own started (by kernel_rfl) Tryd.func3
    (ChangeSpec.witness_shaped (enc := enc) (C := Tryd.checked) (os := os) (X := fun w _ => laidMetH Tryd.prog (Rows.stackLooksRow.laid) w) false (World.laidAll Tryd.prog os (Rows.stackLooksRow.laid)) #[.agg #[.int .i64 0, .slice none 0 0, .string ByteArray.empty, .slice none 0 0, .int .i64 0, .slice none 0 0], .slice none 0 0, .slice none 0 0] 8 (World.laidAll_os _ _ _)
      (World.shaped_of_ZipB (by kernel_rfl) (by kernel_rfl)) (by kernel_rfl) (by kernel_rfl) (by kernel_rfl)
      (by rw [MakeChecks.laidMetH_plain _ _ _ (by kernel_rfl)]; exact laidMet_laidAll _ (by kernel_rfl) (by kernel_rfl))) ?_
  intro W base args ds gs before hval0 hW hcnd _ hL _
  have hval : ∀ (j : Nat) t v, Tryd.f3.params[j]? = some t → args[j]? = some v → Value.okWide Tryd.prog W .any base t v := hval0
  have hW' := hW
  obtain ⟨p, q, hA0, hV, rfl, hfz, hnd⟩ := hW
  have hA : DataW.TrodAll enc Tryd.prog W 0 (fun _ => true) true Tryd.f3.params.toList args.toList ds p := hA0
  rw [Tryd.params3] at hA hval
  obtain ⟨v0, vs0, d0, ds0, p0, q0, hargs, rfl, rfl, h0, r0⟩ := trodAll_cons hA
  obtain ⟨v1, vs1, d1, ds1, p1, q1, rfl, rfl, rfl, h1, r1⟩ := trodAll_cons r0
  obtain ⟨v2, vs2, d2, ds2, p2, q2, rfl, rfl, rfl, h2, r2⟩ := trodAll_cons r1
  obtain ⟨rfl, rfl, rfl⟩ := trodAll_nil r2
  obtain rfl : args = #[v0, v1, v2] := by cases args; simp_all
  obtain ⟨rfl, rfl⟩ := trodVars_none hV
  have k0 := h0
  have lt0 : ∀ x ∈ p0, x.block < W.heap.size := by obtain ⟨m, hm⟩ := k0; exact DataW.trod_lt m _ _ _ hm
  obtain ⟨cs0, rfl, hs0⟩ := okWide_struct Tryd.underlying25 (hval 0 25 v0 rfl rfl)
  obtain ⟨r0_0, rfl, l0_0⟩ := arr_cells (hs0.trans (show Tryd.prog.cellsOf 25 = 6 by kernel_rfl))
  obtain ⟨v0_0, r0_1, rfl, l0_1⟩ := list_cons l0_0
  obtain ⟨v0_1, r0_2, rfl, l0_2⟩ := list_cons l0_1
  obtain ⟨v0_2, r0_3, rfl, l0_3⟩ := list_cons l0_2
  obtain ⟨v0_3, r0_4, rfl, l0_4⟩ := list_cons l0_3
  obtain ⟨v0_4, r0_5, rfl, l0_5⟩ := list_cons l0_4
  obtain ⟨v0_5, r0_6, rfl, l0_6⟩ := list_cons l0_5
  obtain rfl := List.eq_nil_of_length_eq_zero l0_6
  obtain ⟨m0, hm0⟩ := h0
  replace hm0 : DataW.trod enc Tryd.prog W 0 (fun _ => true) true m0 25 [v0_0, v0_1, v0_2, v0_3, v0_4, v0_5] = some _ := hm0
  obtain ⟨m0_0, y0_0, f0_0⟩ := struct_field Tryd.underlying25 hm0 0 3 0 1 rfl (by kernel_rfl)
  replace f0_0 : DataW.trod enc Tryd.prog W 0 (fun _ => true) true m0_0 3 [v0_0] = some y0_0 := f0_0
  obtain ⟨a0_0, e0_0, _, w0_0⟩ := DataW.trod_int Tryd.underlying3 f0_0
  cases e0_0
  obtain ⟨m0_1, y0_1, f0_1⟩ := struct_field Tryd.underlying25 hm0 1 22 1 1 rfl (by kernel_rfl)
  replace f0_1 : DataW.trod enc Tryd.prog W 0 (fun _ => true) true m0_1 22 [v0_1] = some y0_1 := f0_1
  obtain ⟨p0_1, c0_1, x0_1, e0_1, h0_1, b0_1, n0_1, g0_1⟩ := open_textsC Tryd.underlying22 Tryd.underlying9 (by kernel_rfl) f0_1
  cases e0_1
  obtain ⟨m0_2, y0_2, f0_2⟩ := struct_field Tryd.underlying25 hm0 2 9 2 1 rfl (by kernel_rfl)
  replace f0_2 : DataW.trod enc Tryd.prog W 0 (fun _ => true) true m0_2 9 [v0_2] = some y0_2 := f0_2
  obtain ⟨z0_2, e0_2, _, w0_2⟩ := DataW.trod_string Tryd.underlying9 f0_2
  obtain ⟨a0_2, rfl⟩ : ∃ a, z0_2 = S a := ⟨z0_2.data.toList, rfl⟩
  cases e0_2
  obtain ⟨m0_3, y0_3, f0_3⟩ := struct_field Tryd.underlying25 hm0 3 22 3 1 rfl (by kernel_rfl)
  replace f0_3 : DataW.trod enc Tryd.prog W 0 (fun _ => true) true m0_3 22 [v0_3] = some y0_3 := f0_3
  obtain ⟨p0_3, c0_3, x0_3, e0_3, h0_3, b0_3, n0_3, g0_3⟩ := open_textsC Tryd.underlying22 Tryd.underlying9 (by kernel_rfl) f0_3
  cases e0_3
  obtain ⟨m0_4, y0_4, f0_4⟩ := struct_field Tryd.underlying25 hm0 4 3 4 1 rfl (by kernel_rfl)
  replace f0_4 : DataW.trod enc Tryd.prog W 0 (fun _ => true) true m0_4 3 [v0_4] = some y0_4 := f0_4
  obtain ⟨a0_4, e0_4, _, w0_4⟩ := DataW.trod_int Tryd.underlying3 f0_4
  cases e0_4
  obtain ⟨m0_5, y0_5, f0_5⟩ := struct_field Tryd.underlying25 hm0 5 23 5 1 rfl (by kernel_rfl)
  replace f0_5 : DataW.trod enc Tryd.prog W 0 (fun _ => true) true m0_5 23 [v0_5] = some y0_5 := f0_5
  obtain ⟨p0_5, c0_5, x0_5, e0_5, h0_5, r0_5, b0_5, n0_5, g0_5⟩ := open_prods Tryd.underlying23 Tryd.underlying43 Tryd.underlying3 Tryd.underlying32 rfl rfl (by kernel_rfl) (by kernel_rfl) (by kernel_rfl) f0_5
  cases e0_5
  have k1 := h1
  have lt1 : ∀ x ∈ p1, x.block < W.heap.size := by obtain ⟨m, hm⟩ := k1; exact DataW.trod_lt m _ _ _ hm
  obtain ⟨q1, len1, cap1, rfl⟩ := okWide_slice Tryd.underlying26 (hval 1 26 v1 rfl rfl)
  obtain ⟨m1, hm1⟩ := h1
  obtain ⟨pp1, c1, x1, e1, h1, b1, n1, g1⟩ := open_sptC Tryd.underlying26 Tryd.underlying57 Tryd.underlying3 rfl rfl (by kernel_rfl) (by kernel_rfl) hm1
  simp [Value.cells] at e1
  obtain ⟨rfl, rfl, rfl⟩ := e1
  have k2 := h2
  have lt2 : ∀ x ∈ p2, x.block < W.heap.size := by obtain ⟨m, hm⟩ := k2; exact DataW.trod_lt m _ _ _ hm
  obtain ⟨q2, len2, cap2, rfl⟩ := okWide_slice Tryd.underlying26 (hval 2 26 v2 rfl rfl)
  obtain ⟨m2, hm2⟩ := h2
  obtain ⟨pp2, c2, x2, e2, h2, b2, n2, g2⟩ := open_sptC Tryd.underlying26 Tryd.underlying57 Tryd.underlying3 rfl rfl (by kernel_rfl) (by kernel_rfl) hm2
  simp [Value.cells] at e2
  obtain ⟨rfl, rfl, rfl⟩ := e2
  clear hA0 hval0
  refine (walk a0_0 p0_1 c0_1 x0_1 a0_2 p0_3 c0_3 x0_3 a0_4 p0_5 c0_5 x0_5 _ _ x1 _ _ x2 W (tab hL) w0_0 h0_1 b0_1 n0_1 g0_1 w0_2 h0_3 b0_3 n0_3 g0_3 w0_4 h0_5 r0_5 b0_5 n0_5 g0_5 h1 b1 n1 g1 h2 b2 n2 g2).mono fun e W' ⟨he, bel⟩ => ?_
  subst he
  exact ⟨_, rfl, _, _, _, [], _, [], hW', trodAll_mk1 (shut_bool Tryd.underlying4 _), (trodAll_cons_mk (Below.trod laidOut (by kernel_rfl) (of_decide_eq_true (by kernel_rfl)) k0 bel lt0) (trodAll_cons_mk (Below.trod laidOut (by kernel_rfl) (of_decide_eq_true (by kernel_rfl)) k1 bel lt1) (trodAll_cons_mk (Below.trod laidOut (by kernel_rfl) (of_decide_eq_true (by kernel_rfl)) k2 bel lt2) trodAll_mk0))), rfl, bel.frame _, fun h => by cases h⟩

theorem over : Rows.stackLooksRow.holds Tryd.pinned (OpenSpec.ofChange Rows.stackLooksSpec) :=
  OpenClaim.holds_of_wide 3 Tryd.f3 rfl rfl rfl rfl rfl rfl rfl ⟨rfl, rfl, rfl, rfl, rfl⟩ rfl rfl rfl rfl rfl (by kernel_rfl) Tryd.func3 (by kernel_rfl)
    (of_decide_eq_true (by kernel_rfl)) (by unfold Func.isWrapper; first | (rw [if_pos (by decide +kernel)]; kernel_rfl) | (rw [if_neg (by decide +kernel)]; exact ⟨rfl, rfl⟩))
    (fun os started H enc _ => lifted os started H enc)

theorem proved : Rows.StackLooksCardSaid :=
  Claim7.holds_tied_plain_at .later [] [.data, .data, .data] true (true, "736032f84a5cebde7616f501c323263aebb18949cbb67f1b52f5a7dd10fdeed8") false over (fun _ h => by cases h) (by kernel_rfl) (fun _ h => by cases h) stackLooks_row_tie rfl ⟨rfl, rfl⟩ (by kernel_rfl) rfl
    (fun f fn hf hfn => by
      obtain rfl : f = 3 := Option.some.inj ((show Tryd.prog.funcNamed "stenotype/stenotypelaw25.StackLooks" = some 3 by kernel_rfl).symm.trans hf) |>.symm
      obtain rfl : fn = Tryd.f3 := (Option.some.inj (Tryd.func3.symm.trans hfn)).symm
      exact ⟨by kernel_rfl, fun j t ht => by
        rw [Tryd.params3] at ht
        have hm : t ∈ [25, 26, 26] := by simpa using Array.mem_of_getElem? ht
        have hall : ([25, 26, 26].all fun u => !Tryd.prog.wantsStandIn u) = true := by kernel_rfl
        exact (show Tryd.prog.wantsStandIn t = false by simpa using List.all_eq_true.1 hall t hm)⟩)
    (by kernel_rfl)
#print axioms proved
end Go.Proofs.YtaibabmladgldaaDoor.stackLooks
