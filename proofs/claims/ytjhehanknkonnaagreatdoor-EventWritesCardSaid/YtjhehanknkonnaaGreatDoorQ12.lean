/-
  Rules and contracts, packed: W39, Sep40, Sep41, W40.
-/
import Derived.Lib.BufferWrite
import Derived.FnData
import GoSem.ClaimJoined
import Derived.OpenShut
import Derived.Test.YtjhehanknkonnaaGreatDoorQ11
set_option maxHeartbeats 1000000
set_option linter.unusedSimpArgs false
set_option linter.unusedVariables false
set_option maxHeartbeats 2000000
set_option maxRecDepth 20000
namespace Go.Proofs.YtjhehanknkonnaaGreatDoor
open Go.RowKit
/-! The law EventWrites. -/
section
variable (E : Env) (L : List Res)
theorem EventWrites_call (hT : LaidW E) (p : Option Addr) (c : Nat) (l : List Ev) (hl : SlE E 7 p l.length (evC l)) (hc : l.length ≤ c) (hn : l.length ≤ 9223372036854775807) (kd : Int) (hk : -9223372036854775808 ≤ kd ∧ kd ≤ 9223372036854775807) :
    CallS Tryz.prog 3 #[.slice p l.length c, .int .i64 kd] E L (fun r E' L' => r = .bool true ∧ L' = L) := by
  refine CallS.intro (l := [_, _]) _ Tryz.func3 rfl Tryz.ntmps3 rfl ?_
  refine G_ways (Y := ?Y) (β := Nat) (J := fun _ => l.length ≤ 702) (fs' := fun b => [(0, .slice p l.length c), (1, .int .i64 kd), (48, .slice (some ⟨b, 0, none⟩) 0 0), (49, .slice p l.length c)]) (E' := fun _ => E) (L' := fun b => .sl 28 7 (some ⟨b, 0, none⟩) 0 0 [] :: L) ?_ ?_
  rotate_left
  · intro hgo
    by_cases hli : LightP l
    · have hl60 := hli.1
      refine G_seq (G_region ?_)
      refine Ga ?_
      refine G_end (X_then (G_seq (G_seq (G_region ?_))))
      refine Gm ?_
      refine G_callv (k := 9) (.mk rfl rfl rfl rfl) rfl rfl (.none rfl) (light_call _ _ p _ c l hl hn) ?_
      rw [decide_eq_true hli]
      refine Gv (V_not rfl rfl) ?_
      refine Gm ?_
      refine G.bool_f 26 rfl (by kernel_rfl) ?_
      refine Gn ?_
      refine Gn ?_
      refine Gn ?_
      refine Gn ?_
      refine G_stay (.un rfl rfl rfl rfl) rfl rfl ?_
      refine G_stay (.un rfl rfl rfl rfl) rfl rfl ?_
      refine G_stay (.un rfl rfl rfl rfl) rfl rfl ?_
      refine Gn ?_
      refine Gn ?_
      refine G_stay (.un rfl rfl rfl rfl) rfl rfl ?_
      refine G_stay (.un rfl rfl rfl rfl) rfl rfl ?_
      refine G_stay (.un rfl rfl rfl rfl) rfl rfl ?_
      refine G_stay (.un rfl rfl rfl rfl) rfl rfl ?_
      refine Gn ?_
      refine Gn ?_
      refine G_stay (.un rfl rfl rfl rfl) rfl rfl ?_
      refine G_stay (.un rfl rfl rfl rfl) rfl rfl ?_
      refine G_stay (.un rfl rfl rfl rfl) rfl rfl ?_
      refine Gn ?_
      refine Gv (V_pick_f rfl rfl rfl) ?_
      refine G_end (X_then ?_)
      refine G_cond_f rfl rfl ?_
      refine G_skip (X_then (G_seq (G_region ?_)))
      (refine G_lit0z rfl rfl rfl (.none rfl) ?_; intro b48)
      refine Gm ?_
      refine G.sub [(0, .slice p l.length c), (1, .int .i64 kd), (48, .slice (some ⟨b48, 0, none⟩) 0 0), (49, .slice p l.length c)] ⟨rfl, rfl, rfl, rfl, trivial⟩ ?_
      exact hgo b48 (by omega)
    · by_cases h7 : l.length ≤ 700
      · refine G_seq ?_
        refine G_region ?_
        refine Ga ?_
        refine G_end (X_then (G_seq (G_seq (G_region ?_))))
        refine Gm ?_
        refine G_callv (k := 9) (.mk rfl rfl rfl rfl) rfl rfl (.none rfl) (light_call _ _ p _ c l hl hn) ?_
        rw [decide_eq_false hli]
        refine Gv (V_not rfl rfl) ?_
        refine Gm ?_
        refine G.bool_t 26 rfl (by kernel_rfl) ?_
        refine Gy (V_move rfl rfl) ?_
        refine Gy (V_lenS rfl rfl) ?_
        refine Gy (V_leq rfl rfl rfl) ?_
        refine Gy (V_move rfl rfl) ?_
        refine G.bool_t 30 rfl (decide_eq_true (by omega)) ?_
        refine Gn ?_
        refine Gn ?_
        refine Gn ?_
        refine Gy (V_pick_t rfl rfl rfl) ?_
        refine Gy (V_move rfl rfl) ?_
        refine Gn ?_
        refine Gn ?_
        refine Gn ?_
        refine Gn ?_
        refine Gy (V_pick_t rfl rfl rfl) ?_
        refine Gy (V_move rfl rfl) ?_
        refine Gn ?_
        refine Gn ?_
        refine Gn ?_
        refine Gy (V_pick_t rfl rfl rfl) ?_
        refine Gv (V_pick_t rfl rfl rfl) ?_
        refine G_end (X_then ?_)
        refine G_cond_t rfl rfl ?_
        refine G_seq (G_region ?_)
        refine G_call (k := 11) (.mk rfl rfl rfl rfl) rfl rfl (.none rfl) (awake22_call _ _ (by assumption)) ?_
        rintro r1 E2 L3 hE4 ⟨rfl, rfl⟩
        replace hT := hT.mono hE4
        replace hl := hl.mono hE4
        refine Ga ?_
        refine G_end (X_then (G_ret (X_then_ret ?_)))
        refine G_leaveS (.nil _) (by exact (.cons (.tmp rfl) (.nil))) rfl ?_ ?_
        · exact hE4
        exact ⟨(by kernel_rfl), rfl⟩
      · by_cases h72 : 702 < l.length
        · refine G_seq ?_
          refine G_region ?_
          refine Ga ?_
          refine G_end (X_then (G_seq (G_seq (G_region ?_))))
          refine Gm ?_
          refine G_callv (k := 9) (.mk rfl rfl rfl rfl) rfl rfl (.none rfl) (light_call _ _ p _ c l hl hn) ?_
          rw [decide_eq_false hli]
          refine Gv (V_not rfl rfl) ?_
          refine Gm ?_
          refine G.bool_t 26 rfl (by kernel_rfl) ?_
          refine Gy (V_move rfl rfl) ?_
          refine Gy (V_lenS rfl rfl) ?_
          refine Gy (V_leq rfl rfl rfl) ?_
          refine Gy (V_move rfl rfl) ?_
          refine G.bool_f 30 rfl (decide_eq_false (by omega)) ?_
          refine Gy (V_move rfl rfl) ?_
          refine Gy (V_lenS rfl rfl) ?_
          refine Gy (V_gtr rfl rfl rfl) ?_
          refine Gy (V_pick_f rfl rfl rfl) ?_
          refine Gy (V_move rfl rfl) ?_
          refine G.bool_t 35 rfl (decide_eq_true (by omega)) ?_
          refine Gn ?_
          refine Gn ?_
          refine Gn ?_
          refine Gn ?_
          refine Gy (V_pick_t rfl rfl rfl) ?_
          refine Gy (V_move rfl rfl) ?_
          refine Gn ?_
          refine Gn ?_
          refine Gn ?_
          refine Gy (V_pick_t rfl rfl rfl) ?_
          refine Gv (V_pick_t rfl rfl rfl) ?_
          refine G_end (X_then ?_)
          refine G_cond_t rfl rfl ?_
          refine G_seq (G_region ?_)
          refine G_call (k := 11) (.mk rfl rfl rfl rfl) rfl rfl (.none rfl) (awake22_call _ _ (by assumption)) ?_
          rintro r1 E2 L3 hE4 ⟨rfl, rfl⟩
          replace hT := hT.mono hE4
          replace hl := hl.mono hE4
          refine Ga ?_
          refine G_end (X_then (G_ret (X_then_ret ?_)))
          refine G_leaveS (.nil _) (by exact (.cons (.tmp rfl) (.nil))) rfl ?_ ?_
          · exact hE4
          exact ⟨(by kernel_rfl), rfl⟩
        · have h1 : SlE E 7 p 1 (evC (l.take 1)) := by
            have := hl.head (i := 1) (by omega)
            rw [show (evC l).take (1 * 7) = evC (l.take 1) by
              cases l with
              | nil => simp at h7
              | cons x l => rw [evC_cons]; rfl] at this
            exact this
          have hlc := fun L0 => light_call E L0 p 1 c (l.take 1) h1 (by omega)
          have hec := fun L0 => even_call E L0 p _ c l hl hn
          refine G_seq (G_region ?_)
          refine Ga ?_
          refine G_end (X_then (G_seq (G_seq (G_region ?_))))
          refine Gm ?_
          refine G_callv (k := 9) (.mk rfl rfl rfl rfl) rfl rfl (.none rfl) (light_call _ _ p _ c l hl hn) ?_
          rw [decide_eq_false hli]
          by_cases hl1 : LightP (l.take 1)
          · rw [decide_eq_true hl1] at hlc
            by_cases hev : EvenP l
            · rw [decide_eq_true hev] at hec
              refine Gv (V_not rfl rfl) ?_
              refine Gm ?_
              refine G.bool_t 26 rfl (by kernel_rfl) ?_
              refine Gy (V_move rfl rfl) ?_
              refine Gy (V_lenS rfl rfl) ?_
              refine Gy (V_leq rfl rfl rfl) ?_
              refine Gy (V_move rfl rfl) ?_
              refine G.bool_f 30 rfl (decide_eq_false (by omega)) ?_
              refine Gy (V_move rfl rfl) ?_
              refine Gy (V_lenS rfl rfl) ?_
              refine Gy (V_gtr rfl rfl rfl) ?_
              refine Gy (V_pick_f rfl rfl rfl) ?_
              refine Gy (V_move rfl rfl) ?_
              refine G.bool_f 35 rfl (decide_eq_false (by omega)) ?_
              refine Gy (V_move rfl rfl) ?_
              refine Gy (V_slHead rfl rfl rfl (by omega) (by omega)) ?_
              refine G_callv (k := 9) (.mk rfl rfl rfl rfl) rfl rfl (.yes rfl rfl rfl rfl) (hlc _) ?_
              refine Gy (V_not rfl rfl) ?_
              refine Gy (V_pick_f rfl rfl rfl) ?_
              refine Gy (V_move rfl rfl) ?_
              refine G.bool_f 41 rfl (by kernel_rfl) ?_
              refine Gy (V_move rfl rfl) ?_
              refine G_callv (k := 10) (.mk rfl rfl rfl rfl) rfl rfl (.yes rfl rfl rfl rfl) (hec _) ?_
              refine Gy (V_not rfl rfl) ?_
              refine Gy (V_pick_f rfl rfl rfl) ?_
              refine Gv (V_pick_t rfl rfl rfl) ?_
              refine G_end (X_then ?_)
              refine G_cond_f rfl (by kernel_rfl) ?_
              refine G_skip (X_then (G_seq (G_region ?_)))
              (refine G_lit0z rfl rfl rfl (.none rfl) ?_; intro b48)
              refine Gm ?_
              refine G.sub [(0, .slice p l.length c), (1, .int .i64 kd), (48, .slice (some ⟨b48, 0, none⟩) 0 0), (49, .slice p l.length c)] ⟨rfl, rfl, rfl, rfl, trivial⟩ ?_
              exact hgo b48 (by omega)
            · rw [decide_eq_false hev] at hec
              refine Gv (V_not rfl rfl) ?_
              refine Gm ?_
              refine G.bool_t 26 rfl (by kernel_rfl) ?_
              refine Gy (V_move rfl rfl) ?_
              refine Gy (V_lenS rfl rfl) ?_
              refine Gy (V_leq rfl rfl rfl) ?_
              refine Gy (V_move rfl rfl) ?_
              refine G.bool_f 30 rfl (decide_eq_false (by omega)) ?_
              refine Gy (V_move rfl rfl) ?_
              refine Gy (V_lenS rfl rfl) ?_
              refine Gy (V_gtr rfl rfl rfl) ?_
              refine Gy (V_pick_f rfl rfl rfl) ?_
              refine Gy (V_move rfl rfl) ?_
              refine G.bool_f 35 rfl (decide_eq_false (by omega)) ?_
              refine Gy (V_move rfl rfl) ?_
              refine Gy (V_slHead rfl rfl rfl (by omega) (by omega)) ?_
              refine G_callv (k := 9) (.mk rfl rfl rfl rfl) rfl rfl (.yes rfl rfl rfl rfl) (hlc _) ?_
              refine Gy (V_not rfl rfl) ?_
              refine Gy (V_pick_f rfl rfl rfl) ?_
              refine Gy (V_move rfl rfl) ?_
              refine G.bool_f 41 rfl (by kernel_rfl) ?_
              refine Gy (V_move rfl rfl) ?_
              refine G_callv (k := 10) (.mk rfl rfl rfl rfl) rfl rfl (.yes rfl rfl rfl rfl) (hec _) ?_
              refine Gy (V_not rfl rfl) ?_
              refine Gy (V_pick_f rfl rfl rfl) ?_
              refine Gv (V_pick_t rfl rfl rfl) ?_
              refine G_end (X_then ?_)
              refine G_cond_t rfl (by kernel_rfl) ?_
              refine G_seq (G_region ?_)
              refine G_call (k := 11) (.mk rfl rfl rfl rfl) rfl rfl (.none rfl) (awake22_call _ _ (by assumption)) ?_
              rintro r1 E2 L3 hE4 ⟨rfl, rfl⟩
              replace hT := hT.mono hE4
              replace hl := hl.mono hE4
              replace h1 := h1.mono hE4
              refine Ga ?_
              refine G_end (X_then (G_ret (X_then_ret ?_)))
              refine G_leaveS (.nil _) (by exact (.cons (.tmp rfl) (.nil))) rfl ?_ ?_
              · exact hE4
              exact ⟨(by kernel_rfl), rfl⟩
          · rw [decide_eq_false hl1] at hlc
            refine Gv (V_not rfl rfl) ?_
            refine Gm ?_
            refine G.bool_t 26 rfl (by kernel_rfl) ?_
            refine Gy (V_move rfl rfl) ?_
            refine Gy (V_lenS rfl rfl) ?_
            refine Gy (V_leq rfl rfl rfl) ?_
            refine Gy (V_move rfl rfl) ?_
            refine G.bool_f 30 rfl (decide_eq_false (by omega)) ?_
            refine Gy (V_move rfl rfl) ?_
            refine Gy (V_lenS rfl rfl) ?_
            refine Gy (V_gtr rfl rfl rfl) ?_
            refine Gy (V_pick_f rfl rfl rfl) ?_
            refine Gy (V_move rfl rfl) ?_
            refine G.bool_f 35 rfl (decide_eq_false (by omega)) ?_
            refine Gy (V_move rfl rfl) ?_
            refine Gy (V_slHead rfl rfl rfl (by omega) (by omega)) ?_
            refine G_callv (k := 9) (.mk rfl rfl rfl rfl) rfl rfl (.yes rfl rfl rfl rfl) (hlc _) ?_
            refine Gy (V_not rfl rfl) ?_
            refine Gy (V_pick_f rfl rfl rfl) ?_
            refine Gy (V_move rfl rfl) ?_
            refine G.bool_t 41 rfl (by kernel_rfl) ?_
            refine Gn ?_
            refine Gn ?_
            refine Gn ?_
            refine Gy (V_pick_t rfl rfl rfl) ?_
            refine Gv (V_pick_t rfl rfl rfl) ?_
            refine G_end (X_then ?_)
            refine G_cond_t rfl rfl ?_
            refine G_seq (G_region ?_)
            refine G_call (k := 11) (.mk rfl rfl rfl rfl) rfl rfl (.none rfl) (awake22_call _ _ (by assumption)) ?_
            rintro r1 E2 L3 hE4 ⟨rfl, rfl⟩
            replace hT := hT.mono hE4
            replace hl := hl.mono hE4
            replace h1 := h1.mono hE4
            refine Ga ?_
            refine G_end (X_then (G_ret (X_then_ret ?_)))
            refine G_leaveS (.nil _) (by exact (.cons (.tmp rfl) (.nil))) rfl ?_ ?_
            · exact hE4
            exact ⟨(by kernel_rfl), rfl⟩
  · intro b48 h702
    refine G_append rfl rfl rfl (SlE.rd hl) (evC_one l) (by omega) (by omega) rfl rfl (.none rfl) (fun _ _ => .head _ _ _) ?_
    intro a50 c50
    refine G.freezeSl (.head _ _) ?_
    intro E1 hE1 hal hac
    simp only [Nat.zero_add, List.nil_append] at hal hac ⊢
    replace hl := hl.mono hE1
    replace hT := hT.mono hE1
    refine Ga ?_
    refine G_end (X_then (G_seq (G_seq (G_region ?_))))
    refine Ga ?_
    refine G_end (X_then (G_block ?_))
    refine G_loop (α := Nat × Env) (fun x => [(0, .slice p l.length c), (1, .int .i64 kd), (5, .slice a50 l.length c50), (6, .int .i64 (x.1 : Nat))]) (fun x => x.2) (fun _ => L) (fun x => x.1 ≤ l.length ∧ E1.Le x.2) (fun x => l.length - x.1) (0, E1) ⟨Nat.zero_le _, .refl _⟩ ⟨rfl, rfl, rfl, rfl, trivial⟩ rfl rfl ?_
    rintro ⟨i, E2⟩ ⟨hi, hE2⟩
    simp only at hi hE2 ⊢
    replace hl := hl.mono hE2
    replace hal := hal.mono hE2
    replace hT := hT.mono hE2
    by_cases hgo : i < l.length ∧ i < 60
    · have hx := evC_at (List.getElem?_eq_getElem hgo.1)
      generalize l[i]'hgo.1 = x at *
      obtain ⟨k, sy, pr, rc, pl, tx, er⟩ := x
      have hx2 : ((evC l).drop (((i : Nat) : Int).toNat * 7)).take 7 = [.int .i64 k, .int .i64 sy, .int .i64 pr, .int .i64 rc, .int .i64 pl, .string (S tx), .int .i64 er] := hx
      clear hx
      obtain ⟨hg1, hg2⟩ := hgo
      refine G_seq (G_seq (G_region ?_))
      refine Gm ?_
      refine Gm ?_
      refine Gv (V_lenS rfl rfl) ?_
      refine Gv (V_lss rfl rfl rfl) ?_
      refine Gm ?_
      refine G.bool_t 55 rfl (decide_eq_true (by omega)) ?_
      refine Gy (V_move rfl rfl) ?_
      refine Gy (V_lss rfl rfl rfl) ?_
      refine Gv (V_pick_t rfl rfl rfl) ?_
      refine G_end (X_then ?_)
      refine G_cond_t rfl (decide_eq_true (by omega)) ?_
      refine G_skip (X_then (G_seq (G_block (G_seq (G_seq ?_)))))
      refine G_drawX 11 [(0, 0), (1, 0), (2, 1), (3, 1), (5, 0), (6, 0), (7, 1), (8, 1), (4, 3), (9, 3), (10, 0)] mixed (by kernel_rfl) ?_
      refine F_pure rfl (fun _ _ => V_move rfl rfl) rfl rfl (.none rfl) ?_
      refine F_pure rfl (fun _ _ => V_move rfl rfl) rfl rfl (.none rfl) ?_
      refine F_loadE rfl (V_idxAddr rfl rfl rfl (SlE.rd (by assumption)) (by omega) (by omega)) rfl rfl (.none rfl) ?_
      refine F_loadE rfl (V_loadAS rfl rfl (SlE.rd (by assumption)) (by assumption) (by simp) (by rfl)) rfl rfl (.none rfl) ?_
      refine F_pure rfl (fun _ _ => V_move rfl rfl) rfl rfl (.none rfl) ?_
      refine F_pure rfl (fun _ _ => V_move rfl rfl) rfl rfl (.none rfl) ?_
      refine F_loadE rfl (V_idxAddr rfl rfl rfl (SlE.rd (by assumption)) (by omega) (by omega)) rfl rfl (.none rfl) ?_
      refine F_loadE rfl (V_loadAS rfl rfl (SlE.rd (by assumption)) (by assumption) (by simp) (by rfl)) rfl rfl (.none rfl) ?_
      apply F_call (k := 12) rfl (.mk rfl rfl rfl rfl) rfl rfl (.none rfl)
      · (intro L0; refine CallS.mono (EvCheck_call _ _ _ _ _ _ _ _ _) ?_; exact fun _ _ _ _ h => h)
      · (rintro L0 r E' L' ⟨rfl, rfl⟩; exact ⟨rfl, ⟨rfl, rfl⟩⟩)
      rintro r1 E3 hE4 ⟨rfl, _⟩
      replace hl := hl.mono hE4
      replace hal := hal.mono hE4
      replace hT := hT.mono hE4
      apply F_call (k := 13) rfl (.mk rfl rfl rfl rfl) rfl rfl (.none rfl)
      · (intro L0; refine CallS.mono (RCheck_call' _ _ _ _ _ _ _ _ _) ?_; exact fun _ _ _ _ h => h)
      · (rintro L0 r E' L' ⟨rfl, rfl⟩; exact ⟨rfl, ⟨rfl, rfl⟩⟩)
      rintro r5 E6 hE7 ⟨rfl, _⟩
      replace hl := hl.mono hE7
      replace hal := hal.mono hE7
      replace hT := hT.mono hE7
      refine F_pure rfl (fun _ _ => V_neq rfl rfl rfl) rfl rfl (.none rfl) ?_
      (refine F_end (.nil _) ?_; dsimp only [List.drop])
      refine G_end (X_then ?_)
      refine G_cond_f rfl (decide_eq_false (by omega)) ?_
      refine G_skip (X_then (G_seq (G_region ?_)))
      refine Gm ?_
      refine Gm ?_
      refine Gv (V_idxAddr rfl rfl rfl (SlE.rd (by assumption)) (by omega) (by omega)) ?_
      refine Gv (V_loadAS rfl rfl (SlE.rd (by assumption)) (by assumption) (by simp) (by rfl)) ?_
      refine G_call (k := 14) (.mk rfl rfl rfl rfl) rfl rfl (.none rfl) (EvBytes_call _ _ _ _ _ _ _ _ _) ?_
      rintro r8 E9 L10 hE11 ⟨rfl, rfl⟩
      replace hl := hl.mono hE11
      replace hal := hal.mono hE11
      replace hT := hT.mono hE11
      refine Gm ?_
      refine Gv (V_extract rfl rfl rfl) ?_
      refine Gv (V_extract rfl rfl rfl) ?_
      refine Ga ?_
      refine Ga ?_
      refine G_end (X_then (G_seq (G_region ?_)))
      refine Gm ?_
      refine Gm ?_
      refine Gv (V_idxAddr rfl rfl rfl (SlE.rd (by assumption)) (by omega) (by omega)) ?_
      refine Gv (V_loadAS rfl rfl (SlE.rd (by assumption)) (by assumption) (by simp) (by rfl)) ?_
      refine G_call (k := 15) (.mk rfl rfl rfl rfl) rfl rfl (.none rfl) (RBytes_call _ _ _ _ _ _ _ _ _) ?_
      rintro r12 E13 L14 hE15 ⟨rfl, rfl⟩
      replace hl := hl.mono hE15
      replace hal := hal.mono hE15
      replace hT := hT.mono hE15
      refine Gm ?_
      refine Gv (V_extract rfl rfl rfl) ?_
      refine Gv (V_extract rfl rfl rfl) ?_
      refine Ga ?_
      refine Ga ?_
      refine G_end (X_then (G_seq (G_region ?_)))
      refine Gm ?_
      refine Gm ?_
      refine Gv (V_idxAddr rfl rfl rfl (SlE.rd (by assumption)) (by omega) (by omega)) ?_
      refine Gv (V_loadAS rfl rfl (SlE.rd (by assumption)) (by assumption) (by simp) (by rfl)) ?_
      refine G_call (k := 16) (.mk rfl rfl rfl rfl) rfl rfl (.none rfl) (EvText_call _ _ (by assumption) _ _ _ _ _ _ _) ?_
      rintro r16 E17 L18 hE19 ⟨rfl, rfl⟩
      replace hl := hl.mono hE19
      replace hal := hal.mono hE19
      replace hT := hT.mono hE19
      refine Gm ?_
      refine Gv (V_extract rfl rfl rfl) ?_
      refine Gv (V_extract rfl rfl rfl) ?_
      refine Ga ?_
      refine Ga ?_
      refine G_end (X_then (G_seq (G_region ?_)))
      refine Gm ?_
      refine Gm ?_
      refine Gv (V_idxAddr rfl rfl rfl (SlE.rd (by assumption)) (by omega) (by omega)) ?_
      refine Gv (V_loadAS rfl rfl (SlE.rd (by assumption)) (by assumption) (by simp) (by rfl)) ?_
      refine G_call (k := 17) (.mk rfl rfl rfl rfl) rfl rfl (.none rfl) (RText_call _ _ _ _ _ _ _ _ _) ?_
      rintro r20 E21 L22 hE23 ⟨rfl, rfl⟩
      replace hl := hl.mono hE23
      replace hal := hal.mono hE23
      replace hT := hT.mono hE23
      refine Gm ?_
      refine Gv (V_extract rfl rfl rfl) ?_
      refine Gv (V_extract rfl rfl rfl) ?_
      refine Ga ?_
      refine Ga ?_
      refine G_end (X_then (G_seq (G_region ?_)))
      refine Gm ?_
      refine Gm ?_
      refine Gv (V_sneq rfl rfl rfl) ?_
      refine Gm ?_
      refine G.bool_f 107 rfl (by simp [*]; done) ?_
      refine Gy (V_move rfl rfl) ?_
      refine Gy (V_move rfl rfl) ?_
      refine Gy (V_neq rfl rfl rfl) ?_
      refine Gv (V_pick_f rfl rfl rfl) ?_
      refine Gm ?_
      refine G.bool_f 112 rfl (decide_eq_false (by omega)) ?_
      refine Gy (V_move rfl rfl) ?_
      refine Gy (V_move rfl rfl) ?_
      refine Gy (V_sneq rfl rfl rfl) ?_
      refine Gv (V_pick_f rfl rfl rfl) ?_
      refine Gm ?_
      refine G.bool_f 117 rfl (by simp [*]; done) ?_
      refine Gy (V_move rfl rfl) ?_
      refine Gy (V_move rfl rfl) ?_
      refine Gy (V_neq rfl rfl rfl) ?_
      refine Gv (V_pick_f rfl rfl rfl) ?_
      refine G_end (X_then ?_)
      refine G_cond_f rfl (decide_eq_false (by omega)) ?_
      refine G_skip (X_block (X_then (G_region ?_)))
      refine Gm ?_
      refine Gv (V_add_i64 rfl rfl rfl (by omega) (by omega)) ?_
      refine Ga ?_
      refine G_end (X_then ?_)
      exact G_again (i + 1, E21) ⟨hg1, (by repeat (first | assumption | refine Env.Le.trans (by assumption) ?_))⟩ (by simp only; omega) ⟨rfl, rfl, rfl, rfl, trivial⟩ rfl rfl
    · by_cases hlt : i < l.length
      · have h60 : 60 ≤ i := by omega
        refine G_seq (G_seq (G_region ?_))
        refine Gm ?_
        refine Gm ?_
        refine Gv (V_lenS rfl rfl) ?_
        refine Gv (V_lss rfl rfl rfl) ?_
        refine Gm ?_
        refine G.bool_t 55 rfl (decide_eq_true (by omega)) ?_
        refine Gy (V_move rfl rfl) ?_
        refine Gy (V_lss rfl rfl rfl) ?_
        refine Gv (V_pick_t rfl rfl rfl) ?_
        refine G_end (X_then ?_)
        refine G_cond_f rfl (decide_eq_false (by omega)) ?_
        refine G_exit (X_then_exit (X_then_exit (X_block_hit (X_then (G_seq (G_region ?_))))))
        refine Gm ?_
        refine G_call (k := 18) (.mk rfl rfl rfl rfl) rfl rfl (.none rfl) (EvList_call _ _ (by assumption) _ _ _ _ (by assumption) (by omega)) ?_
        rintro r1 E3 L4 hE5 ⟨rfl, rfl⟩
        replace hl := hl.mono hE5
        replace hal := hal.mono hE5
        replace hT := hT.mono hE5
        refine Gm ?_
        refine Gv (V_extract rfl rfl rfl) ?_
        refine Gv (V_extract rfl rfl rfl) ?_
        refine Ga ?_
        refine Ga ?_
        refine G_end (X_then (G_seq (G_region ?_)))
        refine Gm ?_
        refine G_call (k := 19) (.mk rfl rfl rfl rfl) rfl rfl (.none rfl) (RList_call _ _ _ _ _ _ (by assumption) (by omega)) ?_
        rintro r6 E7 L8 hE9 ⟨rfl, rfl⟩
        replace hl := hl.mono hE9
        replace hal := hal.mono hE9
        replace hT := hT.mono hE9
        refine Gm ?_
        refine Gv (V_extract rfl rfl rfl) ?_
        refine Gv (V_extract rfl rfl rfl) ?_
        refine Ga ?_
        refine Ga ?_
        refine G_end (X_then (G_seq (G_region ?_)))
        refine Gm ?_
        refine G_call (k := 20) (.mk rfl rfl rfl rfl) rfl rfl (.none rfl) (Name_call _ _ hT.asp kd) ?_
        rintro x8 E8 L9 hE8 ⟨rfl, rfl⟩
        replace hl := hl.mono hE8
        replace hal := hal.mono hE8
        replace hT := hT.mono hE8
        refine Gm ?_
        refine Gv (V_extract rfl rfl rfl) ?_
        refine Gv (V_extract rfl rfl rfl) ?_
        refine Ga ?_
        refine Ga ?_
        refine G_end (X_then (G_seq (G_region ?_)))
        refine Gm ?_
        refine G_call (k := 21) (.mk rfl rfl rfl rfl) rfl rfl (.none rfl) (RName_call _ _ _) ?_
        rintro r1 E4 L5 hE6 ⟨rfl, rfl⟩
        replace hl := hl.mono hE6
        replace hal := hal.mono hE6
        replace hT := hT.mono hE6
        refine Gm ?_
        refine Gv (V_extract rfl rfl rfl) ?_
        refine Gv (V_extract rfl rfl rfl) ?_
        refine Ga ?_
        refine Ga ?_
        refine G_end (X_then (G_seq (G_region ?_)))
        refine Gm ?_
        refine Gm ?_
        refine Gv (V_seql rfl rfl rfl) ?_
        refine Gm ?_
        refine G.bool_t 145 rfl (by simp [*]; done) ?_
        refine Gy (V_move rfl rfl) ?_
        refine Gy (V_move rfl rfl) ?_
        refine Gy (V_eql rfl rfl rfl) ?_
        refine Gv (V_pick_t rfl rfl rfl) ?_
        refine Gm ?_
        refine G.bool_t 150 rfl (decide_eq_true (by omega)) ?_
        refine Gy (V_move rfl rfl) ?_
        refine Gy (V_move rfl rfl) ?_
        refine Gy (V_seql rfl rfl rfl) ?_
        refine Gv (V_pick_t rfl rfl rfl) ?_
        refine Gm ?_
        refine G.bool_t 155 rfl (by simp [*]; done) ?_
        refine Gy (V_move rfl rfl) ?_
        refine Gy (V_move rfl rfl) ?_
        refine Gy (V_eql rfl rfl rfl) ?_
        refine Gv (V_pick_t rfl rfl rfl) ?_
        refine Gm ?_
        refine G.bool_t 160 rfl (decide_eq_true (by omega)) ?_
        refine Gy (V_move rfl rfl) ?_
        refine Gy (V_move rfl rfl) ?_
        refine G_callv (k := 22) (.mk rfl rfl rfl rfl) rfl rfl (.yes rfl rfl rfl rfl) (same_call _ _ _ _ _ _ _ _ _ _ (by assumption) (by assumption) (by omega) (by omega)) ?_
        refine Gv (V_pick_t rfl rfl rfl) ?_
        refine Gm ?_
        refine G.bool_t 165 rfl (by simp [*]; done) ?_
        refine G_call (k := 11) (.mk rfl rfl rfl rfl) rfl rfl (.yes rfl rfl rfl rfl) (awake22_call _ _ (by assumption)) ?_
        rintro r7 E9 L10 hE11 ⟨rfl, rfl⟩
        replace hl := hl.mono hE11
        replace hal := hal.mono hE11
        replace hT := hT.mono hE11
        refine Gv (V_pick_t rfl rfl rfl) ?_
        refine Ga ?_
        refine G_end (X_then (G_ret ?_))
        refine G_leaveS (.nil _) (by exact (.cons (.tmp rfl) (.nil))) rfl ?_ ?_
        · exact ((((((hE1.trans hE2).trans hE5).trans hE9).trans hE8).trans hE6).trans hE11)
        exact ⟨(by kernel_rfl), rfl⟩
      · refine G_seq ?_
        refine G_seq (G_region ?_)
        refine Gm ?_
        refine Gm ?_
        refine Gv (V_lenS rfl rfl) ?_
        refine Gv (V_lss rfl rfl rfl) ?_
        refine Gm ?_
        refine G.bool_f 55 rfl (decide_eq_false (by omega)) ?_
        refine Gn ?_
        refine Gn ?_
        refine Gv (V_pick_f rfl rfl rfl) ?_
        refine G_end (X_then ?_)
        refine G_cond_f rfl rfl ?_
        refine G_exit (X_then_exit (X_then_exit (X_block_hit (X_then (G_seq (G_region ?_))))))
        refine Gm ?_
        refine G_call (k := 18) (.mk rfl rfl rfl rfl) rfl rfl (.none rfl) (EvList_call _ _ (by assumption) _ _ _ _ (by assumption) (by omega)) ?_
        rintro r1 E3 L4 hE5 ⟨rfl, rfl⟩
        replace hl := hl.mono hE5
        replace hal := hal.mono hE5
        replace hT := hT.mono hE5
        refine Gm ?_
        refine Gv (V_extract rfl rfl rfl) ?_
        refine Gv (V_extract rfl rfl rfl) ?_
        refine Ga ?_
        refine Ga ?_
        refine G_end (X_then (G_seq (G_region ?_)))
        refine Gm ?_
        refine G_call (k := 19) (.mk rfl rfl rfl rfl) rfl rfl (.none rfl) (RList_call _ _ _ _ _ _ (by assumption) (by omega)) ?_
        rintro r6 E7 L8 hE9 ⟨rfl, rfl⟩
        replace hl := hl.mono hE9
        replace hal := hal.mono hE9
        replace hT := hT.mono hE9
        refine Gm ?_
        refine Gv (V_extract rfl rfl rfl) ?_
        refine Gv (V_extract rfl rfl rfl) ?_
        refine Ga ?_
        refine Ga ?_
        refine G_end (X_then (G_seq (G_region ?_)))
        refine Gm ?_
        refine G_call (k := 20) (.mk rfl rfl rfl rfl) rfl rfl (.none rfl) (Name_call _ _ hT.asp kd) ?_
        rintro x8 E8 L9 hE8 ⟨rfl, rfl⟩
        replace hl := hl.mono hE8
        replace hal := hal.mono hE8
        replace hT := hT.mono hE8
        refine Gm ?_
        refine Gv (V_extract rfl rfl rfl) ?_
        refine Gv (V_extract rfl rfl rfl) ?_
        refine Ga ?_
        refine Ga ?_
        refine G_end (X_then (G_seq (G_region ?_)))
        refine Gm ?_
        refine G_call (k := 21) (.mk rfl rfl rfl rfl) rfl rfl (.none rfl) (RName_call _ _ _) ?_
        rintro r1 E4 L5 hE6 ⟨rfl, rfl⟩
        replace hl := hl.mono hE6
        replace hal := hal.mono hE6
        replace hT := hT.mono hE6
        refine Gm ?_
        refine Gv (V_extract rfl rfl rfl) ?_
        refine Gv (V_extract rfl rfl rfl) ?_
        refine Ga ?_
        refine Ga ?_
        refine G_end (X_then (G_seq (G_region ?_)))
        refine Gm ?_
        refine Gm ?_
        refine Gv (V_seql rfl rfl rfl) ?_
        refine Gm ?_
        refine G.bool_t 145 rfl (by simp [*]; done) ?_
        refine Gy (V_move rfl rfl) ?_
        refine Gy (V_move rfl rfl) ?_
        refine Gy (V_eql rfl rfl rfl) ?_
        refine Gv (V_pick_t rfl rfl rfl) ?_
        refine Gm ?_
        refine G.bool_t 150 rfl (decide_eq_true (by omega)) ?_
        refine Gy (V_move rfl rfl) ?_
        refine Gy (V_move rfl rfl) ?_
        refine Gy (V_seql rfl rfl rfl) ?_
        refine Gv (V_pick_t rfl rfl rfl) ?_
        refine Gm ?_
        refine G.bool_t 155 rfl (by simp [*]; done) ?_
        refine Gy (V_move rfl rfl) ?_
        refine Gy (V_move rfl rfl) ?_
        refine Gy (V_eql rfl rfl rfl) ?_
        refine Gv (V_pick_t rfl rfl rfl) ?_
        refine Gm ?_
        refine G.bool_t 160 rfl (decide_eq_true (by omega)) ?_
        refine Gy (V_move rfl rfl) ?_
        refine Gy (V_move rfl rfl) ?_
        refine G_callv (k := 22) (.mk rfl rfl rfl rfl) rfl rfl (.yes rfl rfl rfl rfl) (same_call _ _ _ _ _ _ _ _ _ _ (by assumption) (by assumption) (by omega) (by omega)) ?_
        refine Gv (V_pick_t rfl rfl rfl) ?_
        refine Gm ?_
        refine G.bool_t 165 rfl (by simp [*]; done) ?_
        refine G_call (k := 11) (.mk rfl rfl rfl rfl) rfl rfl (.yes rfl rfl rfl rfl) (awake22_call _ _ (by assumption)) ?_
        rintro r7 E9 L10 hE11 ⟨rfl, rfl⟩
        replace hl := hl.mono hE11
        replace hal := hal.mono hE11
        replace hT := hT.mono hE11
        refine Gv (V_pick_t rfl rfl rfl) ?_
        refine Ga ?_
        refine G_end (X_then (G_ret ?_))
        refine G_leaveS (.nil _) (by exact (.cons (.tmp rfl) (.nil))) rfl ?_ ?_
        · exact ((((((hE1.trans hE2).trans hE5).trans hE9).trans hE8).trans hE6).trans hE11)
        exact ⟨(by kernel_rfl), rfl⟩
end
end Go.Proofs.YtjhehanknkonnaaGreatDoor
namespace Go.Proofs.YtjhehanknkonnaaGreatDoor
open Go.RowKit
section
variable {P : Program} {ro : Option Nat} {n : Nat} {ds : List Deferred} {fs : List (Nat × Value)} {E : Env} {L : List Res} {ops : Array Oper} {Q : Exit → Act → World → Prop} {rest : List Oper} {o : Oper}
end
/-- What the row says of a variable that it lays. -/
theorem laid_get {P : Program} {laid : List (String × DataW Unit)} {W : World} (h : laidMet P laid W) {x : String} {d : DataW Unit} (hm : (x, d) ∈ laid) {g : Nat} {t : TypeId} (hg : P.globalNamed x = some g) (ht : (P.globals[g]?).map (·.type) = some t) :
    ∃ (cs : Array Value) (fuel : Nat) (p : List MemPlace), (∀ i, W.cell? ⟨g, i, none⟩ = cs[i]?) ∧ DataW.trod (fun _ => ()) P W 0 (fun _ => true) false fuel t cs.toList = some (d, p) := by
  obtain ⟨ps, hv, x1, x2⟩ := h
  clear x1 x2
  induction laid generalizing ps with
  | nil => cases hm
  | cons y r ih =>
    obtain ⟨n, d0⟩ := y
    obtain ⟨g', t', cs, fuel, p, q, hg', ht', hv', hd', hr, _⟩ := hv
    rcases List.mem_cons.1 hm with e | hm
    · cases e
      obtain rfl := Option.some.inj (hg.symm.trans hg')
      obtain rfl := Option.some.inj (ht.symm.trans ht')
      exact ⟨cs, fuel, p, World.var?_cell hg hv', hd'⟩
    · exact ih hm _ hr
/-- One cell of memory, as a frozen slice of one. -/
theorem SlE.ofCells {W : World} {g k n : Nat} {vals : List Value} (hl : vals.length = n) (h : ∀ j v, vals[j]? = some v → W.cell? ⟨g, k + j, none⟩ = some v) : SlE (Env.of W) 1 (some ⟨g, k, none⟩) n vals := by
  refine ⟨by simpa using hl, .inr ⟨_, rfl, .inl rfl, fun j v hj => ?_⟩⟩
  have e : (⟨g, k, none⟩ : Addr).add j = ⟨g, k + j, none⟩ := by unfold Addr.add; split <;> simp_all
  rw [e]
  exact Env.of_cell (h j v hj)
end Go.Proofs.YtjhehanknkonnaaGreatDoor
namespace Go.Proofs.YtjhehanknkonnaaGreatDoor
open Go.RowKit
variable {H : Type} {enc : TypeId × Value → H} {P : Program} {W : World} {base : Nat} {sp : Nat → Bool} {held : Bool} {laid : List (String × DataW Unit)}
/-- A variable that the row lays holds some value of an interface. -/
def LaidI (E : Env) (g : Nat) : Prop := ∃ t v, SlE E 1 (some ⟨g, 0, none⟩) 1 [.iface t v] ∨ SlE E 1 (some ⟨g, 0, none⟩) 1 [.nilIface]
theorem LaidI.mono {E E' : Env} {g : Nat} (h : LaidI E g) (hE : E.Le E') : LaidI E' g := by
  obtain ⟨t, v, h⟩ := h
  exact ⟨t, v, h.imp (·.mono hE) (·.mono hE)⟩
/-- A table of numbers. -/
theorem laid_ints {x : String} {k : IntKind} {l : List Int} {g m : Nat} {t e : TypeId} (h : laidMet P laid W) (hm : (x, DataW.agg (l.map fun n => .lit (.int k n))) ∈ laid) (hg : P.globalNamed x = some g) (ht : (P.globals[g]?).map (·.type) = some t)
    (hu : P.underlying t = some (.array m e)) (he : P.underlying e = some (.int k)) (hce : P.cellsOf e = 1) {i j n : Nat} (hj : i + n = j) (hl : j ≤ l.length) : SlE (Env.of W) 1 (some ⟨g, i, none⟩) n (((l.drop i).take n).map (.int k ·)) := by
  obtain ⟨cs, fuel, p, hc, hd⟩ := laid_get h hm hg ht
  obtain ⟨xs, m', _, ex, _, hxl, hel⟩ := DataW.trod_array hu hd
  have e3 : l.map (fun n => DataW.lit (H := Unit) (.int k n)) = xs.map (·.1) := by have := (Prod.mk.inj ex).1; injection this
  have hlx : xs.length = l.length := by have := congrArg List.length e3; simpa using this.symm
  refine SlE.ofCells (by simp; omega) fun q v hq => ?_
  have hq1 : q < n := by have := (List.getElem?_eq_some_iff.1 hq).1; simp at this; omega
  have hlt : i + q < l.length := by omega
  rw [List.getElem?_map, List.getElem?_take_of_lt hq1, List.getElem?_drop, List.getElem?_eq_getElem hlt, Option.map_some] at hq
  cases hq
  have hE := hel (i + q) (by omega)
  rw [hce, List.getElem?_eq_getElem (by omega)] at hE
  obtain ⟨z, e1, e2, _⟩ := DataW.trod_int he hE
  have e4 : (l.map (fun n => DataW.lit (H := Unit) (.int k n)))[i + q]? = (xs.map (·.1))[i + q]? := by rw [e3]
  rw [List.getElem?_map, List.getElem?_map, List.getElem?_eq_getElem hlt, List.getElem?_eq_getElem (by omega), Option.map_some, Option.map_some, e2] at e4
  have e5 : l[i + q] = z := by simpa using e4
  rw [hc (i + q), ← Array.getElem?_toList, e5]
  have : ((cs.toList.drop ((i + q) * 1)).take 1)[0]? = some (.int k z) := by rw [e1]; rfl
  simpa using this
end Go.Proofs.YtjhehanknkonnaaGreatDoor
namespace Go.Proofs.YtjhehanknkonnaaGreatDoor
open Go.RowKit Go.WideShapes Go.ChangeShapes
/-! What the row of EventWrites needs: events that came in; what it lays. LAID internal/strconv.uint64pow10 strings.asciiSpace -/
theorem SlE.eqL {E : Env} {sz : Nat} {p : Option Addr} {n : Nat} {a b : List Value} (h : SlE E sz p n a) (e : a = b) : SlE E sz p n b := e ▸ h
abbrev aspI : List Int := [0, 0, 0, 0, 0, 0, 0, 0, 0, 1, 1, 1, 1, 1, 0, 0, 0, 0, 0, 0, 0, 0, 0, 0, 0, 0, 0, 0, 0, 0, 0, 0, 1, 0, 0, 0, 0, 0, 0, 0, 0, 0, 0, 0, 0, 0, 0, 0, 0, 0, 0, 0, 0, 0, 0, 0, 0, 0, 0, 0, 0, 0, 0, 0, 0, 0, 0, 0, 0, 0, 0, 0, 0, 0, 0, 0, 0, 0, 0, 0, 0, 0, 0, 0, 0, 0, 0, 0, 0, 0, 0, 0, 0, 0, 0, 0, 0, 0, 0, 0, 0, 0, 0, 0, 0, 0, 0, 0, 0, 0, 0, 0, 0, 0, 0, 0, 0, 0, 0, 0, 0, 0, 0, 0, 0, 0, 0, 0, 0, 0, 0, 0, 0, 0, 0, 0, 0, 0, 0, 0, 0, 0, 0, 0, 0, 0, 0, 0, 0, 0, 0, 0, 0, 0, 0, 0, 0, 0, 0, 0, 0, 0, 0, 0, 0, 0, 0, 0, 0, 0, 0, 0, 0, 0, 0, 0, 0, 0, 0, 0, 0, 0, 0, 0, 0, 0, 0, 0, 0, 0, 0, 0, 0, 0, 0, 0, 0, 0, 0, 0, 0, 0, 0, 0, 0, 0, 0, 0, 0, 0, 0, 0, 0, 0, 0, 0, 0, 0, 0, 0, 0, 0, 0, 0, 0, 0, 0, 0, 0, 0, 0, 0, 0, 0, 0, 0, 0, 0, 0, 0, 0, 0, 0, 0, 0, 0, 0, 0, 0, 0, 0, 0, 0, 0, 0, 0]
abbrev RowLaid (E : Env) : Prop := LaidW E
theorem rowLaid {W : World} {laid : List (String × DataW Unit)} (h : laidMet Tryz.prog laid W) (h0 : ("internal/strconv.uint64pow10", DataW.agg (pow10s.map fun n => .lit (.int .u64 n))) ∈ laid) (h1 : ("strings.asciiSpace", DataW.agg (aspI.map fun n => .lit (.int .u8 n))) ∈ laid) : RowLaid (Env.of W) :=
  ⟨laid_ints (i := 0) (j := 20) (n := 20) h h0 (show Tryz.prog.globalNamed "internal/strconv.uint64pow10" = some 3 by kernel_rfl) (show (Tryz.prog.globals[3]?).map (·.type) = some 182 by kernel_rfl) Tryz.underlying182 Tryz.underlying63 (by kernel_rfl) rfl (by decide),
    (laid_ints (i := 0) (j := 256) (n := 256) h h1 (show Tryz.prog.globalNamed "strings.asciiSpace" = some 0 by kernel_rfl) (show (Tryz.prog.globals[0]?).map (·.type) = some 110 by kernel_rfl) Tryz.underlying110 Tryz.underlying5 (by kernel_rfl) rfl (by decide +kernel)).eqL (by kernel_rfl)⟩
variable {H : Type} {enc : TypeId × Value → H} {P : Program} {W : World} {sp : Nat → Bool} {held : Bool}
theorem open_evC {t e u v z : TypeId} {fs : Array Field} {fuel : Nat} {cs : List Value} {x : DataW H × List MemPlace} (ht : P.underlying t = some (.slice e)) (he : P.underlying e = some (.struct fs)) (hu : P.underlying u = some (.int .i64)) (hv : P.underlying v = some .string) (hz : P.underlying z = some (.int .i64))
    (hf0 : (fs[0]?).map (fun f => (f.type, f.offset)) = some (u, 0))
    (hf1 : (fs[1]?).map (fun f => (f.type, f.offset)) = some (u, 1))
    (hf2 : (fs[2]?).map (fun f => (f.type, f.offset)) = some (u, 2))
    (hf3 : (fs[3]?).map (fun f => (f.type, f.offset)) = some (u, 3))
    (hf4 : (fs[4]?).map (fun f => (f.type, f.offset)) = some (u, 4))
    (hf5 : (fs[5]?).map (fun f => (f.type, f.offset)) = some (v, 5))
    (hf6 : (fs[6]?).map (fun f => (f.type, f.offset)) = some (z, 6))
    (hc : P.cellsOf e = 7) (hcu : P.cellsOf u = 1) (hcv : P.cellsOf v = 1) (hcz : P.cellsOf z = 1) (hd : DataW.trod enc P W 0 sp held fuel t cs = some x) :
    ∃ a c, ∃ xs : List Ev, cs = [.slice a xs.length c] ∧ SlE (Env.of W) 7 a xs.length (evC xs) ∧ (∀ r, r ∈ xs → r.tx.length ≤ 9223372036854775807) ∧ xs.length ≤ 9223372036854775807 ∧ xs.length ≤ c := by
  obtain ⟨a, c, xs, h1, h2, h3, h4, h5⟩ := open_sl (fun e : Ev => [.int .i64 e.k, .int .i64 e.sy, .int .i64 e.pr, .int .i64 e.rc, .int .i64 e.pl, .string (S e.tx), .int .i64 e.er]) (fun r => r.tx.length ≤ 9223372036854775807) ht (by omega)
    (fun m cs y h => by
      obtain ⟨_, _, _, _, hl, _, _⟩ := DataW.trod_struct he h
      rw [hc] at hl
      obtain ⟨v0, r0, rfl, hr0⟩ := list_cons hl
      obtain ⟨v1, r1, rfl, hr1⟩ := list_cons hr0
      obtain ⟨v2, r2, rfl, hr2⟩ := list_cons hr1
      obtain ⟨v3, r3, rfl, hr3⟩ := list_cons hr2
      obtain ⟨v4, r4, rfl, hr4⟩ := list_cons hr3
      obtain ⟨v5, r5, rfl, hr5⟩ := list_cons hr4
      obtain ⟨v6, r6, rfl, hr6⟩ := list_cons hr5
      obtain rfl := List.eq_nil_of_length_eq_zero hr6
      obtain ⟨n0, y0, hd0⟩ := struct_field he h 0 u 0 1 hf0 hcu
      obtain ⟨n1, y1, hd1⟩ := struct_field he h 1 u 1 1 hf1 hcu
      obtain ⟨n2, y2, hd2⟩ := struct_field he h 2 u 2 1 hf2 hcu
      obtain ⟨n3, y3, hd3⟩ := struct_field he h 3 u 3 1 hf3 hcu
      obtain ⟨n4, y4, hd4⟩ := struct_field he h 4 u 4 1 hf4 hcu
      obtain ⟨n5, y5, hd5⟩ := struct_field he h 5 v 5 1 hf5 hcv
      obtain ⟨n6, y6, hd6⟩ := struct_field he h 6 z 6 1 hf6 hcz
      obtain ⟨l0, e0, _, w0⟩ := DataW.trod_int hu hd0
      obtain ⟨l1, e1, _, w1⟩ := DataW.trod_int hu hd1
      obtain ⟨l2, e2, _, w2⟩ := DataW.trod_int hu hd2
      obtain ⟨l3, e3, _, w3⟩ := DataW.trod_int hu hd3
      obtain ⟨l4, e4, _, w4⟩ := DataW.trod_int hu hd4
      obtain ⟨l5, e5, _, w5⟩ := DataW.trod_string hv hd5
      obtain ⟨l6, e6, _, w6⟩ := DataW.trod_int hz hd6
      refine ⟨(l0, l1, l2, l3, l4, l5.data.toList, l6), ?_, by have : l5.data.toList.length = l5.size := rfl; simp only [maxLen] at w5; show l5.data.toList.length ≤ _; omega⟩
      have e0' : v0 = .int .i64 l0 := by simpa using e0
      have e1' : v1 = .int .i64 l1 := by simpa using e1
      have e2' : v2 = .int .i64 l2 := by simpa using e2
      have e3' : v3 = .int .i64 l3 := by simpa using e3
      have e4' : v4 = .int .i64 l4 := by simpa using e4
      have e5' : v5 = .string l5 := by simpa using e5
      have e6' : v6 = .int .i64 l6 := by simpa using e6
      rw [e0', e1', e2', e3', e4', e5', e6']; rfl) (fun _ => hc.symm) hd
  rw [hc] at h2
  exact ⟨a, c, xs, h1, h2, h3, by simp only [maxLen] at h5; omega, h4⟩
end Go.Proofs.YtjhehanknkonnaaGreatDoor
