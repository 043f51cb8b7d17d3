/-
  Rules and contracts, packed: J9, J10, J11, J12.
-/
import Derived.Test.YtpkingbclcalkaaDoorQ6
set_option maxHeartbeats 1000000
namespace Go.Proofs.YtpkingbclcalkaaDoor
open Go.RowKit
abbrev PR := List Cl × (Int × Int)
def comb (out : List Cl) (q : PR) : PR := if q.2.1 ≠ 0 then ([], q.2) else (out ++ q.1, (0, 0))
theorem comb_comb (a b : List Cl) (q : PR) : comb a (comb b q) = comb (a ++ b) q := by
  unfold comb
  by_cases h : q.2.1 = 0
  · simp [h]
  · simp [h]
def lerr (s : List UInt8) (cnt : Nat) : Int := if (lineM s).2 = 0 ∧ cnt = 200 then 6 else (lineM s).2
/-- The calls of a text. -/
def parseF : Nat → List UInt8 → Nat → Nat → PR
  | 0, _, _, _ => ([], (0, 0))
  | f + 1, s, at1, cnt =>
    if s = [] then ([], (0, 0))
    else if (cutB 10 s).2.2 = false then ([], (3, (at1 : Int)))
    else if lerr (cutB 10 s).1 cnt ≠ 0 then ([], (lerr (cutB 10 s).1 cnt, (at1 : Int)))
    else comb [(lineM (cutB 10 s).1).1] (parseF f (cutB 10 s).2.1 (at1 + (cutB 10 s).1.length + 1) (cnt + 1))
def parseM (s : List UInt8) : PR := if 20000 < s.length then ([], (4, 20000)) else parseF (s.length + 1) s 0 0
theorem parseF_nil (f : Nat) (a c : Nat) : parseF (f + 1) [] a c = ([], (0, 0)) := rfl
theorem parseF_cut {f : Nat} {s : List UInt8} {a c : Nat} (h : s ≠ []) (h2 : (cutB 10 s).2.2 = false) : parseF (f + 1) s a c = ([], (3, (a : Int))) := by rw [parseF, if_neg h, if_pos h2]
theorem parseF_err {f : Nat} {s : List UInt8} {a c : Nat} (h : s ≠ []) (h2 : (cutB 10 s).2.2 = true) (h3 : lerr (cutB 10 s).1 c ≠ 0) : parseF (f + 1) s a c = ([], (lerr (cutB 10 s).1 c, (a : Int))) := by
  rw [parseF, if_neg h, if_neg (by rw [h2]; decide), if_pos h3]
theorem parseF_ok {f : Nat} {s : List UInt8} {a c : Nat} (h : s ≠ []) (h2 : (cutB 10 s).2.2 = true) (h3 : lerr (cutB 10 s).1 c = 0) :
    parseF (f + 1) s a c = comb [(lineM (cutB 10 s).1).1] (parseF f (cutB 10 s).2.1 (a + (cutB 10 s).1.length + 1) (c + 1)) := by
  rw [parseF, if_neg h, if_neg (by rw [h2]; decide), if_neg (by omega)]
theorem lerr_zero {s : List UInt8} {c : Nat} (h : lerr s c = 0) : (lineM s).2 = 0 ∧ c ≠ 200 := by
  unfold lerr at h
  split at h
  · cases h
  · rename_i h2; exact ⟨h, fun e => h2 ⟨h, e⟩⟩
/-- What has been read: out, up to at; r is left. -/
structure ParI (s : List UInt8) (out : List Cl) (at1 : Nat) (r : List UInt8) : Prop where
  len : out.length ≤ 200
  drop : s.drop at1 = r
  le : at1 ≤ s.length
  eq : parseF (s.length + 1) s 0 0 = comb out (parseF (r.length + 1) r at1 out.length)
theorem parseF_fuel : ∀ (f g : Nat) (s : List UInt8) (a c : Nat), s.length < f → s.length < g → parseF f s a c = parseF g s a c := by
  intro f
  induction f with
  | zero => intro g s a c h; omega
  | succ f ih =>
    intro g s a c h hg
    obtain ⟨g, rfl⟩ : ∃ g', g = g' + 1 := ⟨g - 1, by omega⟩
    by_cases h0 : s = []
    · subst h0; rfl
    · cases h2 : (cutB 10 s).2.2 with
      | false => rw [parseF_cut h0 h2, parseF_cut h0 h2]
      | true =>
        by_cases h3 : lerr (cutB 10 s).1 c = 0
        · have hl := cutB_lt h2
          rw [parseF_ok h0 h2 h3, parseF_ok h0 h2 h3, ih g _ _ _ (by omega) (by omega)]
        · rw [parseF_err h0 h2 h3, parseF_err h0 h2 h3]
theorem comb_wf (out : List Cl) (q : PR) : ((comb out q).2.1 = 0 → (comb out q).2 = (0, 0)) ∧ ((comb out q).2.1 ≠ 0 → (comb out q).1 = []) := by
  unfold comb
  split
  · rename_i h; exact ⟨fun h2 => absurd h2 h, fun _ => rfl⟩
  · exact ⟨fun _ => rfl, fun h => absurd rfl h⟩
theorem parseF_wf : ∀ (f : Nat) (s : List UInt8) (a c : Nat), ((parseF f s a c).2.1 = 0 → (parseF f s a c).2 = (0, 0)) ∧ ((parseF f s a c).2.1 ≠ 0 → (parseF f s a c).1 = []) := by
  intro f s a c
  cases f with
  | zero => exact ⟨fun _ => rfl, fun h => absurd rfl h⟩
  | succ f =>
    by_cases h0 : s = []
    · subst h0; exact ⟨fun _ => rfl, fun h => absurd rfl h⟩
    · cases h2 : (cutB 10 s).2.2 with
      | false => rw [parseF_cut h0 h2]; exact ⟨fun h => absurd (show (3 : Int) = 0 from h) (by decide), fun _ => rfl⟩
      | true =>
        by_cases h3 : lerr (cutB 10 s).1 c = 0
        · rw [parseF_ok h0 h2 h3]; exact comb_wf _ _
        · rw [parseF_err h0 h2 h3]; exact ⟨fun h => absurd h h3, fun _ => rfl⟩
theorem comb_nil {q : PR} (h : (q.2.1 = 0 → q.2 = (0, 0)) ∧ (q.2.1 ≠ 0 → q.1 = [])) : comb [] q = q := by
  unfold comb
  split
  · rename_i h2; rw [← h.2 h2]
  · rename_i h2
    have h3 : q.2.1 = 0 := Decidable.of_not_not h2
    rw [List.nil_append, ← h.1 h3]
theorem ParI.start (s : List UInt8) : ParI s [] 0 s := ⟨Nat.zero_le _, rfl, Nat.zero_le _, (comb_nil (parseF_wf _ _ _ _)).symm⟩
theorem comb_err (out : List Cl) {e a : Int} (h : e ≠ 0) : comb out ([], (e, a)) = ([], (e, a)) := by rw [comb, if_pos h]
theorem comb_ok (out : List Cl) : comb out ([], (0, 0)) = (out, (0, 0)) := by simp [comb]
theorem ParI.done {s : List UInt8} {out : List Cl} {at1 : Nat} (h : ParI s out at1 []) : parseF (s.length + 1) s 0 0 = (out, (0, 0)) := by rw [h.eq, List.length_nil, parseF_nil, comb_ok]
theorem ParI.cut {s : List UInt8} {out : List Cl} {at1 : Nat} {r : List UInt8} (h : ParI s out at1 r) (h0 : r ≠ []) (h2 : (cutB 10 r).2.2 = false) : parseF (s.length + 1) s 0 0 = ([], (3, (at1 : Int))) := by
  rw [h.eq, parseF_cut h0 h2, comb_err _ (by decide)]
theorem ParI.err {s : List UInt8} {out : List Cl} {at1 : Nat} {r : List UInt8} (h : ParI s out at1 r) (h0 : r ≠ []) (h2 : (cutB 10 r).2.2 = true) (h3 : lerr (cutB 10 r).1 out.length ≠ 0) : parseF (s.length + 1) s 0 0 = ([], (lerr (cutB 10 r).1 out.length, (at1 : Int))) := by
  rw [h.eq, parseF_err h0 h2 h3, comb_err _ h3]
theorem ParI.step {s : List UInt8} {out : List Cl} {at1 : Nat} {r : List UInt8} (h : ParI s out at1 r) (h0 : r ≠ []) (h2 : (cutB 10 r).2.2 = true) (h3 : lerr (cutB 10 r).1 out.length = 0) :
    ParI s (out ++ [(lineM (cutB 10 r).1).1]) (at1 + (cutB 10 r).1.length + 1) (cutB 10 r).2.1 := by
  have hl := cutB_lt h2
  have hz := lerr_zero h3
  have hlen := h.len
  have hd := congrArg List.length h.drop
  rw [List.length_drop] at hd
  refine ⟨by simp; omega, ?_, by omega, ?_⟩
  · rw [Nat.add_assoc, ← List.drop_drop, h.drop, cutB_drop h2]
  · rw [h.eq, parseF_ok h0 h2 h3, comb_comb, List.length_append, List.length_singleton, parseF_fuel r.length ((cutB 10 r).2.1.length + 1) _ _ _ (by omega) (by omega)]
end Go.Proofs.YtpkingbclcalkaaDoor
set_option linter.unusedSimpArgs false
set_option linter.unusedVariables false
set_option maxHeartbeats 2000000
set_option maxRecDepth 20000
namespace Go.Proofs.YtpkingbclcalkaaDoor
open Go.RowKit
/-- What is known between two rounds of Parse. -/
structure PSt where
  out : List Cl
  a : Option Addr
  c : Nat
  at' : Nat
  e : Int
  ea : Int
def parQ (s : List UInt8) (pre : List (List UInt8)) (x : PSt) : Prop :=
  x.e = 0 ∧ x.ea = 0 ∧ ((∃ r, splitA 10 s = pre ++ splitA 10 r ∧ ParI s x.out x.at' r) ∨ (pre = splitA 10 s ∧ parseF (s.length + 1) s 0 0 = (x.out, (0, 0)) ∧ x.out.length ≤ 200))
def parX (s : List UInt8) (q : Code) (_pre : List (List UInt8)) (x : PSt) : Prop := q = .exit 0 ∧ x.e ≠ 0 ∧ parseF (s.length + 1) s 0 0 = ([], (x.e, x.ea))
theorem parQ_round {s : List UInt8} {pre : List (List UInt8)} {y : List UInt8} {x : PSt} (h : parQ s pre x) (hp : pre ++ [y] <+: splitA 10 s) :
    x.e = 0 ∧ x.ea = 0 ∧ ∃ r, ParI s x.out x.at' r ∧ (((cutB 10 r).2.2 = true ∧ y = (cutB 10 r).1 ++ [10] ∧ splitA 10 s = (pre ++ [y]) ++ splitA 10 (cutB 10 r).2.1) ∨ ((cutB 10 r).2.2 = false ∧ y = r ∧ pre ++ [y] = splitA 10 s)) := by
  obtain ⟨h1, h2, h3⟩ := h
  refine ⟨h1, h2, ?_⟩
  rcases h3 with ⟨r, hr, hI⟩ | ⟨hr, _⟩
  · refine ⟨r, hI, ?_⟩
    obtain ⟨t, ht⟩ := hp
    rw [hr, List.append_assoc] at ht
    have ht2 := List.append_cancel_left ht
    cases hc : (cutB 10 r).2.2 with
    | true =>
      rw [splitA_found hc] at ht2
      obtain ⟨e1, e2⟩ := List.cons.inj ht2
      exact .inl ⟨rfl, e1, by rw [hr, splitA_found hc, e1]; simp⟩
    | false =>
      rw [splitA_none hc] at ht2
      obtain ⟨e1, e2⟩ := List.cons.inj ht2
      exact .inr ⟨rfl, e1, by rw [hr, splitA_none hc, e1]⟩
  · have := hp.length_le
    rw [hr, List.length_append, List.length_singleton] at this
    omega
theorem splitA_ne (c : UInt8) (s : List UInt8) : splitA c s ≠ [] := by
  rw [splitA_cut]
  split <;> simp
theorem parQ_done {s : List UInt8} {x : PSt} (h : parQ s (splitA 10 s) x) : x.e = 0 ∧ x.ea = 0 ∧ parseF (s.length + 1) s 0 0 = (x.out, (0, 0)) ∧ x.out.length ≤ 200 := by
  obtain ⟨h1, h2, h3⟩ := h
  refine ⟨h1, h2, ?_⟩
  rcases h3 with ⟨r, hr, _⟩ | ⟨_, h⟩
  · have := congrArg List.length hr
    rw [List.length_append] at this
    have h0 := List.length_pos_iff.2 (splitA_ne 10 r)
    omega
  · exact h
theorem sufB_yes (a : List UInt8) (c : UInt8) : sufB (a ++ [c]) [c] = true := by simp [sufB]
theorem sufB_no {a : List UInt8} {c : UInt8} (h : c ∉ a) : sufB a [c] = false := by
  by_cases h0 : a = []
  · subst h0; rfl
  · have hp := List.length_pos_iff.2 h0
    simp only [sufB, List.length_singleton, Bool.and_eq_false_iff, decide_eq_false_iff_not]
    right
    intro e
    exact h (List.mem_of_mem_drop (i := a.length - 1) (by rw [e]; exact .head _))
section
variable (E : Env) (L : List Res)
theorem slCutSuffix_call (s t : List UInt8) (hs : s.length ≤ 1000000000) (ht : t.length ≤ 1000000000) : CallV Tryd.prog 50 #[.string (S s), .string (S t)] E L (.tuple #[.string (S (if sufB s t = true then s.take (s.length - t.length) else s)), .bool (sufB s t)]) := by
  refine CallS.toV (CallS.intro (l := [_, _]) _ Tryd.func50 rfl Tryd.ntmps50 rfl ?_)
  cases h : sufB s t with
  | true =>
    have hle : t.length ≤ s.length := by simp [sufB] at h; exact h.1
    have e : ((s.length : Int) - t.length).toNat = s.length - t.length := by omega
    refine G_seq (G_region ?_)
    refine G_val (V_assign rfl rfl) rfl rfl (.none rfl) ?_
    refine G_val (V_assign rfl rfl) rfl rfl (.none rfl) ?_
    refine G_end (X_then (G_seq (G_seq (G_region ?_))))
    refine G_val (V_move rfl rfl) rfl rfl (.none rfl) ?_
    refine G_val (V_move rfl rfl) rfl rfl (.none rfl) ?_
    refine G_callv (k := 59) (.mk rfl rfl rfl rfl) rfl rfl (.none rfl) (slHasSuffix_call _ _ _ _ (by omega) (by omega)) ?_
    refine G_val (V_not rfl rfl) rfl rfl (.none rfl) ?_
    refine G_end (X_then ?_)
    refine G_cond_f rfl (by simp [*]; done) ?_
    refine G_skip (X_then (G_seq (G_region ?_)))
    refine G_val (V_move rfl rfl) rfl rfl (.none rfl) ?_
    refine G_val (V_move rfl rfl) rfl rfl (.none rfl) ?_
    refine G_val (V_len rfl rfl) rfl rfl (.none rfl) ?_
    refine G_val (V_move rfl rfl) rfl rfl (.none rfl) ?_
    refine G_val (V_len rfl rfl) rfl rfl (.none rfl) ?_
    refine G_val (V_sub_i64 rfl rfl rfl (by omega) (by omega)) rfl rfl (.none rfl) ?_
    refine G_val (V_front rfl rfl rfl (by omega) (by omega)) rfl rfl (.none rfl) ?_
    refine G_val (V_assign rfl rfl) rfl rfl (.none rfl) ?_
    refine G_val (V_assign rfl rfl) rfl rfl (.none rfl) ?_
    refine G_end (X_then (G_ret ?_))
    refine G_leaveS (.nil _) (by exact (.cons (.tmp rfl) (.cons (.tmp rfl) (.nil)))) rfl ?_ ?_
    · exact (.refl _)
    exact ⟨(by (simp (discharger := omega) only [resVal, e, h, if_pos, if_neg]; first | done | rfl)), (by rfl)⟩
  | false => refine G_seq ?_
             refine G_region ?_
             refine G_val (V_assign rfl rfl) rfl rfl (.none rfl) ?_
             refine G_val (V_assign rfl rfl) rfl rfl (.none rfl) ?_
             refine G_end (X_then (G_seq (G_seq (G_region ?_))))
             refine G_val (V_move rfl rfl) rfl rfl (.none rfl) ?_
             refine G_val (V_move rfl rfl) rfl rfl (.none rfl) ?_
             refine G_callv (k := 59) (.mk rfl rfl rfl rfl) rfl rfl (.none rfl) (slHasSuffix_call _ _ _ _ (by omega) (by omega)) ?_
             refine G_val (V_not rfl rfl) rfl rfl (.none rfl) ?_
             refine G_end (X_then ?_)
             refine G_cond_t rfl (by simp [*]; done) ?_
             refine G_seq (G_region ?_)
             refine G_val (V_move rfl rfl) rfl rfl (.none rfl) ?_
             refine G_val (V_assign rfl rfl) rfl rfl (.none rfl) ?_
             refine G_val (V_assign rfl rfl) rfl rfl (.none rfl) ?_
             refine G_end (X_then (G_ret (X_then_ret ?_)))
             refine G_leaveS (.nil _) (by exact (.cons (.tmp rfl) (.cons (.tmp rfl) (.nil)))) rfl ?_ ?_
             · exact (.refl _)
             exact ⟨rfl, rfl⟩
theorem CutSuffix_yes (x : List UInt8) (c : UInt8) (hs : x.length ≤ 1000000) : CallV Tryd.prog 38 #[.string (S (x ++ [c])), .string (S [c])] E L (.tuple #[.string (S x), .bool true]) := by
  refine CallS.toV (CallS.intro (l := [_, _]) _ Tryd.func38 rfl Tryd.ntmps38 rfl ?_)
  have hl : (x ++ [c]).length = x.length + 1 := by simp
  have hl2 : [c].length = 1 := rfl
  have e := sufB_yes x c
  refine G_seq (G_region ?_)
  refine G_val (V_assign rfl rfl) rfl rfl (.none rfl) ?_
  refine G_val (V_assign rfl rfl) rfl rfl (.none rfl) ?_
  refine G_end (X_then (G_seq (G_region ?_)))
  refine G_val (V_move rfl rfl) rfl rfl (.none rfl) ?_
  refine G_val (V_move rfl rfl) rfl rfl (.none rfl) ?_
  refine G_callv (k := 50) (.mk rfl rfl rfl rfl) rfl rfl (.none rfl) (slCutSuffix_call _ _ _ _ (by omega) (by omega)) ?_
  refine G_val (V_extract rfl rfl rfl) rfl rfl (.none rfl) ?_
  refine G_val (V_extract rfl rfl rfl) rfl rfl (.none rfl) ?_
  refine G_val (V_assign rfl rfl) rfl rfl (.none rfl) ?_
  refine G_val (V_assign rfl rfl) rfl rfl (.none rfl) ?_
  refine G_end (X_then (G_ret ?_))
  refine G_leaveS (.nil _) (by exact (.cons (.tmp rfl) (.cons (.tmp rfl) (.nil)))) rfl ?_ ?_
  · exact (.refl _)
  exact ⟨(by (simp [resVal, e, hl, hl2, *]; done)), (by rfl)⟩
theorem CutSuffix_no (x : List UInt8) (c : UInt8) (hs : x.length ≤ 1000000) (hc : c ∉ x) : CallV Tryd.prog 38 #[.string (S x), .string (S [c])] E L (.tuple #[.string (S x), .bool false]) := by
  refine CallS.toV (CallS.intro (l := [_, _]) _ Tryd.func38 rfl Tryd.ntmps38 rfl ?_)
  have hl2 : [c].length = 1 := rfl
  have e := sufB_no hc
  refine G_seq (G_region ?_)
  refine G_val (V_assign rfl rfl) rfl rfl (.none rfl) ?_
  refine G_val (V_assign rfl rfl) rfl rfl (.none rfl) ?_
  refine G_end (X_then (G_seq (G_region ?_)))
  refine G_val (V_move rfl rfl) rfl rfl (.none rfl) ?_
  refine G_val (V_move rfl rfl) rfl rfl (.none rfl) ?_
  refine G_callv (k := 50) (.mk rfl rfl rfl rfl) rfl rfl (.none rfl) (slCutSuffix_call _ _ _ _ (by omega) (by omega)) ?_
  refine G_val (V_extract rfl rfl rfl) rfl rfl (.none rfl) ?_
  refine G_val (V_extract rfl rfl rfl) rfl rfl (.none rfl) ?_
  refine G_val (V_assign rfl rfl) rfl rfl (.none rfl) ?_
  refine G_val (V_assign rfl rfl) rfl rfl (.none rfl) ?_
  refine G_end (X_then (G_ret ?_))
  refine G_leaveS (.nil _) (by exact (.cons (.tmp rfl) (.cons (.tmp rfl) (.nil)))) rfl ?_ ?_
  · exact (.refl _)
  exact ⟨(by (simp (discharger := omega) only [resVal, e, if_pos, if_neg]; first | done | rfl)), (by rfl)⟩
theorem lines_call (s : List UInt8) : CallS Tryd.prog 37 #[.string (S s)] E L (fun r E' L' => ∃ c1 c2 c3, r = .func (.func 63) #[] #[.pointer (some ⟨c1, 0, none⟩), .pointer (some ⟨c2, 0, none⟩), .pointer (some ⟨c3, 0, none⟩)] ∧ E = E' ∧ L' = lblk c1 c2 c3 10 s L) := by
  refine CallS.intro (l := [_]) _ Tryd.func37 rfl Tryd.ntmps37 rfl ?_
  refine G_seq (G_region ?_)
  refine G_val (V_assign rfl rfl) rfl rfl (.none rfl) ?_
  refine G_end (X_then (G_seq (G_region ?_)))
  refine G_val (V_move rfl rfl) rfl rfl (.none rfl) ?_
  refine G_call (k := 49) (.mk rfl rfl rfl rfl) rfl rfl (.none rfl) (SplitAfterSeq_call _ _ _ _) ?_
  rintro r1 E2 L3 hE4 ⟨z5, ⟨z6, ⟨z7, ⟨rfl, ⟨rfl, rfl⟩⟩⟩⟩⟩
  refine G_val (V_assign rfl rfl) rfl rfl (.none rfl) ?_
  refine G_end (X_then (G_ret ?_))
  refine G_leaveS (.nil _) (by exact (.cons (.tmp rfl) (.nil))) rfl ?_ ?_
  · exact (.refl _)
  exact ⟨_, ⟨_, ⟨_, ⟨rfl, ⟨rfl, rfl⟩⟩⟩⟩⟩
theorem Parse_call (s : List UInt8) (hs : s.length ≤ 1000000000) : CallS Tryd.prog 12 #[.string (S s)] E L (fun r E' L' => ∃ p c, r = .tuple #[.slice p (parseM s).1.length c, .agg #[.int .i64 (parseM s).2.1, .int .i64 (parseM s).2.2]] ∧ SlE E' 3 p (parseM s).1.length (cls (parseM s).1) ∧ (parseM s).1.length ≤ c ∧ L' = L) := by
  refine CallS.intro (l := [_]) _ Tryd.func12 rfl Tryd.ntmps12 rfl ?_
  by_cases hlong : 20000 < s.length
  · have e : parseM s = ([], (4, 20000)) := by rw [parseM, if_pos hlong]
    have hnil := @SlE.nilC E
    rw [e]
    refine G_seq (G_region ?_)
    refine G_val (V_assign rfl rfl) rfl rfl (.none rfl) ?_
    (refine G_alloc rfl rfl rfl (.none rfl) ?_; intro b3)
    refine G_end (X_then (G_scope (G_seq (G_seq (G_region ?_)))))
    refine G_val (V_move rfl rfl) rfl rfl (.none rfl) ?_
    refine G_val (V_len rfl rfl) rfl rfl (.none rfl) ?_
    refine G_val (V_gtr rfl rfl rfl) rfl rfl (.none rfl) ?_
    refine G_end (X_then ?_)
    refine G_cond_t rfl (decide_eq_true (by omega)) ?_
    refine G_seq (G_region ?_)
    refine G_val (V_build rfl rfl (by simp [fillV, setLs, setL, Value.cells]; rfl)) rfl rfl (.none rfl) ?_
    refine G_val (V_assign rfl rfl) rfl rfl (.none rfl) ?_
    refine G_storeA rfl rfl rfl rfl (by simp [Value.oneCell']) rfl (.none rfl) (.head _ _ _) rfl ?_
    refine G_end (X_then (G_ret (X_then_ret ?_)))
    refine X_ng_ret ?_
    refine G_leaveS (.drop _ (.nil _)) (by exact (.cons (.tmp rfl) (.cons (.cellA rfl (Cells.own (.head _)) rfl) (.nil)))) rfl ?_ ?_
    · exact (.refl _)
    exact ⟨_, ⟨_, ⟨rfl, ⟨(by assumption), ⟨(by (simp; done)), rfl⟩⟩⟩⟩⟩
  have e : parseM s = parseF (s.length + 1) s 0 0 := by rw [parseM, if_neg hlong]
  rw [e]
  refine G_seq (G_region ?_)
  refine G_val (V_assign rfl rfl) rfl rfl (.none rfl) ?_
  (refine G_alloc rfl rfl rfl (.none rfl) ?_; intro b3)
  refine G_end (X_then (G_scope (G_seq (G_seq (G_region ?_)))))
  refine G_val (V_move rfl rfl) rfl rfl (.none rfl) ?_
  refine G_val (V_len rfl rfl) rfl rfl (.none rfl) ?_
  refine G_val (V_gtr rfl rfl rfl) rfl rfl (.none rfl) ?_
  refine G_end (X_then ?_)
  refine G_cond_f rfl (decide_eq_false (by omega)) ?_
  refine G_skip (X_then (G_seq (G_region ?_)))
  (refine G_alloc rfl rfl rfl (.none rfl) ?_; intro b4)
  refine G_end (X_then (G_seq (G_region ?_)))
  (refine G_alloc rfl rfl rfl (.none rfl) ?_; intro b5)
  refine G_end (X_then (G_seq (G_region ?_)))
  (refine G_alloc rfl rfl rfl (.none rfl) ?_; intro b6)
  refine G_store1 rfl rfl rfl rfl rfl rfl (.none rfl) (.head _ _ _) ?_
  refine G_end (X_then (G_seq (G_label (X_then (G_seq (G_seq (G_region ?_)))))))
  refine G_val (V_move rfl rfl) rfl rfl (.none rfl) ?_
  refine G_call (k := 37) (.mk rfl rfl rfl rfl) rfl rfl (.none rfl) (lines_call _ _ _) ?_
  rintro r1 E2 L3 hE4 ⟨z5, ⟨z6, ⟨z7, ⟨rfl, ⟨rfl, rfl⟩⟩⟩⟩⟩
  refine G_end (X_then (G_block ?_))
  refine G.nilSl 41 3 ?_
  refine G_rangeI (σ := PSt) (enc := fun x : List UInt8 => [Value.string (S x)]) rfl (iter_lines z5 z6 z7 10 s (by omega) E) (fun _ => E)
    (fun x => .sl 41 3 x.a x.out.length x.c (cls x.out) :: .blk b6 (.cells #[.int .i64 x.at'] 3 (0, 0)) :: .blk b5 (.cells #[.int .i64 x.e, .int .i64 x.ea] 30 (0, 0)) :: .blk b4 (.cells #[.slice x.a x.out.length x.c] 23 (0, 0)) :: .blk b3 (.cells #[.int .i64 0, .int .i64 0] 30 (0, 0)) :: L)
    (parQ s) (parX s) ⟨[], none, 0, 0, 0, 0⟩ ⟨rfl, rfl, .inl ⟨s, rfl, .start s⟩⟩ rfl (show List.Perm (_ :: (lblk z5 z6 z7 10 s [] ++ _)) _ from List.perm_middle.symm) rfl (fun _ => rfl) ?_ ?_ ?_
  · rintro l D tm fn M pre y ⟨out, a, c, at1, e1, ea1⟩ hpre hq hE
    obtain ⟨h1, h2, r, hI, hcase⟩ := parQ_round hq hpre
    simp only at h1 h2 hI hcase ⊢
    subst h1 h2
    have hle := hI.len
    have hat := hI.le
    have hrl := congrArg List.length hI.drop
    rw [List.length_drop] at hrl
    have hcl : (cls out).length = out.length * 3 := cls_len out
    simp only [List.cons_append]
    refine G_region ?_
    refine G_val (V_assign rfl rfl) rfl rfl (.none rfl) ?_
    refine G_end (X_then ?_)
    refine G_begin (.head _ _ _) ?_
    rcases hcase with ⟨hc, hy, hsp⟩ | ⟨hc, hy, hsp⟩
    · subst hy
      have hlt := cutB_lt hc
      have hyl : ((cutB 10 r).1 ++ [10]).length = (cutB 10 r).1.length + 1 := by simp
      have hne : ¬ (cutB 10 r).1 ++ [10] = [] := by simp
      have hr0 : r ≠ [] := fun h => by rw [h] at hc; cases hc
      have eat : ((at1 + (cutB 10 r).1.length + 1 : Nat) : Int) = (at1 : Int) + (((cutB 10 r).1 ++ [10]).length : Nat) := by omega
      by_cases hz : lerr (cutB 10 r).1 out.length = 0
      · obtain ⟨hz1, hz2⟩ := lerr_zero hz
        have hst := hI.step hr0 hc hz
        refine G_block (G_seq (G_seq (G_region ?_)))
        refine G_val (V_move rfl rfl) rfl rfl (.none rfl) ?_
        refine G_val (V_seql rfl rfl rfl) rfl rfl (.none rfl) ?_
        refine G_end (X_then ?_)
        refine G_cond_f rfl (decide_eq_false (by omega)) ?_
        refine G_skip (X_then (G_seq (G_region ?_)))
        refine G_val (V_load rfl rfl (Cell.own1 (.tail _ (.tail _ (.tail _ (.head _)))))) rfl rfl (.none rfl) ?_
        refine G_val (V_assign rfl rfl) rfl rfl (.none rfl) ?_
        refine G_end (X_then (G_seq (G_region ?_)))
        refine G_val (V_load rfl rfl (Cell.own1 (.tail _ (.tail _ (.tail _ (.head _)))))) rfl rfl (.none rfl) ?_
        refine G_val (V_move rfl rfl) rfl rfl (.none rfl) ?_
        refine G_val (V_len rfl rfl) rfl rfl (.none rfl) ?_
        refine G_val (V_add_i64 rfl rfl rfl (by omega) (by omega)) rfl rfl (.none rfl) ?_
        refine G_store1 rfl rfl rfl rfl rfl rfl (.none rfl) (.tail _ (.tail _ (.tail _ (.head _ _ _)))) ?_
        refine G_end (X_then (G_seq (G_region ?_)))
        refine G_val (V_move rfl rfl) rfl rfl (.none rfl) ?_
        refine G_callv (k := 38) (.mk rfl rfl rfl rfl) rfl rfl (.none rfl) (CutSuffix_yes _ _ _ _ (by omega)) ?_
        refine G_val (V_move rfl rfl) rfl rfl (.none rfl) ?_
        refine G_val (V_extract rfl rfl rfl) rfl rfl (.none rfl) ?_
        refine G_val (V_extract rfl rfl rfl) rfl rfl (.none rfl) ?_
        refine G_val (V_assign rfl rfl) rfl rfl (.none rfl) ?_
        refine G_val (V_assign rfl rfl) rfl rfl (.none rfl) ?_
        refine G_end (X_then (G_seq (G_seq (G_region ?_))))
        refine G_val (V_move rfl rfl) rfl rfl (.none rfl) ?_
        refine G_val (V_not rfl rfl) rfl rfl (.none rfl) ?_
        refine G_end (X_then ?_)
        refine G_cond_f rfl (by kernel_rfl) ?_
        refine G_skip (X_then (G_seq (G_region ?_)))
        refine G_val (V_move rfl rfl) rfl rfl (.none rfl) ?_
        refine G_call (k := 39) (.mk rfl rfl rfl rfl) rfl rfl (.none rfl) (line_call _ _ _ (by omega)) ?_
        rintro r1 E2 L3 hE5 ⟨rfl, ⟨rfl, rfl⟩⟩
        refine G_val (V_move rfl rfl) rfl rfl (.none rfl) ?_
        refine G_val (V_extract rfl rfl rfl) rfl rfl (.none rfl) ?_
        refine G_val (V_extract rfl rfl rfl) rfl rfl (.none rfl) ?_
        (refine G_alloc rfl rfl rfl (.none rfl) ?_; intro b11)
        refine G_storeA rfl rfl rfl rfl (by simp [Value.oneCell']) rfl (.none rfl) (.head _ _ _) rfl ?_
        refine G_val (V_assign rfl rfl) rfl rfl (.none rfl) ?_
        refine G_end (X_then (G_seq (G_seq (G_region ?_))))
        refine G_val (V_move rfl rfl) rfl rfl (.none rfl) ?_
        refine G_val (V_eql rfl rfl rfl) rfl rfl (.none rfl) ?_
        refine G_val (V_move rfl rfl) rfl rfl (.none rfl) ?_
        refine G.bool_t 43 rfl (decide_eq_true (by omega)) ?_
        refine G_val (V_load rfl rfl (Cell.own1 (.tail _ (.tail _ (.tail _ (.tail _ (.tail _ (.tail _ (.head _))))))))) rfl rfl (.yes rfl rfl rfl rfl) ?_
        refine G_val (V_lenS rfl rfl) rfl rfl (.yes rfl rfl rfl rfl) ?_
        refine G_val (V_eql rfl rfl rfl) rfl rfl (.yes rfl rfl rfl rfl) ?_
        refine G_val (V_pick_t rfl rfl rfl) rfl rfl (.none rfl) ?_
        refine G_end (X_then ?_)
        refine G_cond_f rfl (decide_eq_false (by omega)) ?_
        refine G_skip (X_then (G_seq (G_seq (G_region ?_))))
        refine G_val (V_move rfl rfl) rfl rfl (.none rfl) ?_
        refine G_val (V_neq rfl rfl rfl) rfl rfl (.none rfl) ?_
        refine G_end (X_then ?_)
        refine G_cond_f rfl (decide_eq_false (by omega)) ?_
        refine G_skip (X_then (G_region ?_))
        refine G_val (V_load rfl rfl (Cell.own1 (.tail _ (.tail _ (.tail _ (.tail _ (.tail _ (.tail _ (.head _))))))))) rfl rfl (.none rfl) ?_
        refine G_val (V_loadA rfl rfl (Cells.own (.head _)) rfl) rfl rfl (.none rfl) ?_
        (refine G_lit rfl rfl (by decide) (by simp [fillS, zeros, setLs, setL, Value.cells, List.range, List.range.loop]; rfl) rfl rfl (.none rfl) ?_; intro b55)
        (refine G_append rfl rfl rfl (Rd.lit (.head _) rfl) (by simp [Value.oneCell']) (by omega) (by omega) rfl rfl (.none rfl) (fun _ _ => (.tail _ (.tail _ (.tail _ (.tail _ (.head _ _ _)))))) ?_; intro a56 c56; refine G.rm (.head _ _) ?_)
        refine G_store1 rfl rfl rfl rfl rfl rfl (.none rfl) (.tail _ (.tail _ (.tail _ (.tail _ (.tail _ (.tail _ (.head _ _ _))))))) ?_
        refine G_end (X_block ?_)
        refine G.drop ?_
        refine G_rEnd ⟨out ++ [(lineM (cutB 10 r).1).1], a56, c56, at1 + (cutB 10 r).1.length + 1, 0, 0⟩ ⟨rfl, rfl, .inl ⟨_, hsp, hst⟩⟩ rfl (.refl _) ?_
        try simp only
        rw [eat, cls_append, show (out ++ [(lineM (cutB 10 r).1).1]).length = out.length + 1 by simp]
        rfl
      · have herr := hI.err hr0 hc hz
        by_cases hz1 : (lineM (cutB 10 r).1).2 = 0
        · have hz2 : out.length = 200 := by
            unfold lerr at hz
            split at hz
            · rename_i h; exact h.2
            · exact absurd hz1 hz
          have e6 : lerr (cutB 10 r).1 out.length = 6 := by rw [lerr, if_pos ⟨hz1, hz2⟩]
          rw [e6] at herr
          refine G_block (G_seq (G_seq (G_region ?_)))
          refine G_val (V_move rfl rfl) rfl rfl (.none rfl) ?_
          refine G_val (V_seql rfl rfl rfl) rfl rfl (.none rfl) ?_
          refine G_end (X_then ?_)
          refine G_cond_f rfl (decide_eq_false (by omega)) ?_
          refine G_skip (X_then (G_seq (G_region ?_)))
          refine G_val (V_load rfl rfl (Cell.own1 (.tail _ (.tail _ (.tail _ (.head _)))))) rfl rfl (.none rfl) ?_
          refine G_val (V_assign rfl rfl) rfl rfl (.none rfl) ?_
          refine G_end (X_then (G_seq (G_region ?_)))
          refine G_val (V_load rfl rfl (Cell.own1 (.tail _ (.tail _ (.tail _ (.head _)))))) rfl rfl (.none rfl) ?_
          refine G_val (V_move rfl rfl) rfl rfl (.none rfl) ?_
          refine G_val (V_len rfl rfl) rfl rfl (.none rfl) ?_
          refine G_val (V_add_i64 rfl rfl rfl (by omega) (by omega)) rfl rfl (.none rfl) ?_
          refine G_store1 rfl rfl rfl rfl rfl rfl (.none rfl) (.tail _ (.tail _ (.tail _ (.head _ _ _)))) ?_
          refine G_end (X_then (G_seq (G_region ?_)))
          refine G_val (V_move rfl rfl) rfl rfl (.none rfl) ?_
          refine G_callv (k := 38) (.mk rfl rfl rfl rfl) rfl rfl (.none rfl) (CutSuffix_yes _ _ _ _ (by omega)) ?_
          refine G_val (V_move rfl rfl) rfl rfl (.none rfl) ?_
          refine G_val (V_extract rfl rfl rfl) rfl rfl (.none rfl) ?_
          refine G_val (V_extract rfl rfl rfl) rfl rfl (.none rfl) ?_
          refine G_val (V_assign rfl rfl) rfl rfl (.none rfl) ?_
          refine G_val (V_assign rfl rfl) rfl rfl (.none rfl) ?_
          refine G_end (X_then (G_seq (G_seq (G_region ?_))))
          refine G_val (V_move rfl rfl) rfl rfl (.none rfl) ?_
          refine G_val (V_not rfl rfl) rfl rfl (.none rfl) ?_
          refine G_end (X_then ?_)
          refine G_cond_f rfl (by kernel_rfl) ?_
          refine G_skip (X_then (G_seq (G_region ?_)))
          refine G_val (V_move rfl rfl) rfl rfl (.none rfl) ?_
          refine G_call (k := 39) (.mk rfl rfl rfl rfl) rfl rfl (.none rfl) (line_call _ _ _ (by omega)) ?_
          rintro r1 E2 L3 hE5 ⟨rfl, ⟨rfl, rfl⟩⟩
          refine G_val (V_move rfl rfl) rfl rfl (.none rfl) ?_
          refine G_val (V_extract rfl rfl rfl) rfl rfl (.none rfl) ?_
          refine G_val (V_extract rfl rfl rfl) rfl rfl (.none rfl) ?_
          (refine G_alloc rfl rfl rfl (.none rfl) ?_; intro b11)
          refine G_storeA rfl rfl rfl rfl (by simp [Value.oneCell']) rfl (.none rfl) (.head _ _ _) rfl ?_
          refine G_val (V_assign rfl rfl) rfl rfl (.none rfl) ?_
          refine G_end (X_then (G_seq (G_seq (G_region ?_))))
          refine G_val (V_move rfl rfl) rfl rfl (.none rfl) ?_
          refine G_val (V_eql rfl rfl rfl) rfl rfl (.none rfl) ?_
          refine G_val (V_move rfl rfl) rfl rfl (.none rfl) ?_
          refine G.bool_t 43 rfl (decide_eq_true (by omega)) ?_
          refine G_val (V_load rfl rfl (Cell.own1 (.tail _ (.tail _ (.tail _ (.tail _ (.tail _ (.tail _ (.head _))))))))) rfl rfl (.yes rfl rfl rfl rfl) ?_
          refine G_val (V_lenS rfl rfl) rfl rfl (.yes rfl rfl rfl rfl) ?_
          refine G_val (V_eql rfl rfl rfl) rfl rfl (.yes rfl rfl rfl rfl) ?_
          refine G_val (V_pick_t rfl rfl rfl) rfl rfl (.none rfl) ?_
          refine G_end (X_then ?_)
          refine G_cond_t rfl (decide_eq_true (by omega)) ?_
          refine G_region ?_
          refine G_val (V_assign rfl rfl) rfl rfl (.none rfl) ?_
          refine G_end (X_then (G_seq (G_seq (G_region ?_))))
          refine G_val (V_move rfl rfl) rfl rfl (.none rfl) ?_
          refine G_val (V_neq rfl rfl rfl) rfl rfl (.none rfl) ?_
          refine G_end (X_then ?_)
          refine G_cond_t rfl (by kernel_rfl) ?_
          refine G_seq (G_region ?_)
          refine G_val (V_move rfl rfl) rfl rfl (.none rfl) ?_
          refine G_val (V_move rfl rfl) rfl rfl (.none rfl) ?_
          refine G_val (V_build rfl rfl (by simp [fillV, setLs, setL, Value.cells]; rfl)) rfl rfl (.none rfl) ?_
          refine G_storeA rfl rfl rfl rfl (by simp [Value.oneCell']) rfl (.none rfl) (.tail _ (.tail _ (.tail _ (.tail _ (.tail _ (.head _ _ _)))))) rfl ?_
          refine G_end (X_then (G_exit (X_then_exit ?_)))
          refine X_block_miss rfl ?_
          refine G.drop ?_
          refine G_rExit ⟨out, a, c, at1 + (cutB 10 r).1.length + 1, 6, at1⟩ ⟨rfl, (by decide : (6 : Int) ≠ 0), herr⟩ rfl (.refl _) ?_
          try simp only
          rw [eat]
          rfl
        · have e6 : lerr (cutB 10 r).1 out.length = (lineM (cutB 10 r).1).2 := by rw [lerr, if_neg (fun h => hz1 h.1)]
          rw [e6] at herr
          refine G_block (G_seq (G_seq (G_region ?_)))
          refine G_val (V_move rfl rfl) rfl rfl (.none rfl) ?_
          refine G_val (V_seql rfl rfl rfl) rfl rfl (.none rfl) ?_
          refine G_end (X_then ?_)
          refine G_cond_f rfl (decide_eq_false (by omega)) ?_
          refine G_skip (X_then (G_seq (G_region ?_)))
          refine G_val (V_load rfl rfl (Cell.own1 (.tail _ (.tail _ (.tail _ (.head _)))))) rfl rfl (.none rfl) ?_
          refine G_val (V_assign rfl rfl) rfl rfl (.none rfl) ?_
          refine G_end (X_then (G_seq (G_region ?_)))
          refine G_val (V_load rfl rfl (Cell.own1 (.tail _ (.tail _ (.tail _ (.head _)))))) rfl rfl (.none rfl) ?_
          refine G_val (V_move rfl rfl) rfl rfl (.none rfl) ?_
          refine G_val (V_len rfl rfl) rfl rfl (.none rfl) ?_
          refine G_val (V_add_i64 rfl rfl rfl (by omega) (by omega)) rfl rfl (.none rfl) ?_
          refine G_store1 rfl rfl rfl rfl rfl rfl (.none rfl) (.tail _ (.tail _ (.tail _ (.head _ _ _)))) ?_
          refine G_end (X_then (G_seq (G_region ?_)))
          refine G_val (V_move rfl rfl) rfl rfl (.none rfl) ?_
          refine G_callv (k := 38) (.mk rfl rfl rfl rfl) rfl rfl (.none rfl) (CutSuffix_yes _ _ _ _ (by omega)) ?_
          refine G_val (V_move rfl rfl) rfl rfl (.none rfl) ?_
          refine G_val (V_extract rfl rfl rfl) rfl rfl (.none rfl) ?_
          refine G_val (V_extract rfl rfl rfl) rfl rfl (.none rfl) ?_
          refine G_val (V_assign rfl rfl) rfl rfl (.none rfl) ?_
          refine G_val (V_assign rfl rfl) rfl rfl (.none rfl) ?_
          refine G_end (X_then (G_seq (G_seq (G_region ?_))))
          refine G_val (V_move rfl rfl) rfl rfl (.none rfl) ?_
          refine G_val (V_not rfl rfl) rfl rfl (.none rfl) ?_
          refine G_end (X_then ?_)
          refine G_cond_f rfl (by kernel_rfl) ?_
          refine G_skip (X_then (G_seq (G_region ?_)))
          refine G_val (V_move rfl rfl) rfl rfl (.none rfl) ?_
          refine G_call (k := 39) (.mk rfl rfl rfl rfl) rfl rfl (.none rfl) (line_call _ _ _ (by omega)) ?_
          rintro r1 E2 L3 hE5 ⟨rfl, ⟨rfl, rfl⟩⟩
          refine G_val (V_move rfl rfl) rfl rfl (.none rfl) ?_
          refine G_val (V_extract rfl rfl rfl) rfl rfl (.none rfl) ?_
          refine G_val (V_extract rfl rfl rfl) rfl rfl (.none rfl) ?_
          (refine G_alloc rfl rfl rfl (.none rfl) ?_; intro b11)
          refine G_storeA rfl rfl rfl rfl (by simp [Value.oneCell']) rfl (.none rfl) (.head _ _ _) rfl ?_
          refine G_val (V_assign rfl rfl) rfl rfl (.none rfl) ?_
          refine G_end (X_then (G_seq (G_seq (G_region ?_))))
          refine G_val (V_move rfl rfl) rfl rfl (.none rfl) ?_
          refine G_val (V_eql rfl rfl rfl) rfl rfl (.none rfl) ?_
          refine G_val (V_move rfl rfl) rfl rfl (.none rfl) ?_
          refine G.bool_f 43 rfl (decide_eq_false (by omega)) ?_
          refine G_stay (.no rfl rfl rfl rfl) rfl rfl ?_
          refine G_stay (.no rfl rfl rfl rfl) rfl rfl ?_
          refine G_stay (.no rfl rfl rfl rfl) rfl rfl ?_
          refine G_val (V_pick_f rfl rfl rfl) rfl rfl (.none rfl) ?_
          refine G_end (X_then ?_)
          refine G_cond_f rfl rfl ?_
          refine G_skip (X_then (G_seq (G_seq (G_region ?_))))
          refine G_val (V_move rfl rfl) rfl rfl (.none rfl) ?_
          refine G_val (V_neq rfl rfl rfl) rfl rfl (.none rfl) ?_
          refine G_end (X_then ?_)
          refine G_cond_t rfl (decide_eq_true (by omega)) ?_
          refine G_seq (G_region ?_)
          refine G_val (V_move rfl rfl) rfl rfl (.none rfl) ?_
          refine G_val (V_move rfl rfl) rfl rfl (.none rfl) ?_
          refine G_val (V_build rfl rfl (by simp [fillV, setLs, setL, Value.cells]; rfl)) rfl rfl (.none rfl) ?_
          refine G_storeA rfl rfl rfl rfl (by simp [Value.oneCell']) rfl (.none rfl) (.tail _ (.tail _ (.tail _ (.tail _ (.tail _ (.head _ _ _)))))) rfl ?_
          refine G_end (X_then (G_exit (X_then_exit ?_)))
          refine X_block_miss rfl ?_
          refine G.drop ?_
          refine G_rExit ⟨out, a, c, at1 + (cutB 10 r).1.length + 1, (lineM (cutB 10 r).1).2, at1⟩ ⟨rfl, hz1, herr⟩ rfl (.refl _) ?_
          try simp only
          rw [eat]
          rfl
    · subst hy
      have hno : (10 : UInt8) ∉ y := by
        have := cutB_notin 10 y
        rwa [(cutB_none hc).1] at this
      by_cases hr0 : y = []
      · subst hr0
        have hdn := hI.done
        refine G_block (G_seq (G_seq (G_region ?_)))
        refine G_val (V_move rfl rfl) rfl rfl (.none rfl) ?_
        refine G_val (V_seql rfl rfl rfl) rfl rfl (.none rfl) ?_
        refine G_end (X_then ?_)
        refine G_cond_t rfl (by kernel_rfl) ?_
        refine G_exit (X_then_exit (X_block_hit ?_))
        exact G_rEnd ⟨out, a, c, at1, 0, 0⟩ ⟨rfl, rfl, .inr ⟨hsp, hdn, hle⟩⟩ rfl (.refl _) rfl
      · have hct := hI.cut hr0 hc
        refine G_block (G_seq (G_seq (G_region ?_)))
        refine G_val (V_move rfl rfl) rfl rfl (.none rfl) ?_
        refine G_val (V_seql rfl rfl rfl) rfl rfl (.none rfl) ?_
        refine G_end (X_then ?_)
        refine G_cond_f rfl (decide_eq_false (by omega)) ?_
        refine G_skip (X_then (G_seq (G_region ?_)))
        refine G_val (V_load rfl rfl (Cell.own1 (.tail _ (.tail _ (.tail _ (.head _)))))) rfl rfl (.none rfl) ?_
        refine G_val (V_assign rfl rfl) rfl rfl (.none rfl) ?_
        refine G_end (X_then (G_seq (G_region ?_)))
        refine G_val (V_load rfl rfl (Cell.own1 (.tail _ (.tail _ (.tail _ (.head _)))))) rfl rfl (.none rfl) ?_
        refine G_val (V_move rfl rfl) rfl rfl (.none rfl) ?_
        refine G_val (V_len rfl rfl) rfl rfl (.none rfl) ?_
        refine G_val (V_add_i64 rfl rfl rfl (by omega) (by omega)) rfl rfl (.none rfl) ?_
        refine G_store1 rfl rfl rfl rfl rfl rfl (.none rfl) (.tail _ (.tail _ (.tail _ (.head _ _ _)))) ?_
        refine G_end (X_then (G_seq (G_region ?_)))
        refine G_val (V_move rfl rfl) rfl rfl (.none rfl) ?_
        refine G_callv (k := 38) (.mk rfl rfl rfl rfl) rfl rfl (.none rfl) (CutSuffix_no _ _ _ _ (by omega) (by assumption)) ?_
        refine G_val (V_move rfl rfl) rfl rfl (.none rfl) ?_
        refine G_val (V_extract rfl rfl rfl) rfl rfl (.none rfl) ?_
        refine G_val (V_extract rfl rfl rfl) rfl rfl (.none rfl) ?_
        refine G_val (V_assign rfl rfl) rfl rfl (.none rfl) ?_
        refine G_val (V_assign rfl rfl) rfl rfl (.none rfl) ?_
        refine G_end (X_then (G_seq (G_seq (G_region ?_))))
        refine G_val (V_move rfl rfl) rfl rfl (.none rfl) ?_
        refine G_val (V_not rfl rfl) rfl rfl (.none rfl) ?_
        refine G_end (X_then ?_)
        refine G_cond_t rfl (by kernel_rfl) ?_
        refine G_seq (G_region ?_)
        refine G_val (V_move rfl rfl) rfl rfl (.none rfl) ?_
        refine G_val (V_build rfl rfl (by simp [fillV, setLs, setL, Value.cells]; rfl)) rfl rfl (.none rfl) ?_
        refine G_storeA rfl rfl rfl rfl (by simp [Value.oneCell']) rfl (.none rfl) (.tail _ (.tail _ (.tail _ (.tail _ (.head _ _ _))))) rfl ?_
        refine G_end (X_then (G_exit (X_then_exit ?_)))
        refine X_block_miss rfl ?_
        refine G_rExit ⟨out, a, c, at1 + y.length, 3, at1⟩ ⟨rfl, (by decide : (3 : Int) ≠ 0), hct⟩ rfl (.refl _) ?_
        try simp only
        rw [show ((at1 + y.length : Nat) : Int) = (at1 : Int) + (y.length : Nat) by omega]
        rfl
  · rintro D ⟨out, a, c, at1, e1, ea1⟩ hq hE
    obtain ⟨h1, h2, h3, h4⟩ := parQ_done hq
    simp only at h1 h2 h3 h4 ⊢
    subst h1 h2
    rw [h3]
    refine G.freezeSl (.tail _ (.head _ _)) ?_
    intro E2 hE2 hs2 hc2
    refine X_block (X_then (G_seq (G_seq (G_region ?_))))
    refine G_val (V_fieldAddr rfl rfl (by decide)) rfl rfl (.none rfl) ?_
    refine G_val (V_load rfl rfl (Cell.own (.tail _ (.tail _ (.head _))) rfl)) rfl rfl (.none rfl) ?_
    refine G_val (V_neq rfl rfl rfl) rfl rfl (.none rfl) ?_
    refine G_end (X_then ?_)
    refine G_cond_f rfl (by kernel_rfl) ?_
    refine G_skip (X_then (G_seq ?_))
    (refine G_drawT 3 mixed (by kernel_rfl) ?_; dsimp only [List.take, List.drop])
    refine Q_val (V_load rfl rfl (Cell.own1 (.tail _ (.tail _ (.tail _ (.head _)))))) rfl rfl (.none rfl) ?_
    refine Q_val (V_loadA rfl rfl (Cells.own (.tail _ (.tail _ (.head _)))) rfl) rfl rfl (.none rfl) ?_
    refine Q_val (V_assign rfl rfl) rfl rfl (.none rfl) ?_
    refine Q_endT ?_
    refine G_storeA rfl rfl rfl rfl (by simp [Value.oneCell']) rfl (.none rfl) (.tail _ (.tail _ (.tail _ (.tail _ (.head _ _ _))))) rfl ?_
    refine G_end (X_then (G_ret ?_))
    refine X_ng_ret ?_
    refine G_leave_ms [D] ?_
    refine G_leaveS (.drop _ (.drop _ (.drop _ (.drop _ (.nil _))))) (by exact (.cons (.tmp rfl) (.cons (.cellA rfl (Cells.own (.tail _ (.tail _ (.tail _ (.head _))))) rfl) (.nil)))) rfl ?_ ?_
    · exact hE2
    exact ⟨_, ⟨_, ⟨rfl, ⟨(by assumption), ⟨(by assumption), rfl⟩⟩⟩⟩⟩
  · rintro D q pre ⟨out, a, c, at1, e1, ea1⟩ hpre ⟨rfl, h1, h2⟩ hE
    have hnil := @SlE.nilC E
    simp only at h1 h2 ⊢
    rw [h2]
    refine G_exit (X_block_hit (X_then (G_seq (G_seq (G_region ?_)))))
    refine G_val (V_fieldAddr rfl rfl (by decide)) rfl rfl (.none rfl) ?_
    refine G_val (V_load rfl rfl (Cell.own (.tail _ (.tail _ (.tail _ (.head _)))) rfl)) rfl rfl (.none rfl) ?_
    refine G_val (V_neq rfl rfl rfl) rfl rfl (.none rfl) ?_
    refine G_end (X_then ?_)
    refine G_cond_t rfl (decide_eq_true (by omega)) ?_
    refine G_seq ?_
    (refine G_drawT 2 mixed (by kernel_rfl) ?_; dsimp only [List.take, List.drop])
    refine Q_val (V_loadA rfl rfl (Cells.own (.tail _ (.tail _ (.tail _ (.head _))))) rfl) rfl rfl (.none rfl) ?_
    refine Q_val (V_assign rfl rfl) rfl rfl (.none rfl) ?_
    refine Q_endT ?_
    refine G_storeA rfl rfl rfl rfl (by simp [Value.oneCell']) rfl (.none rfl) (.tail _ (.tail _ (.tail _ (.tail _ (.tail _ (.head _ _ _)))))) rfl ?_
    refine G_end (X_then (G_ret (X_then_ret ?_)))
    refine X_ng_ret ?_
    refine G_leave_ms [D] ?_
    refine G_leaveS (.drop _ (.drop _ (.drop _ (.drop _ (.drop _ (.nil _)))))) (by exact (.cons (.tmp rfl) (.cons (.cellA rfl (Cells.own (.tail _ (.tail _ (.tail _ (.tail _ (.head _)))))) rfl) (.nil)))) rfl ?_ ?_
    · exact (.refl _)
    exact ⟨_, ⟨_, ⟨rfl, ⟨(by assumption), ⟨(by (simp; done)), rfl⟩⟩⟩⟩⟩
end
end Go.Proofs.YtpkingbclcalkaaDoor
set_option linter.unusedSimpArgs false
set_option linter.unusedVariables false
set_option maxHeartbeats 2000000
set_option maxRecDepth 20000
namespace Go.Proofs.YtpkingbclcalkaaDoor
open Go.RowKit
theorem ParI.rest {s : List UInt8} {out : List Cl} {at1 : Nat} {r : List UInt8} (h : ParI s out at1 r) : ParI s out at1 (s.drop at1) := by rw [h.drop]; exact h
theorem drop_get {α : Type} {s : List α} {a i : Nat} (h : a + i < s.length) : (s.drop a)[i]? = some (s[a + i]) := by rw [List.getElem?_drop, List.getElem?_eq_getElem h]
section
variable (E : Env) (L : List Res)
theorem ParseR_call (s : List UInt8) (hs : s.length ≤ 1000000000) : CallS Tryd.prog 15 #[.string (S s)] E L (fun r E' L' => ∃ p c, r = .tuple #[.slice p (parseM s).1.length c, .agg #[.int .i64 (parseM s).2.1, .int .i64 (parseM s).2.2]] ∧ SlE E' 3 p (parseM s).1.length (cls (parseM s).1) ∧ L' = L) := by
  refine CallS.intro (l := [_]) _ Tryd.func15 rfl Tryd.ntmps15 rfl ?_
  have hnil := @SlE.nilC E
  by_cases hlong : 20000 < s.length
  · have e : parseM s = ([], (4, 20000)) := by rw [parseM, if_pos hlong]
    rw [e]
    refine G_seq (G_region ?_)
    refine G_val (V_assign rfl rfl) rfl rfl (.none rfl) ?_
    (refine G_alloc rfl rfl rfl (.none rfl) ?_; intro b3)
    refine G_end (X_then (G_seq (G_seq (G_region ?_))))
    refine G_val (V_move rfl rfl) rfl rfl (.none rfl) ?_
    refine G_val (V_len rfl rfl) rfl rfl (.none rfl) ?_
    refine G_val (V_gtr rfl rfl rfl) rfl rfl (.none rfl) ?_
    refine G_end (X_then ?_)
    refine G_cond_t rfl (decide_eq_true (by omega)) ?_
    refine G_seq (G_region ?_)
    refine G_val (V_build rfl rfl (by simp [fillV, setLs, setL, Value.cells]; rfl)) rfl rfl (.none rfl) ?_
    refine G_val (V_assign rfl rfl) rfl rfl (.none rfl) ?_
    refine G_storeA rfl rfl rfl rfl (by simp [Value.oneCell']) rfl (.none rfl) (.head _ _ _) rfl ?_
    refine G_end (X_then (G_ret (X_then_ret ?_)))
    refine G_leaveS (.drop _ (.nil _)) (by exact (.cons (.tmp rfl) (.cons (.cellA rfl (Cells.own (.head _)) rfl) (.nil)))) rfl ?_ ?_
    · exact (.refl _)
    exact ⟨_, ⟨_, ⟨rfl, ⟨(by assumption), rfl⟩⟩⟩⟩
  have e : parseM s = parseF (s.length + 1) s 0 0 := by rw [parseM, if_neg hlong]
  rw [e]
  refine G_seq (G_region ?_)
  refine G_val (V_assign rfl rfl) rfl rfl (.none rfl) ?_
  (refine G_alloc rfl rfl rfl (.none rfl) ?_; intro b3)
  refine G_end (X_then (G_seq (G_seq (G_region ?_))))
  refine G_val (V_move rfl rfl) rfl rfl (.none rfl) ?_
  refine G_val (V_len rfl rfl) rfl rfl (.none rfl) ?_
  refine G_val (V_gtr rfl rfl rfl) rfl rfl (.none rfl) ?_
  refine G_end (X_then ?_)
  refine G_cond_f rfl (decide_eq_false (by omega)) ?_
  refine G_skip (X_then (G_seq (G_region ?_)))
  refine G_val (V_assign rfl rfl) rfl rfl (.none rfl) ?_
  refine G_end (X_then (G_seq (G_seq (G_region ?_))))
  refine G_val (V_assign rfl rfl) rfl rfl (.none rfl) ?_
  refine G_end (X_then (G_block ?_))
  refine G.nilSl 41 3 ?_
  refine G_loop (α := List Cl × Option Addr × Nat × Nat) (fun x => [(0, .string (S s)), (3, .pointer (some ⟨b3, 0, none⟩)), (4, .slice x.2.1 x.1.length x.2.2.1), (5, .int .i64 x.2.2.2)]) (fun _ => E)
    (fun x => .sl 41 3 x.2.1 x.1.length x.2.2.1 (cls x.1) :: .blk b3 (.cells #[.int .i64 0, .int .i64 0] 30 (0, 0)) :: L)
    (fun x => ParI s x.1 x.2.2.2 (s.drop x.2.2.2)) (fun x => s.length - x.2.2.2) ([], none, 0, 0) (.start s) ⟨rfl, rfl, rfl, rfl, trivial⟩ rfl rfl ?_
  rintro ⟨out, a, c, at1⟩ hI
  simp only at hI ⊢
  have hle := hI.len
  have hat := hI.le
  have hcl : (cls out).length = out.length * 3 := cls_len out
  by_cases hlt : at1 < s.length
  · obtain ⟨r, hr⟩ : ∃ r, s.drop at1 = r := ⟨_, rfl⟩
    have hrl := congrArg List.length hr
    rw [List.length_drop] at hrl
    rw [hr] at hI
    have hr0 : r ≠ [] := fun h => by rw [h] at hrl; simp at hrl; omega
    have hcle := cutB_le 10 r
    refine G_seq (G_seq (G_region ?_))
    refine G_val (V_move rfl rfl) rfl rfl (.none rfl) ?_
    refine G_val (V_move rfl rfl) rfl rfl (.none rfl) ?_
    refine G_val (V_len rfl rfl) rfl rfl (.none rfl) ?_
    refine G_val (V_lss rfl rfl rfl) rfl rfl (.none rfl) ?_
    refine G_end (X_then ?_)
    refine G_cond_t rfl (decide_eq_true (by omega)) ?_
    refine G_skip (X_then (G_block (G_seq (G_region ?_))))
    refine G_val (V_move rfl rfl) rfl rfl (.none rfl) ?_
    refine G_val (V_assign rfl rfl) rfl rfl (.none rfl) ?_
    refine G_end (X_then (G_seq (G_block ?_)))
    refine G_loop (α := Nat) (fun i => [(0, .string (S s)), (3, .pointer (some ⟨b3, 0, none⟩)), (4, .slice a out.length c), (5, .int .i64 at1), (6, .int .i64 ((at1 + i : Nat) : Int))]) (fun _ => E)
      (fun x => .sl 41 3 a out.length c (cls out) :: .blk b3 (.cells #[.int .i64 0, .int .i64 0] 30 (0, 0)) :: L)
      (fun i => i ≤ (cutB 10 r).1.length) (fun i => (cutB 10 r).1.length - i) 0 (Nat.zero_le _) ⟨rfl, rfl, rfl, rfl, rfl, trivial⟩ rfl rfl ?_
    intro i hi
    by_cases hlti : i < (cutB 10 r).1.length
    · have hx0 : s[((at1 + i : Nat) : Int).toNat]? = some (s[at1 + i]'(by omega)) := List.getElem?_eq_getElem (by omega)
      have hne : ¬ ((s[at1 + i]'(by omega)).toNat : Int) = 10 := by
        have h1 := cutB_notin 10 r
        have h2 := cutB_take 10 r
        have h3 : (cutB 10 r).1[i] = s[at1 + i]'(by omega) := by
          have h5 := drop_get (s := s) (a := at1) (i := i) (by omega)
          rw [hr] at h5
          have h4 : (r.take (cutB 10 r).1.length)[i]? = (cutB 10 r).1[i]? := by rw [h2]
          rw [List.getElem?_take_of_lt hlti, h5, List.getElem?_eq_getElem hlti] at h4
          exact (Option.some.inj h4).symm
        intro h4
        have h5 : s[at1 + i]'(by omega) = 10 := UInt8.toNat_inj.1 (by have : (10 : UInt8).toNat = 10 := rfl; omega)
        have h6 := List.getElem_mem hlti
        rw [h3, h5] at h6
        exact h1 h6
      refine G_seq (G_seq (G_region ?_))
      refine G_val (V_move rfl rfl) rfl rfl (.none rfl) ?_
      refine G_val (V_move rfl rfl) rfl rfl (.none rfl) ?_
      refine G_val (V_len rfl rfl) rfl rfl (.none rfl) ?_
      refine G_val (V_lss rfl rfl rfl) rfl rfl (.none rfl) ?_
      refine G_val (V_move rfl rfl) rfl rfl (.none rfl) ?_
      refine G.bool_t 22 rfl (decide_eq_true (by omega)) ?_
      refine G_val (V_move rfl rfl) rfl rfl (.yes rfl rfl rfl rfl) ?_
      refine G_val (V_move rfl rfl) rfl rfl (.yes rfl rfl rfl rfl) ?_
      refine G_val (V_sidx rfl rfl rfl (by omega) (by assumption)) rfl rfl (.yes rfl rfl rfl rfl) ?_
      refine G_val (V_neq rfl rfl rfl) rfl rfl (.yes rfl rfl rfl rfl) ?_
      refine G_val (V_pick_t rfl rfl rfl) rfl rfl (.none rfl) ?_
      refine G_end (X_then ?_)
      refine G_cond_t rfl (decide_eq_true (by omega)) ?_
      refine G_skip (X_then (G_block (G_region ?_)))
      refine G_val (V_move rfl rfl) rfl rfl (.none rfl) ?_
      refine G_val (V_add_i64 rfl rfl rfl (by omega) (by omega)) rfl rfl (.none rfl) ?_
      refine G_val (V_assign rfl rfl) rfl rfl (.none rfl) ?_
      refine G_end (X_block (X_then ?_))
      exact G_again (i + 1) hlti (by omega) ⟨rfl, rfl, rfl, rfl, rfl, trivial⟩ rfl rfl
    · obtain rfl : i = (cutB 10 r).1.length := by omega
      have hcut : (s.take ((at1 + (cutB 10 r).1.length : Nat) : Int).toNat).drop (at1 : Int).toNat = (cutB 10 r).1 := by
        show (s.take (at1 + (cutB 10 r).1.length)).drop at1 = _
        rw [List.drop_take, hr, Nat.add_sub_cancel_left, cutB_take]
      have hcut2 : (s.take ((at1 : Int) + ((cutB 10 r).1.length : Nat)).toNat).drop at1 = (cutB 10 r).1 := by
        rw [show ((at1 : Int) + ((cutB 10 r).1.length : Nat)).toNat = at1 + (cutB 10 r).1.length by omega]
        exact hcut
      cases hc : (cutB 10 r).2.2 with
      | true =>
        have hlt2 := cutB_lt hc
        have hx0 : s[((at1 + (cutB 10 r).1.length : Nat) : Int).toNat]? = some 10 := by
          have h5 : (s.drop at1)[(cutB 10 r).1.length]? = s[at1 + (cutB 10 r).1.length]? := List.getElem?_drop
          rw [hr] at h5
          show s[at1 + (cutB 10 r).1.length]? = some 10
          rw [← h5]
          have := cutB_found hc
          generalize (cutB 10 r).1 = x at *
          rw [this, List.getElem?_append_right (Nat.le_refl _), Nat.sub_self]; rfl
        have h255 : ((10 : UInt8).toNat : Int) = 10 := rfl
        have hdr : s.drop (at1 + (cutB 10 r).1.length + 1) = (cutB 10 r).2.1 := by
          rw [Nat.add_assoc, ← List.drop_drop, hr, cutB_drop hc]
        by_cases hz : lerr (cutB 10 r).1 out.length = 0
        · obtain ⟨hz1, hz2⟩ := lerr_zero hz
          have hst := hI.step hr0 hc hz
          have hz3 := hz1; rw [← hcut] at hz3
          refine G_seq (G_seq (G_region ?_))
          refine G_val (V_move rfl rfl) rfl rfl (.none rfl) ?_
          refine G_val (V_move rfl rfl) rfl rfl (.none rfl) ?_
          refine G_val (V_len rfl rfl) rfl rfl (.none rfl) ?_
          refine G_val (V_lss rfl rfl rfl) rfl rfl (.none rfl) ?_
          refine G_val (V_move rfl rfl) rfl rfl (.none rfl) ?_
          refine G.bool_t 22 rfl (decide_eq_true (by omega)) ?_
          refine G_val (V_move rfl rfl) rfl rfl (.yes rfl rfl rfl rfl) ?_
          refine G_val (V_move rfl rfl) rfl rfl (.yes rfl rfl rfl rfl) ?_
          refine G_val (V_sidx rfl rfl rfl (by omega) (by assumption)) rfl rfl (.yes rfl rfl rfl rfl) ?_
          refine G_val (V_neq rfl rfl rfl) rfl rfl (.yes rfl rfl rfl rfl) ?_
          refine G_val (V_pick_t rfl rfl rfl) rfl rfl (.none rfl) ?_
          refine G_end (X_then ?_)
          refine G_cond_f rfl (by kernel_rfl) ?_
          refine G_exit (X_then_exit (X_then_exit (X_block_hit (X_then (G_seq (G_seq (G_region ?_)))))))
          refine G_val (V_move rfl rfl) rfl rfl (.none rfl) ?_
          refine G_val (V_move rfl rfl) rfl rfl (.none rfl) ?_
          refine G_val (V_len rfl rfl) rfl rfl (.none rfl) ?_
          refine G_val (V_eql rfl rfl rfl) rfl rfl (.none rfl) ?_
          refine G_end (X_then ?_)
          refine G_cond_f rfl (decide_eq_false (by omega)) ?_
          refine G_skip (X_then (G_seq (G_region ?_)))
          refine G_val (V_move rfl rfl) rfl rfl (.none rfl) ?_
          refine G_val (V_move rfl rfl) rfl rfl (.none rfl) ?_
          refine G_val (V_move rfl rfl) rfl rfl (.none rfl) ?_
          refine G_val (V_cut rfl rfl rfl rfl (by omega) (by omega) (by omega)) rfl rfl (.none rfl) ?_
          refine G_call (k := 41) (.mk rfl rfl rfl rfl) rfl rfl (.none rfl) (call_call _ _ _ (by (simp; omega))) ?_
          rintro r1 E2 L3 hE4 ⟨rfl, ⟨rfl, rfl⟩⟩
          replace hnil := hnil.mono hE4
          refine G_val (V_move rfl rfl) rfl rfl (.none rfl) ?_
          refine G_val (V_extract rfl rfl rfl) rfl rfl (.none rfl) ?_
          refine G_val (V_extract rfl rfl rfl) rfl rfl (.none rfl) ?_
          (refine G_alloc rfl rfl rfl (.none rfl) ?_; intro b7)
          refine G_storeA rfl rfl rfl rfl (by simp [Value.oneCell']) rfl (.none rfl) (.head _ _ _) rfl ?_
          refine G_val (V_assign rfl rfl) rfl rfl (.none rfl) ?_
          refine G_end (X_then (G_seq (G_seq (G_region ?_))))
          refine G_val (V_move rfl rfl) rfl rfl (.none rfl) ?_
          refine G_val (V_eql rfl rfl rfl) rfl rfl (.none rfl) ?_
          refine G_val (V_move rfl rfl) rfl rfl (.none rfl) ?_
          refine G.bool_t 46 rfl (decide_eq_true (by omega)) ?_
          refine G_val (V_move rfl rfl) rfl rfl (.yes rfl rfl rfl rfl) ?_
          refine G_val (V_lenS rfl rfl) rfl rfl (.yes rfl rfl rfl rfl) ?_
          refine G_val (V_eql rfl rfl rfl) rfl rfl (.yes rfl rfl rfl rfl) ?_
          refine G_val (V_pick_t rfl rfl rfl) rfl rfl (.none rfl) ?_
          refine G_end (X_then ?_)
          refine G_cond_f rfl (decide_eq_false (by omega)) ?_
          refine G_skip (X_then (G_seq (G_seq (G_region ?_))))
          refine G_val (V_move rfl rfl) rfl rfl (.none rfl) ?_
          refine G_val (V_neq rfl rfl rfl) rfl rfl (.none rfl) ?_
          refine G_end (X_then ?_)
          refine G_cond_f rfl (decide_eq_false (by omega)) ?_
          refine G_skip (X_then (G_region ?_))
          refine G_val (V_move rfl rfl) rfl rfl (.none rfl) ?_
          refine G_val (V_loadA rfl rfl (Cells.own (.head _)) rfl) rfl rfl (.none rfl) ?_
          (refine G_lit rfl rfl (by decide) (by simp [fillS, zeros, setLs, setL, Value.cells, List.range, List.range.loop]; rfl) rfl rfl (.none rfl) ?_; intro b58)
          (refine G_append rfl rfl rfl (Rd.lit (.head _) rfl) (by simp [Value.oneCell']) (by omega) (by omega) rfl rfl (.none rfl) (fun _ _ => (.tail _ (.tail _ (.head _ _ _)))) ?_; intro a59 c59; refine G.rm (.head _ _) ?_)
          refine G_val (V_move rfl rfl) rfl rfl (.none rfl) ?_
          refine G_val (V_add_i64 rfl rfl rfl (by omega) (by omega)) rfl rfl (.none rfl) ?_
          refine G_val (V_assign rfl rfl) rfl rfl (.none rfl) ?_
          refine G_val (V_assign rfl rfl) rfl rfl (.none rfl) ?_
          refine G_end (X_block (X_then ?_))
          refine G.drop ?_
          rw [hcut2]
          refine G_again (out ++ [(lineM (cutB 10 r).1).1], a59, c59, at1 + (cutB 10 r).1.length + 1) (by simp only; rw [hdr]; exact hst) (by simp only; omega) ⟨rfl, rfl, by rw [show (out ++ [(lineM (cutB 10 r).1).1]).length = out.length + 1 by simp]; rfl, rfl, trivial⟩ rfl ?_
          simp only
          rw [cls_append, show (out ++ [(lineM (cutB 10 r).1).1]).length = out.length + 1 by simp]
          rfl
        · have herr := hI.err hr0 hc hz
          rw [herr]
          by_cases hz1 : (lineM (cutB 10 r).1).2 = 0
          · have hz2 : out.length = 200 := by
              unfold lerr at hz
              split at hz
              · rename_i h; exact h.2
              · exact absurd hz1 hz
            have e6 : lerr (cutB 10 r).1 out.length = 6 := by rw [lerr, if_pos ⟨hz1, hz2⟩]
            rw [e6]
            have hz3 := hz1; rw [← hcut] at hz3
            refine G_seq (G_seq (G_region ?_))
            refine G_val (V_move rfl rfl) rfl rfl (.none rfl) ?_
            refine G_val (V_move rfl rfl) rfl rfl (.none rfl) ?_
            refine G_val (V_len rfl rfl) rfl rfl (.none rfl) ?_
            refine G_val (V_lss rfl rfl rfl) rfl rfl (.none rfl) ?_
            refine G_val (V_move rfl rfl) rfl rfl (.none rfl) ?_
            refine G.bool_t 22 rfl (decide_eq_true (by omega)) ?_
            refine G_val (V_move rfl rfl) rfl rfl (.yes rfl rfl rfl rfl) ?_
            refine G_val (V_move rfl rfl) rfl rfl (.yes rfl rfl rfl rfl) ?_
            refine G_val (V_sidx rfl rfl rfl (by omega) (by assumption)) rfl rfl (.yes rfl rfl rfl rfl) ?_
            refine G_val (V_neq rfl rfl rfl) rfl rfl (.yes rfl rfl rfl rfl) ?_
            refine G_val (V_pick_t rfl rfl rfl) rfl rfl (.none rfl) ?_
            refine G_end (X_then ?_)
            refine G_cond_f rfl (by kernel_rfl) ?_
            refine G_exit (X_then_exit (X_then_exit (X_block_hit (X_then (G_seq (G_seq (G_region ?_)))))))
            refine G_val (V_move rfl rfl) rfl rfl (.none rfl) ?_
            refine G_val (V_move rfl rfl) rfl rfl (.none rfl) ?_
            refine G_val (V_len rfl rfl) rfl rfl (.none rfl) ?_
            refine G_val (V_eql rfl rfl rfl) rfl rfl (.none rfl) ?_
            refine G_end (X_then ?_)
            refine G_cond_f rfl (decide_eq_false (by omega)) ?_
            refine G_skip (X_then (G_seq (G_region ?_)))
            refine G_val (V_move rfl rfl) rfl rfl (.none rfl) ?_
            refine G_val (V_move rfl rfl) rfl rfl (.none rfl) ?_
            refine G_val (V_move rfl rfl) rfl rfl (.none rfl) ?_
            refine G_val (V_cut rfl rfl rfl rfl (by omega) (by omega) (by omega)) rfl rfl (.none rfl) ?_
            refine G_call (k := 41) (.mk rfl rfl rfl rfl) rfl rfl (.none rfl) (call_call _ _ _ (by (simp; omega))) ?_
            rintro r1 E2 L3 hE4 ⟨rfl, ⟨rfl, rfl⟩⟩
            replace hnil := hnil.mono hE4
            refine G_val (V_move rfl rfl) rfl rfl (.none rfl) ?_
            refine G_val (V_extract rfl rfl rfl) rfl rfl (.none rfl) ?_
            refine G_val (V_extract rfl rfl rfl) rfl rfl (.none rfl) ?_
            (refine G_alloc rfl rfl rfl (.none rfl) ?_; intro b7)
            refine G_storeA rfl rfl rfl rfl (by simp [Value.oneCell']) rfl (.none rfl) (.head _ _ _) rfl ?_
            refine G_val (V_assign rfl rfl) rfl rfl (.none rfl) ?_
            refine G_end (X_then (G_seq (G_seq (G_region ?_))))
            refine G_val (V_move rfl rfl) rfl rfl (.none rfl) ?_
            refine G_val (V_eql rfl rfl rfl) rfl rfl (.none rfl) ?_
            refine G_val (V_move rfl rfl) rfl rfl (.none rfl) ?_
            refine G.bool_t 46 rfl (decide_eq_true (by omega)) ?_
            refine G_val (V_move rfl rfl) rfl rfl (.yes rfl rfl rfl rfl) ?_
            refine G_val (V_lenS rfl rfl) rfl rfl (.yes rfl rfl rfl rfl) ?_
            refine G_val (V_eql rfl rfl rfl) rfl rfl (.yes rfl rfl rfl rfl) ?_
            refine G_val (V_pick_t rfl rfl rfl) rfl rfl (.none rfl) ?_
            refine G_end (X_then ?_)
            refine G_cond_t rfl (decide_eq_true (by omega)) ?_
            refine G_region ?_
            refine G_val (V_assign rfl rfl) rfl rfl (.none rfl) ?_
            refine G_end (X_then (G_seq (G_seq (G_region ?_))))
            refine G_val (V_move rfl rfl) rfl rfl (.none rfl) ?_
            refine G_val (V_neq rfl rfl rfl) rfl rfl (.none rfl) ?_
            refine G_end (X_then ?_)
            refine G_cond_t rfl (by kernel_rfl) ?_
            refine G_seq (G_region ?_)
            refine G_val (V_move rfl rfl) rfl rfl (.none rfl) ?_
            refine G_val (V_move rfl rfl) rfl rfl (.none rfl) ?_
            refine G_val (V_build rfl rfl (by simp [fillV, setLs, setL, Value.cells]; rfl)) rfl rfl (.none rfl) ?_
            refine G_val (V_assign rfl rfl) rfl rfl (.none rfl) ?_
            refine G_storeA rfl rfl rfl rfl (by simp [Value.oneCell']) rfl (.none rfl) (.tail _ (.tail _ (.head _ _ _))) rfl ?_
            refine G_end (X_then (G_ret (X_then_ret (X_block_ret (X_then_ret (X_block_ret (X_then_ret ?_)))))))
            refine G_leaveS (.drop _ (.drop _ (.drop _ (.nil _)))) (by exact (.cons (.tmp rfl) (.cons (.cellA rfl (Cells.own (.tail _ (.tail _ (.head _)))) rfl) (.nil)))) rfl ?_ ?_
            · exact (.refl _)
            exact ⟨_, ⟨_, ⟨rfl, ⟨(by assumption), rfl⟩⟩⟩⟩
          · have e6 : lerr (cutB 10 r).1 out.length = (lineM (cutB 10 r).1).2 := by rw [lerr, if_neg (fun h => hz1 h.1)]
            rw [e6]
            have hz3 := hz1; rw [← hcut] at hz3
            refine G_seq (G_seq (G_region ?_))
            refine G_val (V_move rfl rfl) rfl rfl (.none rfl) ?_
            refine G_val (V_move rfl rfl) rfl rfl (.none rfl) ?_
            refine G_val (V_len rfl rfl) rfl rfl (.none rfl) ?_
            refine G_val (V_lss rfl rfl rfl) rfl rfl (.none rfl) ?_
            refine G_val (V_move rfl rfl) rfl rfl (.none rfl) ?_
            refine G.bool_t 22 rfl (decide_eq_true (by omega)) ?_
            refine G_val (V_move rfl rfl) rfl rfl (.yes rfl rfl rfl rfl) ?_
            refine G_val (V_move rfl rfl) rfl rfl (.yes rfl rfl rfl rfl) ?_
            refine G_val (V_sidx rfl rfl rfl (by omega) (by assumption)) rfl rfl (.yes rfl rfl rfl rfl) ?_
            refine G_val (V_neq rfl rfl rfl) rfl rfl (.yes rfl rfl rfl rfl) ?_
            refine G_val (V_pick_t rfl rfl rfl) rfl rfl (.none rfl) ?_
            refine G_end (X_then ?_)
            refine G_cond_f rfl (by kernel_rfl) ?_
            refine G_exit (X_then_exit (X_then_exit (X_block_hit (X_then (G_seq (G_seq (G_region ?_)))))))
            refine G_val (V_move rfl rfl) rfl rfl (.none rfl) ?_
            refine G_val (V_move rfl rfl) rfl rfl (.none rfl) ?_
            refine G_val (V_len rfl rfl) rfl rfl (.none rfl) ?_
            refine G_val (V_eql rfl rfl rfl) rfl rfl (.none rfl) ?_
            refine G_end (X_then ?_)
            refine G_cond_f rfl (decide_eq_false (by omega)) ?_
            refine G_skip (X_then (G_seq (G_region ?_)))
            refine G_val (V_move rfl rfl) rfl rfl (.none rfl) ?_
            refine G_val (V_move rfl rfl) rfl rfl (.none rfl) ?_
            refine G_val (V_move rfl rfl) rfl rfl (.none rfl) ?_
            refine G_val (V_cut rfl rfl rfl rfl (by omega) (by omega) (by omega)) rfl rfl (.none rfl) ?_
            refine G_call (k := 41) (.mk rfl rfl rfl rfl) rfl rfl (.none rfl) (call_call _ _ _ (by (simp; omega))) ?_
            rintro r1 E2 L3 hE4 ⟨rfl, ⟨rfl, rfl⟩⟩
            replace hnil := hnil.mono hE4
            refine G_val (V_move rfl rfl) rfl rfl (.none rfl) ?_
            refine G_val (V_extract rfl rfl rfl) rfl rfl (.none rfl) ?_
            refine G_val (V_extract rfl rfl rfl) rfl rfl (.none rfl) ?_
            (refine G_alloc rfl rfl rfl (.none rfl) ?_; intro b7)
            refine G_storeA rfl rfl rfl rfl (by simp [Value.oneCell']) rfl (.none rfl) (.head _ _ _) rfl ?_
            refine G_val (V_assign rfl rfl) rfl rfl (.none rfl) ?_
            refine G_end (X_then (G_seq (G_seq (G_region ?_))))
            refine G_val (V_move rfl rfl) rfl rfl (.none rfl) ?_
            refine G_val (V_eql rfl rfl rfl) rfl rfl (.none rfl) ?_
            refine G_val (V_move rfl rfl) rfl rfl (.none rfl) ?_
            refine G.bool_f 46 rfl (decide_eq_false (by omega)) ?_
            refine G_stay (.no rfl rfl rfl rfl) rfl rfl ?_
            refine G_stay (.no rfl rfl rfl rfl) rfl rfl ?_
            refine G_stay (.no rfl rfl rfl rfl) rfl rfl ?_
            refine G_val (V_pick_f rfl rfl rfl) rfl rfl (.none rfl) ?_
            refine G_end (X_then ?_)
            refine G_cond_f rfl rfl ?_
            refine G_skip (X_then (G_seq (G_seq (G_region ?_))))
            refine G_val (V_move rfl rfl) rfl rfl (.none rfl) ?_
            refine G_val (V_neq rfl rfl rfl) rfl rfl (.none rfl) ?_
            refine G_end (X_then ?_)
            refine G_cond_t rfl (decide_eq_true (by omega)) ?_
            refine G_seq (G_region ?_)
            refine G_val (V_move rfl rfl) rfl rfl (.none rfl) ?_
            refine G_val (V_move rfl rfl) rfl rfl (.none rfl) ?_
            refine G_val (V_build rfl rfl (by simp [fillV, setLs, setL, Value.cells]; rfl)) rfl rfl (.none rfl) ?_
            refine G_val (V_assign rfl rfl) rfl rfl (.none rfl) ?_
            refine G_storeA rfl rfl rfl rfl (by simp [Value.oneCell']) rfl (.none rfl) (.tail _ (.tail _ (.head _ _ _))) rfl ?_
            refine G_end (X_then (G_ret (X_then_ret (X_block_ret (X_then_ret (X_block_ret (X_then_ret ?_)))))))
            refine G_leaveS (.drop _ (.drop _ (.drop _ (.nil _)))) (by exact (.cons (.tmp rfl) (.cons (.cellA rfl (Cells.own (.tail _ (.tail _ (.head _)))) rfl) (.nil)))) rfl ?_ ?_
            · exact (.refl _)
            exact ⟨_, ⟨_, ⟨(by (simp (discharger := omega) only [resVal, hcut, hcut2, if_pos, if_neg]; first | done | rfl)), ⟨(by assumption), (by rfl)⟩⟩⟩⟩
      | false =>
        have hsl : (cutB 10 r).1.length = r.length := congrArg List.length (cutB_none hc).1
        have hct := hI.cut hr0 hc
        rw [hct]
        refine G_seq (G_seq (G_region ?_))
        refine G_val (V_move rfl rfl) rfl rfl (.none rfl) ?_
        refine G_val (V_move rfl rfl) rfl rfl (.none rfl) ?_
        refine G_val (V_len rfl rfl) rfl rfl (.none rfl) ?_
        refine G_val (V_lss rfl rfl rfl) rfl rfl (.none rfl) ?_
        refine G_val (V_move rfl rfl) rfl rfl (.none rfl) ?_
        refine G.bool_f 22 rfl (decide_eq_false (by omega)) ?_
        refine G_stay (.no rfl rfl rfl rfl) rfl rfl ?_
        refine G_stay (.no rfl rfl rfl rfl) rfl rfl ?_
        refine G_stay (.no rfl rfl rfl rfl) rfl rfl ?_
        refine G_stay (.no rfl rfl rfl rfl) rfl rfl ?_
        refine G_val (V_pick_f rfl rfl rfl) rfl rfl (.none rfl) ?_
        refine G_end (X_then ?_)
        refine G_cond_f rfl rfl ?_
        refine G_exit (X_then_exit (X_then_exit (X_block_hit (X_then (G_seq (G_seq (G_region ?_)))))))
        refine G_val (V_move rfl rfl) rfl rfl (.none rfl) ?_
        refine G_val (V_move rfl rfl) rfl rfl (.none rfl) ?_
        refine G_val (V_len rfl rfl) rfl rfl (.none rfl) ?_
        refine G_val (V_eql rfl rfl rfl) rfl rfl (.none rfl) ?_
        refine G_end (X_then ?_)
        refine G_cond_t rfl (decide_eq_true (by omega)) ?_
        refine G_seq (G_region ?_)
        refine G_val (V_move rfl rfl) rfl rfl (.none rfl) ?_
        refine G_val (V_build rfl rfl (by simp [fillV, setLs, setL, Value.cells]; rfl)) rfl rfl (.none rfl) ?_
        refine G_val (V_assign rfl rfl) rfl rfl (.none rfl) ?_
        refine G_storeA rfl rfl rfl rfl (by simp [Value.oneCell']) rfl (.none rfl) (.tail _ (.head _ _ _)) rfl ?_
        refine G_end (X_then (G_ret (X_then_ret (X_block_ret (X_then_ret (X_block_ret (X_then_ret ?_)))))))
        refine G_leaveS (.drop _ (.drop _ (.nil _))) (by exact (.cons (.tmp rfl) (.cons (.cellA rfl (Cells.own (.tail _ (.head _))) rfl) (.nil)))) rfl ?_ ?_
        · exact (.refl _)
        exact ⟨_, ⟨_, ⟨rfl, ⟨(by assumption), rfl⟩⟩⟩⟩
  · have hd : s.drop at1 = [] := List.drop_eq_nil_of_le (by omega)
    rw [hd] at hI
    rw [hI.done]
    refine G.freezeSl (.head _ _) ?_
    intro E2 hE2 hs2 hc2
    refine G_seq (G_seq (G_region ?_))
    refine G_val (V_move rfl rfl) rfl rfl (.none rfl) ?_
    refine G_val (V_move rfl rfl) rfl rfl (.none rfl) ?_
    refine G_val (V_len rfl rfl) rfl rfl (.none rfl) ?_
    refine G_val (V_lss rfl rfl rfl) rfl rfl (.none rfl) ?_
    refine G_end (X_then ?_)
    refine G_cond_f rfl (decide_eq_false (by omega)) ?_
    refine G_exit (X_then_exit (X_then_exit (X_block_hit (X_then (G_seq (G_region ?_))))))
    refine G_val (V_move rfl rfl) rfl rfl (.none rfl) ?_
    refine G_val (V_build rfl rfl (by simp [fillV, setLs, setL, Value.cells]; rfl)) rfl rfl (.none rfl) ?_
    refine G_val (V_assign rfl rfl) rfl rfl (.none rfl) ?_
    refine G_storeA rfl rfl rfl rfl (by simp [Value.oneCell']) rfl (.none rfl) (.head _ _ _) rfl ?_
    refine G_end (X_then (G_ret ?_))
    refine G_leaveS (.drop _ (.nil _)) (by exact (.cons (.tmp rfl) (.cons (.cellA rfl (Cells.own (.head _)) rfl) (.nil)))) rfl ?_ ?_
    · exact hE2
    exact ⟨_, ⟨_, ⟨rfl, ⟨(by assumption), rfl⟩⟩⟩⟩
end
end Go.Proofs.YtpkingbclcalkaaDoor
set_option linter.unusedSimpArgs false
set_option linter.unusedVariables false
set_option maxHeartbeats 2000000
set_option maxRecDepth 20000
namespace Go.Proofs.YtpkingbclcalkaaDoor
open Go.RowKit
/-- A call's line. -/
def lineT (c : Cl) : List UInt8 := nameM c.k ++ (if c.k = 1 then [32] ++ hexD c.t else if c.k = 3 then [32] ++ decM c.n.toNat else []) ++ [10]
def lineR (c : Cl) : List UInt8 × Int := if chk c = 0 then (lineT c, 0) else ([], chk c)
theorem nameM_len (k : Int) : (nameM k).length ≤ 7 := by
  have : ∀ i : Nat, (names6.getD i []).length ≤ 7 := fun i => by
    by_cases h : i < 6
    · have : i = 0 ∨ i = 1 ∨ i = 2 ∨ i = 3 ∨ i = 4 ∨ i = 5 := by omega
      rcases this with rfl | rfl | rfl | rfl | rfl | rfl <;> exact Nat.le_of_ble_eq_true rfl
    · rw [List.getD_eq_getElem?_getD, List.getElem?_eq_none (by show 6 ≤ i; omega)]; exact Nat.zero_le _
  exact this _
theorem hexD_len (l : List UInt8) : (hexD l).length ≤ 2 * l.length + 1 := by
  unfold hexD
  split
  · simp
  · rw [hexM_len]; omega
theorem lineT_len {c : Cl} (h : chk c = 0) : (lineT c).length ≤ 2010 := by
  obtain ⟨_, _, h3, _, _⟩ := chk_zero.1 h
  have h1 := nameM_len c.k
  have h2 := hexD_len c.t
  have h4 := decM_len c.n.toNat
  unfold lineT
  simp only [List.length_append]
  split
  · simp only [List.length_append, List.length_singleton]; omega
  · split
    · simp only [List.length_append, List.length_singleton]; omega
    · simp only [List.length_nil, List.length_singleton]; omega
section
variable (E : Env) (L : List Res)
theorem Line_call (k n : Int) (t : List UInt8) : CallS Tryd.prog 21 #[.agg #[.int .i64 k, .int .i64 n, .string (S t)]] E L (fun r E' L' => r = .tuple #[.string (S (lineR ⟨k, n, t⟩).1), .int .i64 (lineR ⟨k, n, t⟩).2] ∧ L' = L) := by
  refine CallS.intro (l := [.agg #[.int .i64 k, .int .i64 n, .string (S t)]]) _ Tryd.func21 rfl Tryd.ntmps21 rfl ?_
  by_cases h : chk ⟨k, n, t⟩ = 0
  · obtain ⟨k1, k5, htl, n0, n9⟩ := chk_zero.1 h
    simp only at k1 k5 htl n0 n9
    have hx : [Value.string (S []), .string (S wFeed), .string (S wFinish), .string (S wDrain), .string (S wSave), .string (S wRestore)][k.toNat]? = some (.string (S (nameM k))) := by
      have : k = 1 ∨ k = 2 ∨ k = 3 ∨ k = 4 ∨ k = 5 := by omega
      rcases this with rfl | rfl | rfl | rfl | rfl <;> rfl
    have hnl := nameM_len k
    rw [lineR, if_pos h]
    by_cases h1 : k = 1
    · subst h1
      by_cases h0 : t = []
      · have e : lineT ⟨1, n, t⟩ = nameM 1 ++ [32, 45, 10] := by rw [h0]; rfl
        rw [e]
        refine G_seq (G_region ?_)
        (refine G_boxA rfl rfl rfl rfl (.none rfl) ?_; intro b1)
        refine G_val (V_assign rfl rfl) rfl rfl (.none rfl) ?_
        refine G_val (V_assign rfl rfl) rfl rfl (.none rfl) ?_
        refine G_end (X_then (G_seq (G_seq (G_region ?_))))
        refine G_val (V_loadA rfl rfl (Cells.own (.head _)) rfl) rfl rfl (.none rfl) ?_
        refine G_callv (k := 30) (.mk rfl rfl rfl rfl) rfl rfl (.none rfl) (Check_call _ _ _ _ _) ?_
        refine G_val (V_assign rfl rfl) rfl rfl (.none rfl) ?_
        refine G_end (X_then (G_seq (G_region ?_)))
        refine G_val (V_move rfl rfl) rfl rfl (.none rfl) ?_
        refine G_val (V_neq rfl rfl rfl) rfl rfl (.none rfl) ?_
        refine G_end (X_then ?_)
        refine G_cond_f rfl (decide_eq_false (by omega)) ?_
        refine G_skip (X_then (G_seq ?_))
        refine G_draw mixed (by kernel_rfl) ?_
        refine Q_callv (k := 42) (.mk rfl rfl rfl rfl) rfl rfl (.none rfl) (names_call _ _) ?_
        refine Q_val (V_fieldAddr rfl rfl (by decide)) rfl rfl (.none rfl) ?_
        refine Q_val (V_load rfl rfl (Cell.own (.head _) rfl)) rfl rfl (.none rfl) ?_
        refine Q_val (V_idxArr rfl rfl rfl (by omega) (by omega) rfl) rfl rfl (.none rfl) ?_
        refine Q_val (V_assign rfl rfl) rfl rfl (.none rfl) ?_
        refine Q_end ?_
        refine X_then (G_seq (G_seq (G_region ?_)))
        refine G_val (V_fieldAddr rfl rfl (by decide)) rfl rfl (.none rfl) ?_
        refine G_val (V_load rfl rfl (Cell.own (.head _) rfl)) rfl rfl (.none rfl) ?_
        refine G_end (X_then (G_block (G_seq (G_region ?_))))
        refine G_val (V_eql rfl rfl rfl) rfl rfl (.none rfl) ?_
        refine G_val (V_assign rfl rfl) rfl rfl (.none rfl) ?_
        refine G_end (X_then ?_)
        refine G_cond_t rfl (by kernel_rfl) ?_
        refine G_seq (G_seq (G_region ?_))
        refine G_val (V_fieldAddr rfl rfl (by decide)) rfl rfl (.none rfl) ?_
        refine G_val (V_load rfl rfl (Cell.own (.head _) rfl)) rfl rfl (.none rfl) ?_
        refine G_val (V_seql rfl rfl rfl) rfl rfl (.none rfl) ?_
        refine G_end (X_then ?_)
        refine G_cond_t rfl (decide_eq_true (by omega)) ?_
        refine G_seq (G_region ?_)
        refine G_val (V_move rfl rfl) rfl rfl (.none rfl) ?_
        refine G_val (V_cat rfl rfl rfl (by decide)) rfl rfl (.none rfl) ?_
        refine G_val (V_assign rfl rfl) rfl rfl (.none rfl) ?_
        refine G_val (V_assign rfl rfl) rfl rfl (.none rfl) ?_
        refine G_end (X_then (G_ret (X_then_ret (X_block_ret (X_then_ret ?_)))))
        refine G_leaveS (.drop _ (.nil _)) (by exact (.cons (.tmp rfl) (.cons (.tmp rfl) (.nil)))) rfl ?_ ?_
        · exact (.refl _)
        exact ⟨(by kernel_rfl), rfl⟩
      · have e : lineT ⟨1, n, t⟩ = nameM 1 ++ ([32] ++ hexM t) ++ [10] := by rw [lineT]; simp only [if_true, hexD, h0, if_false]
        have hhl := hexM_len t
        have hsl : ([32] ++ hexM t).length = 1 + (hexM t).length := by simp; omega
        rw [e]
        refine G_seq (G_region ?_)
        (refine G_boxA rfl rfl rfl rfl (.none rfl) ?_; intro b1)
        refine G_val (V_assign rfl rfl) rfl rfl (.none rfl) ?_
        refine G_val (V_assign rfl rfl) rfl rfl (.none rfl) ?_
        refine G_end (X_then (G_seq (G_seq (G_region ?_))))
        refine G_val (V_loadA rfl rfl (Cells.own (.head _)) rfl) rfl rfl (.none rfl) ?_
        refine G_callv (k := 30) (.mk rfl rfl rfl rfl) rfl rfl (.none rfl) (Check_call _ _ _ _ _) ?_
        refine G_val (V_assign rfl rfl) rfl rfl (.none rfl) ?_
        refine G_end (X_then (G_seq (G_region ?_)))
        refine G_val (V_move rfl rfl) rfl rfl (.none rfl) ?_
        refine G_val (V_neq rfl rfl rfl) rfl rfl (.none rfl) ?_
        refine G_end (X_then ?_)
        refine G_cond_f rfl (decide_eq_false (by omega)) ?_
        refine G_skip (X_then (G_seq ?_))
        refine G_draw mixed (by kernel_rfl) ?_
        refine Q_callv (k := 42) (.mk rfl rfl rfl rfl) rfl rfl (.none rfl) (names_call _ _) ?_
        refine Q_val (V_fieldAddr rfl rfl (by decide)) rfl rfl (.none rfl) ?_
        refine Q_val (V_load rfl rfl (Cell.own (.head _) rfl)) rfl rfl (.none rfl) ?_
        refine Q_val (V_idxArr rfl rfl rfl (by omega) (by omega) rfl) rfl rfl (.none rfl) ?_
        refine Q_val (V_assign rfl rfl) rfl rfl (.none rfl) ?_
        refine Q_end ?_
        refine X_then (G_seq (G_seq (G_region ?_)))
        refine G_val (V_fieldAddr rfl rfl (by decide)) rfl rfl (.none rfl) ?_
        refine G_val (V_load rfl rfl (Cell.own (.head _) rfl)) rfl rfl (.none rfl) ?_
        refine G_end (X_then (G_block (G_seq (G_region ?_))))
        refine G_val (V_eql rfl rfl rfl) rfl rfl (.none rfl) ?_
        refine G_val (V_assign rfl rfl) rfl rfl (.none rfl) ?_
        refine G_end (X_then ?_)
        refine G_cond_t rfl (by kernel_rfl) ?_
        refine G_seq (G_seq (G_region ?_))
        refine G_val (V_fieldAddr rfl rfl (by decide)) rfl rfl (.none rfl) ?_
        refine G_val (V_load rfl rfl (Cell.own (.head _) rfl)) rfl rfl (.none rfl) ?_
        refine G_val (V_seql rfl rfl rfl) rfl rfl (.none rfl) ?_
        refine G_end (X_then ?_)
        refine G_cond_f rfl (decide_eq_false (by omega)) ?_
        refine G_skip (X_then (G_region ?_))
        refine G_val (V_move rfl rfl) rfl rfl (.none rfl) ?_
        refine G_val (V_fieldAddr rfl rfl (by decide)) rfl rfl (.none rfl) ?_
        refine G_val (V_load rfl rfl (Cell.own (.head _) rfl)) rfl rfl (.none rfl) ?_
        (refine G_s2b rfl rfl rfl rfl (.none rfl) ?_; intro b27 c27 E27 hE27 hs27)
        refine G_call (k := 44) (.mk rfl rfl rfl rfl) rfl rfl (.none rfl) (hex_call _ _ _ _ _ (by assumption) (by omega)) ?_
        rintro r1 E2 L3 hE4 ⟨rfl, ⟨rfl, rfl⟩⟩
        replace hs27 := hs27.mono hE4
        refine G_val (V_cat rfl rfl rfl (by simp; omega)) rfl rfl (.none rfl) ?_
        refine G_val (V_cat rfl rfl rfl (by simp; omega)) rfl rfl (.none rfl) ?_
        refine G_val (V_assign rfl rfl) rfl rfl (.none rfl) ?_
        refine G_end (X_block (X_then (G_seq (G_region ?_))))
        refine G_val (V_move rfl rfl) rfl rfl (.none rfl) ?_
        refine G_val (V_cat rfl rfl rfl (by simp; omega)) rfl rfl (.none rfl) ?_
        refine G_val (V_assign rfl rfl) rfl rfl (.none rfl) ?_
        refine G_val (V_assign rfl rfl) rfl rfl (.none rfl) ?_
        refine G_end (X_then (G_ret ?_))
        refine G_leaveS (.drop _ (.nil _)) (by exact (.cons (.tmp rfl) (.cons (.tmp rfl) (.nil)))) rfl ?_ ?_
        · exact hE27
        exact ⟨rfl, rfl⟩
    · by_cases h3 : k = 3
      · subst h3
        obtain ⟨m, rfl⟩ : ∃ m : Nat, n = (m : Int) := ⟨n.toNat, by omega⟩
        have e : lineT ⟨3, m, t⟩ = nameM 3 ++ ([32] ++ decM m) ++ [10] := rfl
        have hdl := decM_len m
        have hsl : ([32] ++ decM m).length = 1 + (decM m).length := by simp; omega
        rw [e]
        by_cases d1 : m < 10
        · refine G_seq ?_
          refine G_region ?_
          (refine G_boxA rfl rfl rfl rfl (.none rfl) ?_; intro b1)
          refine G_val (V_assign rfl rfl) rfl rfl (.none rfl) ?_
          refine G_val (V_assign rfl rfl) rfl rfl (.none rfl) ?_
          refine G_end (X_then (G_seq (G_seq (G_region ?_))))
          refine G_val (V_loadA rfl rfl (Cells.own (.head _)) rfl) rfl rfl (.none rfl) ?_
          refine G_callv (k := 30) (.mk rfl rfl rfl rfl) rfl rfl (.none rfl) (Check_call _ _ _ _ _) ?_
          refine G_val (V_assign rfl rfl) rfl rfl (.none rfl) ?_
          refine G_end (X_then (G_seq (G_region ?_)))
          refine G_val (V_move rfl rfl) rfl rfl (.none rfl) ?_
          refine G_val (V_neq rfl rfl rfl) rfl rfl (.none rfl) ?_
          refine G_end (X_then ?_)
          refine G_cond_f rfl (decide_eq_false (by omega)) ?_
          refine G_skip (X_then (G_seq ?_))
          refine G_draw mixed (by kernel_rfl) ?_
          refine Q_callv (k := 42) (.mk rfl rfl rfl rfl) rfl rfl (.none rfl) (names_call _ _) ?_
          refine Q_val (V_fieldAddr rfl rfl (by decide)) rfl rfl (.none rfl) ?_
          refine Q_val (V_load rfl rfl (Cell.own (.head _) rfl)) rfl rfl (.none rfl) ?_
          refine Q_val (V_idxArr rfl rfl rfl (by omega) (by omega) rfl) rfl rfl (.none rfl) ?_
          refine Q_val (V_assign rfl rfl) rfl rfl (.none rfl) ?_
          refine Q_end ?_
          refine X_then (G_seq (G_seq (G_region ?_)))
          refine G_val (V_fieldAddr rfl rfl (by decide)) rfl rfl (.none rfl) ?_
          refine G_val (V_load rfl rfl (Cell.own (.head _) rfl)) rfl rfl (.none rfl) ?_
          refine G_end (X_then (G_block (G_seq (G_region ?_))))
          refine G_val (V_eql rfl rfl rfl) rfl rfl (.none rfl) ?_
          refine G_val (V_assign rfl rfl) rfl rfl (.none rfl) ?_
          refine G_end (X_then ?_)
          refine G_cond_f rfl (by kernel_rfl) ?_
          refine G_seq (G_region ?_)
          refine G_val (V_eql rfl rfl rfl) rfl rfl (.none rfl) ?_
          refine G_val (V_assign rfl rfl) rfl rfl (.none rfl) ?_
          refine G_end (X_then ?_)
          refine G_cond_t rfl (by kernel_rfl) ?_
          refine G_region ?_
          refine G_val (V_move rfl rfl) rfl rfl (.none rfl) ?_
          refine G_val (V_fieldAddr rfl rfl (by decide)) rfl rfl (.none rfl) ?_
          refine G_val (V_load rfl rfl (Cell.own (.head _) rfl)) rfl rfl (.none rfl) ?_
          refine G_callv (k := 45) (.mk rfl rfl rfl rfl) rfl rfl (.none rfl) (decimal1_call _ _ _ (by assumption)) ?_
          refine G_val (V_cat rfl rfl rfl (by simp; omega)) rfl rfl (.none rfl) ?_
          refine G_val (V_cat rfl rfl rfl (by simp; omega)) rfl rfl (.none rfl) ?_
          refine G_val (V_assign rfl rfl) rfl rfl (.none rfl) ?_
          refine G_end (X_block (X_then (G_seq (G_region ?_))))
          refine G_val (V_move rfl rfl) rfl rfl (.none rfl) ?_
          refine G_val (V_cat rfl rfl rfl (by simp; omega)) rfl rfl (.none rfl) ?_
          refine G_val (V_assign rfl rfl) rfl rfl (.none rfl) ?_
          refine G_val (V_assign rfl rfl) rfl rfl (.none rfl) ?_
          refine G_end (X_then (G_ret ?_))
          refine G_leaveS (.drop _ (.nil _)) (by exact (.cons (.tmp rfl) (.cons (.tmp rfl) (.nil)))) rfl ?_ ?_
          · exact (.refl _)
          exact ⟨rfl, rfl⟩
        · by_cases d2 : m < 100
          · refine G_seq ?_
            refine G_region ?_
            (refine G_boxA rfl rfl rfl rfl (.none rfl) ?_; intro b1)
            refine G_val (V_assign rfl rfl) rfl rfl (.none rfl) ?_
            refine G_val (V_assign rfl rfl) rfl rfl (.none rfl) ?_
            refine G_end (X_then (G_seq (G_seq (G_region ?_))))
            refine G_val (V_loadA rfl rfl (Cells.own (.head _)) rfl) rfl rfl (.none rfl) ?_
            refine G_callv (k := 30) (.mk rfl rfl rfl rfl) rfl rfl (.none rfl) (Check_call _ _ _ _ _) ?_
            refine G_val (V_assign rfl rfl) rfl rfl (.none rfl) ?_
            refine G_end (X_then (G_seq (G_region ?_)))
            refine G_val (V_move rfl rfl) rfl rfl (.none rfl) ?_
            refine G_val (V_neq rfl rfl rfl) rfl rfl (.none rfl) ?_
            refine G_end (X_then ?_)
            refine G_cond_f rfl (decide_eq_false (by omega)) ?_
            refine G_skip (X_then (G_seq ?_))
            refine G_draw mixed (by kernel_rfl) ?_
            refine Q_callv (k := 42) (.mk rfl rfl rfl rfl) rfl rfl (.none rfl) (names_call _ _) ?_
            refine Q_val (V_fieldAddr rfl rfl (by decide)) rfl rfl (.none rfl) ?_
            refine Q_val (V_load rfl rfl (Cell.own (.head _) rfl)) rfl rfl (.none rfl) ?_
            refine Q_val (V_idxArr rfl rfl rfl (by omega) (by omega) rfl) rfl rfl (.none rfl) ?_
            refine Q_val (V_assign rfl rfl) rfl rfl (.none rfl) ?_
            refine Q_end ?_
            refine X_then (G_seq (G_seq (G_region ?_)))
            refine G_val (V_fieldAddr rfl rfl (by decide)) rfl rfl (.none rfl) ?_
            refine G_val (V_load rfl rfl (Cell.own (.head _) rfl)) rfl rfl (.none rfl) ?_
            refine G_end (X_then (G_block (G_seq (G_region ?_))))
            refine G_val (V_eql rfl rfl rfl) rfl rfl (.none rfl) ?_
            refine G_val (V_assign rfl rfl) rfl rfl (.none rfl) ?_
            refine G_end (X_then ?_)
            refine G_cond_f rfl (by kernel_rfl) ?_
            refine G_seq (G_region ?_)
            refine G_val (V_eql rfl rfl rfl) rfl rfl (.none rfl) ?_
            refine G_val (V_assign rfl rfl) rfl rfl (.none rfl) ?_
            refine G_end (X_then ?_)
            refine G_cond_t rfl (by kernel_rfl) ?_
            refine G_region ?_
            refine G_val (V_move rfl rfl) rfl rfl (.none rfl) ?_
            refine G_val (V_fieldAddr rfl rfl (by decide)) rfl rfl (.none rfl) ?_
            refine G_val (V_load rfl rfl (Cell.own (.head _) rfl)) rfl rfl (.none rfl) ?_
            refine G_callv (k := 45) (.mk rfl rfl rfl rfl) rfl rfl (.none rfl) (decimal2_call _ _ _ (by assumption) (by assumption)) ?_
            refine G_val (V_cat rfl rfl rfl (by simp; omega)) rfl rfl (.none rfl) ?_
            refine G_val (V_cat rfl rfl rfl (by simp; omega)) rfl rfl (.none rfl) ?_
            refine G_val (V_assign rfl rfl) rfl rfl (.none rfl) ?_
            refine G_end (X_block (X_then (G_seq (G_region ?_))))
            refine G_val (V_move rfl rfl) rfl rfl (.none rfl) ?_
            refine G_val (V_cat rfl rfl rfl (by simp; omega)) rfl rfl (.none rfl) ?_
            refine G_val (V_assign rfl rfl) rfl rfl (.none rfl) ?_
            refine G_val (V_assign rfl rfl) rfl rfl (.none rfl) ?_
            refine G_end (X_then (G_ret ?_))
            refine G_leaveS (.drop _ (.nil _)) (by exact (.cons (.tmp rfl) (.cons (.tmp rfl) (.nil)))) rfl ?_ ?_
            · exact (.refl _)
            exact ⟨rfl, rfl⟩
          · refine G_seq ?_
            refine G_region ?_
            (refine G_boxA rfl rfl rfl rfl (.none rfl) ?_; intro b1)
            refine G_val (V_assign rfl rfl) rfl rfl (.none rfl) ?_
            refine G_val (V_assign rfl rfl) rfl rfl (.none rfl) ?_
            refine G_end (X_then (G_seq (G_seq (G_region ?_))))
            refine G_val (V_loadA rfl rfl (Cells.own (.head _)) rfl) rfl rfl (.none rfl) ?_
            refine G_callv (k := 30) (.mk rfl rfl rfl rfl) rfl rfl (.none rfl) (Check_call _ _ _ _ _) ?_
            refine G_val (V_assign rfl rfl) rfl rfl (.none rfl) ?_
            refine G_end (X_then (G_seq (G_region ?_)))
            refine G_val (V_move rfl rfl) rfl rfl (.none rfl) ?_
            refine G_val (V_neq rfl rfl rfl) rfl rfl (.none rfl) ?_
            refine G_end (X_then ?_)
            refine G_cond_f rfl (decide_eq_false (by omega)) ?_
            refine G_skip (X_then (G_seq ?_))
            refine G_draw mixed (by kernel_rfl) ?_
            refine Q_callv (k := 42) (.mk rfl rfl rfl rfl) rfl rfl (.none rfl) (names_call _ _) ?_
            refine Q_val (V_fieldAddr rfl rfl (by decide)) rfl rfl (.none rfl) ?_
            refine Q_val (V_load rfl rfl (Cell.own (.head _) rfl)) rfl rfl (.none rfl) ?_
            refine Q_val (V_idxArr rfl rfl rfl (by omega) (by omega) rfl) rfl rfl (.none rfl) ?_
            refine Q_val (V_assign rfl rfl) rfl rfl (.none rfl) ?_
            refine Q_end ?_
            refine X_then (G_seq (G_seq (G_region ?_)))
            refine G_val (V_fieldAddr rfl rfl (by decide)) rfl rfl (.none rfl) ?_
            refine G_val (V_load rfl rfl (Cell.own (.head _) rfl)) rfl rfl (.none rfl) ?_
            refine G_end (X_then (G_block (G_seq (G_region ?_))))
            refine G_val (V_eql rfl rfl rfl) rfl rfl (.none rfl) ?_
            refine G_val (V_assign rfl rfl) rfl rfl (.none rfl) ?_
            refine G_end (X_then ?_)
            refine G_cond_f rfl (by kernel_rfl) ?_
            refine G_seq (G_region ?_)
            refine G_val (V_eql rfl rfl rfl) rfl rfl (.none rfl) ?_
            refine G_val (V_assign rfl rfl) rfl rfl (.none rfl) ?_
            refine G_end (X_then ?_)
            refine G_cond_t rfl (by kernel_rfl) ?_
            refine G_region ?_
            refine G_val (V_move rfl rfl) rfl rfl (.none rfl) ?_
            refine G_val (V_fieldAddr rfl rfl (by decide)) rfl rfl (.none rfl) ?_
            refine G_val (V_load rfl rfl (Cell.own (.head _) rfl)) rfl rfl (.none rfl) ?_
            refine G_callv (k := 45) (.mk rfl rfl rfl rfl) rfl rfl (.none rfl) (decimal3_call _ _ _ (by omega) (by assumption)) ?_
            refine G_val (V_cat rfl rfl rfl (by simp; omega)) rfl rfl (.none rfl) ?_
            refine G_val (V_cat rfl rfl rfl (by simp; omega)) rfl rfl (.none rfl) ?_
            refine G_val (V_assign rfl rfl) rfl rfl (.none rfl) ?_
            refine G_end (X_block (X_then (G_seq (G_region ?_))))
            refine G_val (V_move rfl rfl) rfl rfl (.none rfl) ?_
            refine G_val (V_cat rfl rfl rfl (by simp; omega)) rfl rfl (.none rfl) ?_
            refine G_val (V_assign rfl rfl) rfl rfl (.none rfl) ?_
            refine G_val (V_assign rfl rfl) rfl rfl (.none rfl) ?_
            refine G_end (X_then (G_ret ?_))
            refine G_leaveS (.drop _ (.nil _)) (by exact (.cons (.tmp rfl) (.cons (.tmp rfl) (.nil)))) rfl ?_ ?_
            · exact (.refl _)
            exact ⟨rfl, rfl⟩
      · have e : lineT ⟨k, n, t⟩ = nameM k ++ [10] := by rw [lineT]; simp [h1, h3]
        rw [e]
        refine G_seq (G_region ?_)
        (refine G_boxA rfl rfl rfl rfl (.none rfl) ?_; intro b1)
        refine G_val (V_assign rfl rfl) rfl rfl (.none rfl) ?_
        refine G_val (V_assign rfl rfl) rfl rfl (.none rfl) ?_
        refine G_end (X_then (G_seq (G_seq (G_region ?_))))
        refine G_val (V_loadA rfl rfl (Cells.own (.head _)) rfl) rfl rfl (.none rfl) ?_
        refine G_callv (k := 30) (.mk rfl rfl rfl rfl) rfl rfl (.none rfl) (Check_call _ _ _ _ _) ?_
        refine G_val (V_assign rfl rfl) rfl rfl (.none rfl) ?_
        refine G_end (X_then (G_seq (G_region ?_)))
        refine G_val (V_move rfl rfl) rfl rfl (.none rfl) ?_
        refine G_val (V_neq rfl rfl rfl) rfl rfl (.none rfl) ?_
        refine G_end (X_then ?_)
        refine G_cond_f rfl (decide_eq_false (by omega)) ?_
        refine G_skip (X_then (G_seq ?_))
        refine G_draw mixed (by kernel_rfl) ?_
        refine Q_callv (k := 42) (.mk rfl rfl rfl rfl) rfl rfl (.none rfl) (names_call _ _) ?_
        refine Q_val (V_fieldAddr rfl rfl (by decide)) rfl rfl (.none rfl) ?_
        refine Q_val (V_load rfl rfl (Cell.own (.head _) rfl)) rfl rfl (.none rfl) ?_
        refine Q_val (V_idxArr rfl rfl rfl (by omega) (by omega) (by assumption)) rfl rfl (.none rfl) ?_
        refine Q_val (V_assign rfl rfl) rfl rfl (.none rfl) ?_
        refine Q_end ?_
        refine X_then (G_seq (G_seq (G_region ?_)))
        refine G_val (V_fieldAddr rfl rfl (by decide)) rfl rfl (.none rfl) ?_
        refine G_val (V_load rfl rfl (Cell.own (.head _) rfl)) rfl rfl (.none rfl) ?_
        refine G_end (X_then (G_block (G_seq (G_region ?_))))
        refine G_val (V_eql rfl rfl rfl) rfl rfl (.none rfl) ?_
        refine G_val (V_assign rfl rfl) rfl rfl (.none rfl) ?_
        refine G_end (X_then ?_)
        refine G_cond_f rfl (decide_eq_false (by omega)) ?_
        refine G_seq (G_region ?_)
        refine G_val (V_eql rfl rfl rfl) rfl rfl (.none rfl) ?_
        refine G_val (V_assign rfl rfl) rfl rfl (.none rfl) ?_
        refine G_end (X_then ?_)
        refine G_cond_f rfl (decide_eq_false (by omega)) ?_
        refine G_skip (X_block (X_then (G_seq (G_region ?_))))
        refine G_val (V_move rfl rfl) rfl rfl (.none rfl) ?_
        refine G_val (V_cat rfl rfl rfl (by simp; omega)) rfl rfl (.none rfl) ?_
        refine G_val (V_assign rfl rfl) rfl rfl (.none rfl) ?_
        refine G_val (V_assign rfl rfl) rfl rfl (.none rfl) ?_
        refine G_end (X_then (G_ret ?_))
        refine G_leaveS (.drop _ (.nil _)) (by exact (.cons (.tmp rfl) (.cons (.tmp rfl) (.nil)))) rfl ?_ ?_
        · exact (.refl _)
        exact ⟨rfl, rfl⟩
  · rw [lineR, if_neg h]
    refine G_seq (G_region ?_)
    (refine G_boxA rfl rfl rfl rfl (.none rfl) ?_; intro b1)
    refine G_val (V_assign rfl rfl) rfl rfl (.none rfl) ?_
    refine G_val (V_assign rfl rfl) rfl rfl (.none rfl) ?_
    refine G_end (X_then (G_seq (G_seq (G_region ?_))))
    refine G_val (V_loadA rfl rfl (Cells.own (.head _)) rfl) rfl rfl (.none rfl) ?_
    refine G_callv (k := 30) (.mk rfl rfl rfl rfl) rfl rfl (.none rfl) (Check_call _ _ _ _ _) ?_
    refine G_val (V_assign rfl rfl) rfl rfl (.none rfl) ?_
    refine G_end (X_then (G_seq (G_region ?_)))
    refine G_val (V_move rfl rfl) rfl rfl (.none rfl) ?_
    refine G_val (V_neq rfl rfl rfl) rfl rfl (.none rfl) ?_
    refine G_end (X_then ?_)
    refine G_cond_t rfl (decide_eq_true (by omega)) ?_
    refine G_seq (G_region ?_)
    refine G_val (V_move rfl rfl) rfl rfl (.none rfl) ?_
    refine G_val (V_assign rfl rfl) rfl rfl (.none rfl) ?_
    refine G_val (V_assign rfl rfl) rfl rfl (.none rfl) ?_
    refine G_end (X_then (G_ret (X_then_ret ?_)))
    refine G_leaveS (.drop _ (.nil _)) (by exact (.cons (.tmp rfl) (.cons (.tmp rfl) (.nil)))) rfl ?_ ?_
    · exact (.refl _)
    exact ⟨rfl, rfl⟩
theorem LineR_call (k n : Int) (t : List UInt8) : CallS Tryd.prog 29 #[.agg #[.int .i64 k, .int .i64 n, .string (S t)]] E L (fun r E' L' => r = .tuple #[.string (S (lineR ⟨k, n, t⟩).1), .int .i64 (lineR ⟨k, n, t⟩).2] ∧ L' = L) := by
  refine CallS.intro (l := [.agg #[.int .i64 k, .int .i64 n, .string (S t)]]) _ Tryd.func29 rfl Tryd.ntmps29 rfl ?_
  by_cases h : chk ⟨k, n, t⟩ = 0
  · obtain ⟨k1, k5, htl, n0, n9⟩ := chk_zero.1 h
    simp only at k1 k5 htl n0 n9
    have hx : (strs names6)[k.toNat]? = some (.string (S (nameM k))) := by
      have : k = 1 ∨ k = 2 ∨ k = 3 ∨ k = 4 ∨ k = 5 := by omega
      rcases this with rfl | rfl | rfl | rfl | rfl <;> rfl
    have hnl := nameM_len k
    rw [lineR, if_pos h]
    by_cases h1 : k = 1
    · subst h1
      have e : lineT ⟨1, n, t⟩ = nameM 1 ++ [32] ++ hexD t ++ [10] := by rw [lineT]; simp only [if_true, List.append_assoc]
      have hhl := hexD_len t
      rw [e]
      refine G_seq (G_region ?_)
      (refine G_boxA rfl rfl rfl rfl (.none rfl) ?_; intro b1)
      refine G_val (V_assign rfl rfl) rfl rfl (.none rfl) ?_
      refine G_val (V_assign rfl rfl) rfl rfl (.none rfl) ?_
      refine G_end (X_then (G_seq (G_seq (G_region ?_))))
      refine G_val (V_loadA rfl rfl (Cells.own (.head _)) rfl) rfl rfl (.none rfl) ?_
      refine G_callv (k := 31) (.mk rfl rfl rfl rfl) rfl rfl (.none rfl) (CheckR_call _ _ _ _ _) ?_
      refine G_val (V_assign rfl rfl) rfl rfl (.none rfl) ?_
      refine G_end (X_then (G_seq (G_region ?_)))
      refine G_val (V_move rfl rfl) rfl rfl (.none rfl) ?_
      refine G_val (V_neq rfl rfl rfl) rfl rfl (.none rfl) ?_
      refine G_end (X_then ?_)
      refine G_cond_f rfl (decide_eq_false (by omega)) ?_
      refine G_skip (X_then (G_seq ?_))
      refine G_drawX 6 [(1, 0), (2, 1), (0, 3), (3, 1), (4, 1), (5, 0)] mixed (by kernel_rfl) ?_
      refine F_pure rfl (fun _ _ => V_fieldAddr rfl rfl (by decide)) rfl rfl (.none rfl) ?_
      refine F_load rfl (.head _) (V_load rfl rfl (Cell.own (.head _) rfl)) rfl rfl (.none rfl) ?_
      apply F_call (k := 43) rfl (.mk rfl rfl rfl rfl) rfl rfl (.none rfl)
      · (intro L0; refine CallS.mono (namesR_call _ _) ?_; exact fun _ _ _ _ h => h)
      · (rintro L0 r E' L' ⟨z1, ⟨rfl, ⟨Z2, rfl⟩⟩⟩; exact ⟨rfl, ⟨_, ⟨rfl, ⟨(by assumption), rfl⟩⟩⟩⟩)
      rintro r3 E4 hE5 ⟨z6, ⟨rfl, ⟨Z7, _⟩⟩⟩
      refine F_loadE rfl (V_idxAddr rfl rfl rfl (SlE.rd (by assumption)) (by omega) (by omega)) rfl rfl (.none rfl) ?_
      refine F_loadE rfl (V_loadS rfl rfl (SlE.rd (by assumption)) (by assumption) (by simp)) rfl rfl (.none rfl) ?_
      refine F_pure rfl (fun _ _ => V_assign rfl rfl) rfl rfl (.none rfl) ?_
      (refine F_end (.nil _) ?_; dsimp only [List.drop])
      refine G_end (X_then (G_seq (G_seq (G_region ?_))))
      refine G_val (V_fieldAddr rfl rfl (by decide)) rfl rfl (.none rfl) ?_
      refine G_val (V_load rfl rfl (Cell.own (.head _) rfl)) rfl rfl (.none rfl) ?_
      refine G_end (X_then (G_block (G_seq (G_region ?_))))
      refine G_val (V_eql rfl rfl rfl) rfl rfl (.none rfl) ?_
      refine G_val (V_assign rfl rfl) rfl rfl (.none rfl) ?_
      refine G_end (X_then ?_)
      refine G_cond_t rfl (by kernel_rfl) ?_
      refine G_region ?_
      refine G_val (V_move rfl rfl) rfl rfl (.none rfl) ?_
      refine G_val (V_cat rfl rfl rfl (by simp; omega)) rfl rfl (.none rfl) ?_
      refine G_val (V_fieldAddr rfl rfl (by decide)) rfl rfl (.none rfl) ?_
      refine G_val (V_load rfl rfl (Cell.own (.head _) rfl)) rfl rfl (.none rfl) ?_
      refine G_callv (k := 46) (.mk rfl rfl rfl rfl) rfl rfl (.none rfl) (hexR_call _ _ _ (by omega)) ?_
      refine G_val (V_cat rfl rfl rfl (by simp; omega)) rfl rfl (.none rfl) ?_
      refine G_val (V_assign rfl rfl) rfl rfl (.none rfl) ?_
      refine G_end (X_block (X_then (G_seq (G_region ?_))))
      refine G_val (V_move rfl rfl) rfl rfl (.none rfl) ?_
      refine G_val (V_cat rfl rfl rfl (by simp; omega)) rfl rfl (.none rfl) ?_
      refine G_val (V_assign rfl rfl) rfl rfl (.none rfl) ?_
      refine G_val (V_assign rfl rfl) rfl rfl (.none rfl) ?_
      refine G_end (X_then (G_ret ?_))
      refine G_leaveS (.drop _ (.nil _)) (by exact (.cons (.tmp rfl) (.cons (.tmp rfl) (.nil)))) rfl ?_ ?_
      · exact hE5
      exact ⟨rfl, rfl⟩
    · by_cases h3 : k = 3
      · subst h3
        obtain ⟨m, rfl⟩ : ∃ m : Nat, n = (m : Int) := ⟨n.toNat, by omega⟩
        have e : lineT ⟨3, m, t⟩ = nameM 3 ++ [32] ++ decM m ++ [10] := by show nameM 3 ++ ([32] ++ decM m) ++ [10] = _; rw [List.append_assoc (nameM 3) [32]]
        have hdl := decM_len m
        rw [e]
        by_cases d1 : m < 10
        · refine G_seq ?_
          refine G_region ?_
          (refine G_boxA rfl rfl rfl rfl (.none rfl) ?_; intro b1)
          refine G_val (V_assign rfl rfl) rfl rfl (.none rfl) ?_
          refine G_val (V_assign rfl rfl) rfl rfl (.none rfl) ?_
          refine G_end (X_then (G_seq (G_seq (G_region ?_))))
          refine G_val (V_loadA rfl rfl (Cells.own (.head _)) rfl) rfl rfl (.none rfl) ?_
          refine G_callv (k := 31) (.mk rfl rfl rfl rfl) rfl rfl (.none rfl) (CheckR_call _ _ _ _ _) ?_
          refine G_val (V_assign rfl rfl) rfl rfl (.none rfl) ?_
          refine G_end (X_then (G_seq (G_region ?_)))
          refine G_val (V_move rfl rfl) rfl rfl (.none rfl) ?_
          refine G_val (V_neq rfl rfl rfl) rfl rfl (.none rfl) ?_
          refine G_end (X_then ?_)
          refine G_cond_f rfl (decide_eq_false (by omega)) ?_
          refine G_skip (X_then (G_seq ?_))
          refine G_drawX 6 [(1, 0), (2, 1), (0, 3), (3, 1), (4, 1), (5, 0)] mixed (by kernel_rfl) ?_
          refine F_pure rfl (fun _ _ => V_fieldAddr rfl rfl (by decide)) rfl rfl (.none rfl) ?_
          refine F_load rfl (.head _) (V_load rfl rfl (Cell.own (.head _) rfl)) rfl rfl (.none rfl) ?_
          apply F_call (k := 43) rfl (.mk rfl rfl rfl rfl) rfl rfl (.none rfl)
          · (intro L0; refine CallS.mono (namesR_call _ _) ?_; exact fun _ _ _ _ h => h)
          · (rintro L0 r E' L' ⟨z1, ⟨rfl, ⟨Z2, rfl⟩⟩⟩; exact ⟨rfl, ⟨_, ⟨rfl, ⟨(by assumption), rfl⟩⟩⟩⟩)
          rintro r3 E4 hE5 ⟨z6, ⟨rfl, ⟨Z7, _⟩⟩⟩
          refine F_loadE rfl (V_idxAddr rfl rfl rfl (SlE.rd (by assumption)) (by omega) (by omega)) rfl rfl (.none rfl) ?_
          refine F_loadE rfl (V_loadS rfl rfl (SlE.rd (by assumption)) (by assumption) (by simp)) rfl rfl (.none rfl) ?_
          refine F_pure rfl (fun _ _ => V_assign rfl rfl) rfl rfl (.none rfl) ?_
          (refine F_end (.nil _) ?_; dsimp only [List.drop])
          refine G_end (X_then (G_seq (G_seq (G_region ?_))))
          refine G_val (V_fieldAddr rfl rfl (by decide)) rfl rfl (.none rfl) ?_
          refine G_val (V_load rfl rfl (Cell.own (.head _) rfl)) rfl rfl (.none rfl) ?_
          refine G_end (X_then (G_block (G_seq (G_region ?_))))
          refine G_val (V_eql rfl rfl rfl) rfl rfl (.none rfl) ?_
          refine G_val (V_assign rfl rfl) rfl rfl (.none rfl) ?_
          refine G_end (X_then ?_)
          refine G_cond_f rfl (by kernel_rfl) ?_
          refine G_seq (G_region ?_)
          refine G_val (V_eql rfl rfl rfl) rfl rfl (.none rfl) ?_
          refine G_val (V_assign rfl rfl) rfl rfl (.none rfl) ?_
          refine G_end (X_then ?_)
          refine G_cond_t rfl (by kernel_rfl) ?_
          refine G_region ?_
          refine G_val (V_move rfl rfl) rfl rfl (.none rfl) ?_
          refine G_val (V_cat rfl rfl rfl (by simp; omega)) rfl rfl (.none rfl) ?_
          refine G_val (V_fieldAddr rfl rfl (by decide)) rfl rfl (.none rfl) ?_
          refine G_val (V_load rfl rfl (Cell.own (.head _) rfl)) rfl rfl (.none rfl) ?_
          refine G_callv (k := 47) (.mk rfl rfl rfl rfl) rfl rfl (.none rfl) (decimalR1_call _ _ _ (by assumption)) ?_
          refine G_val (V_cat rfl rfl rfl (by simp; omega)) rfl rfl (.none rfl) ?_
          refine G_val (V_assign rfl rfl) rfl rfl (.none rfl) ?_
          refine G_end (X_block (X_then (G_seq (G_region ?_))))
          refine G_val (V_move rfl rfl) rfl rfl (.none rfl) ?_
          refine G_val (V_cat rfl rfl rfl (by simp; omega)) rfl rfl (.none rfl) ?_
          refine G_val (V_assign rfl rfl) rfl rfl (.none rfl) ?_
          refine G_val (V_assign rfl rfl) rfl rfl (.none rfl) ?_
          refine G_end (X_then (G_ret ?_))
          refine G_leaveS (.drop _ (.nil _)) (by exact (.cons (.tmp rfl) (.cons (.tmp rfl) (.nil)))) rfl ?_ ?_
          · exact hE5
          exact ⟨rfl, rfl⟩
        · by_cases d2 : m < 100
          · refine G_seq ?_
            refine G_region ?_
            (refine G_boxA rfl rfl rfl rfl (.none rfl) ?_; intro b1)
            refine G_val (V_assign rfl rfl) rfl rfl (.none rfl) ?_
            refine G_val (V_assign rfl rfl) rfl rfl (.none rfl) ?_
            refine G_end (X_then (G_seq (G_seq (G_region ?_))))
            refine G_val (V_loadA rfl rfl (Cells.own (.head _)) rfl) rfl rfl (.none rfl) ?_
            refine G_callv (k := 31) (.mk rfl rfl rfl rfl) rfl rfl (.none rfl) (CheckR_call _ _ _ _ _) ?_
            refine G_val (V_assign rfl rfl) rfl rfl (.none rfl) ?_
            refine G_end (X_then (G_seq (G_region ?_)))
            refine G_val (V_move rfl rfl) rfl rfl (.none rfl) ?_
            refine G_val (V_neq rfl rfl rfl) rfl rfl (.none rfl) ?_
            refine G_end (X_then ?_)
            refine G_cond_f rfl (decide_eq_false (by omega)) ?_
            refine G_skip (X_then (G_seq ?_))
            refine G_drawX 6 [(1, 0), (2, 1), (0, 3), (3, 1), (4, 1), (5, 0)] mixed (by kernel_rfl) ?_
            refine F_pure rfl (fun _ _ => V_fieldAddr rfl rfl (by decide)) rfl rfl (.none rfl) ?_
            refine F_load rfl (.head _) (V_load rfl rfl (Cell.own (.head _) rfl)) rfl rfl (.none rfl) ?_
            apply F_call (k := 43) rfl (.mk rfl rfl rfl rfl) rfl rfl (.none rfl)
            · (intro L0; refine CallS.mono (namesR_call _ _) ?_; exact fun _ _ _ _ h => h)
            · (rintro L0 r E' L' ⟨z1, ⟨rfl, ⟨Z2, rfl⟩⟩⟩; exact ⟨rfl, ⟨_, ⟨rfl, ⟨(by assumption), rfl⟩⟩⟩⟩)
            rintro r3 E4 hE5 ⟨z6, ⟨rfl, ⟨Z7, _⟩⟩⟩
            refine F_loadE rfl (V_idxAddr rfl rfl rfl (SlE.rd (by assumption)) (by omega) (by omega)) rfl rfl (.none rfl) ?_
            refine F_loadE rfl (V_loadS rfl rfl (SlE.rd (by assumption)) (by assumption) (by simp)) rfl rfl (.none rfl) ?_
            refine F_pure rfl (fun _ _ => V_assign rfl rfl) rfl rfl (.none rfl) ?_
            (refine F_end (.nil _) ?_; dsimp only [List.drop])
            refine G_end (X_then (G_seq (G_seq (G_region ?_))))
            refine G_val (V_fieldAddr rfl rfl (by decide)) rfl rfl (.none rfl) ?_
            refine G_val (V_load rfl rfl (Cell.own (.head _) rfl)) rfl rfl (.none rfl) ?_
            refine G_end (X_then (G_block (G_seq (G_region ?_))))
            refine G_val (V_eql rfl rfl rfl) rfl rfl (.none rfl) ?_
            refine G_val (V_assign rfl rfl) rfl rfl (.none rfl) ?_
            refine G_end (X_then ?_)
            refine G_cond_f rfl (by kernel_rfl) ?_
            refine G_seq (G_region ?_)
            refine G_val (V_eql rfl rfl rfl) rfl rfl (.none rfl) ?_
            refine G_val (V_assign rfl rfl) rfl rfl (.none rfl) ?_
            refine G_end (X_then ?_)
            refine G_cond_t rfl (by kernel_rfl) ?_
            refine G_region ?_
            refine G_val (V_move rfl rfl) rfl rfl (.none rfl) ?_
            refine G_val (V_cat rfl rfl rfl (by simp; omega)) rfl rfl (.none rfl) ?_
            refine G_val (V_fieldAddr rfl rfl (by decide)) rfl rfl (.none rfl) ?_
            refine G_val (V_load rfl rfl (Cell.own (.head _) rfl)) rfl rfl (.none rfl) ?_
            refine G_callv (k := 47) (.mk rfl rfl rfl rfl) rfl rfl (.none rfl) (decimalR2_call _ _ _ (by assumption) (by assumption)) ?_
            refine G_val (V_cat rfl rfl rfl (by simp; omega)) rfl rfl (.none rfl) ?_
            refine G_val (V_assign rfl rfl) rfl rfl (.none rfl) ?_
            refine G_end (X_block (X_then (G_seq (G_region ?_))))
            refine G_val (V_move rfl rfl) rfl rfl (.none rfl) ?_
            refine G_val (V_cat rfl rfl rfl (by simp; omega)) rfl rfl (.none rfl) ?_
            refine G_val (V_assign rfl rfl) rfl rfl (.none rfl) ?_
            refine G_val (V_assign rfl rfl) rfl rfl (.none rfl) ?_
            refine G_end (X_then (G_ret ?_))
            refine G_leaveS (.drop _ (.nil _)) (by exact (.cons (.tmp rfl) (.cons (.tmp rfl) (.nil)))) rfl ?_ ?_
            · exact hE5
            exact ⟨rfl, rfl⟩
          · refine G_seq ?_
            refine G_region ?_
            (refine G_boxA rfl rfl rfl rfl (.none rfl) ?_; intro b1)
            refine G_val (V_assign rfl rfl) rfl rfl (.none rfl) ?_
            refine G_val (V_assign rfl rfl) rfl rfl (.none rfl) ?_
            refine G_end (X_then (G_seq (G_seq (G_region ?_))))
            refine G_val (V_loadA rfl rfl (Cells.own (.head _)) rfl) rfl rfl (.none rfl) ?_
            refine G_callv (k := 31) (.mk rfl rfl rfl rfl) rfl rfl (.none rfl) (CheckR_call _ _ _ _ _) ?_
            refine G_val (V_assign rfl rfl) rfl rfl (.none rfl) ?_
            refine G_end (X_then (G_seq (G_region ?_)))
            refine G_val (V_move rfl rfl) rfl rfl (.none rfl) ?_
            refine G_val (V_neq rfl rfl rfl) rfl rfl (.none rfl) ?_
            refine G_end (X_then ?_)
            refine G_cond_f rfl (decide_eq_false (by omega)) ?_
            refine G_skip (X_then (G_seq ?_))
            refine G_drawX 6 [(1, 0), (2, 1), (0, 3), (3, 1), (4, 1), (5, 0)] mixed (by kernel_rfl) ?_
            refine F_pure rfl (fun _ _ => V_fieldAddr rfl rfl (by decide)) rfl rfl (.none rfl) ?_
            refine F_load rfl (.head _) (V_load rfl rfl (Cell.own (.head _) rfl)) rfl rfl (.none rfl) ?_
            apply F_call (k := 43) rfl (.mk rfl rfl rfl rfl) rfl rfl (.none rfl)
            · (intro L0; refine CallS.mono (namesR_call _ _) ?_; exact fun _ _ _ _ h => h)
            · (rintro L0 r E' L' ⟨z1, ⟨rfl, ⟨Z2, rfl⟩⟩⟩; exact ⟨rfl, ⟨_, ⟨rfl, ⟨(by assumption), rfl⟩⟩⟩⟩)
            rintro r3 E4 hE5 ⟨z6, ⟨rfl, ⟨Z7, _⟩⟩⟩
            refine F_loadE rfl (V_idxAddr rfl rfl rfl (SlE.rd (by assumption)) (by omega) (by omega)) rfl rfl (.none rfl) ?_
            refine F_loadE rfl (V_loadS rfl rfl (SlE.rd (by assumption)) (by assumption) (by simp)) rfl rfl (.none rfl) ?_
            refine F_pure rfl (fun _ _ => V_assign rfl rfl) rfl rfl (.none rfl) ?_
            (refine F_end (.nil _) ?_; dsimp only [List.drop])
            refine G_end (X_then (G_seq (G_seq (G_region ?_))))
            refine G_val (V_fieldAddr rfl rfl (by decide)) rfl rfl (.none rfl) ?_
            refine G_val (V_load rfl rfl (Cell.own (.head _) rfl)) rfl rfl (.none rfl) ?_
            refine G_end (X_then (G_block (G_seq (G_region ?_))))
            refine G_val (V_eql rfl rfl rfl) rfl rfl (.none rfl) ?_
            refine G_val (V_assign rfl rfl) rfl rfl (.none rfl) ?_
            refine G_end (X_then ?_)
            refine G_cond_f rfl (by kernel_rfl) ?_
            refine G_seq (G_region ?_)
            refine G_val (V_eql rfl rfl rfl) rfl rfl (.none rfl) ?_
            refine G_val (V_assign rfl rfl) rfl rfl (.none rfl) ?_
            refine G_end (X_then ?_)
            refine G_cond_t rfl (by kernel_rfl) ?_
            refine G_region ?_
            refine G_val (V_move rfl rfl) rfl rfl (.none rfl) ?_
            refine G_val (V_cat rfl rfl rfl (by simp; omega)) rfl rfl (.none rfl) ?_
            refine G_val (V_fieldAddr rfl rfl (by decide)) rfl rfl (.none rfl) ?_
            refine G_val (V_load rfl rfl (Cell.own (.head _) rfl)) rfl rfl (.none rfl) ?_
            refine G_callv (k := 47) (.mk rfl rfl rfl rfl) rfl rfl (.none rfl) (decimalR3_call _ _ _ (by omega) (by assumption)) ?_
            refine G_val (V_cat rfl rfl rfl (by simp; omega)) rfl rfl (.none rfl) ?_
            refine G_val (V_assign rfl rfl) rfl rfl (.none rfl) ?_
            refine G_end (X_block (X_then (G_seq (G_region ?_))))
            refine G_val (V_move rfl rfl) rfl rfl (.none rfl) ?_
            refine G_val (V_cat rfl rfl rfl (by simp; omega)) rfl rfl (.none rfl) ?_
            refine G_val (V_assign rfl rfl) rfl rfl (.none rfl) ?_
            refine G_val (V_assign rfl rfl) rfl rfl (.none rfl) ?_
            refine G_end (X_then (G_ret ?_))
            refine G_leaveS (.drop _ (.nil _)) (by exact (.cons (.tmp rfl) (.cons (.tmp rfl) (.nil)))) rfl ?_ ?_
            · exact hE5
            exact ⟨rfl, rfl⟩
      · have e : lineT ⟨k, n, t⟩ = nameM k ++ [10] := by rw [lineT]; simp [h1, h3]
        rw [e]
        refine G_seq (G_region ?_)
        (refine G_boxA rfl rfl rfl rfl (.none rfl) ?_; intro b1)
        refine G_val (V_assign rfl rfl) rfl rfl (.none rfl) ?_
        refine G_val (V_assign rfl rfl) rfl rfl (.none rfl) ?_
        refine G_end (X_then (G_seq (G_seq (G_region ?_))))
        refine G_val (V_loadA rfl rfl (Cells.own (.head _)) rfl) rfl rfl (.none rfl) ?_
        refine G_callv (k := 31) (.mk rfl rfl rfl rfl) rfl rfl (.none rfl) (CheckR_call _ _ _ _ _) ?_
        refine G_val (V_assign rfl rfl) rfl rfl (.none rfl) ?_
        refine G_end (X_then (G_seq (G_region ?_)))
        refine G_val (V_move rfl rfl) rfl rfl (.none rfl) ?_
        refine G_val (V_neq rfl rfl rfl) rfl rfl (.none rfl) ?_
        refine G_end (X_then ?_)
        refine G_cond_f rfl (decide_eq_false (by omega)) ?_
        refine G_skip (X_then (G_seq ?_))
        refine G_drawX 6 [(1, 0), (2, 1), (0, 3), (3, 1), (4, 1), (5, 0)] mixed (by kernel_rfl) ?_
        refine F_pure rfl (fun _ _ => V_fieldAddr rfl rfl (by decide)) rfl rfl (.none rfl) ?_
        refine F_load rfl (.head _) (V_load rfl rfl (Cell.own (.head _) rfl)) rfl rfl (.none rfl) ?_
        apply F_call (k := 43) rfl (.mk rfl rfl rfl rfl) rfl rfl (.none rfl)
        · (intro L0; refine CallS.mono (namesR_call _ _) ?_; exact fun _ _ _ _ h => h)
        · (rintro L0 r E' L' ⟨z1, ⟨rfl, ⟨Z2, rfl⟩⟩⟩; exact ⟨rfl, ⟨_, ⟨rfl, ⟨(by assumption), rfl⟩⟩⟩⟩)
        rintro r3 E4 hE5 ⟨z6, ⟨rfl, ⟨Z7, _⟩⟩⟩
        refine F_loadE rfl (V_idxAddr rfl rfl rfl (SlE.rd (by assumption)) (by omega) (by omega)) rfl rfl (.none rfl) ?_
        refine F_loadE rfl (V_loadS rfl rfl (SlE.rd (by assumption)) (by assumption) (by simp)) rfl rfl (.none rfl) ?_
        refine F_pure rfl (fun _ _ => V_assign rfl rfl) rfl rfl (.none rfl) ?_
        (refine F_end (.nil _) ?_; dsimp only [List.drop])
        refine G_end (X_then (G_seq (G_seq (G_region ?_))))
        refine G_val (V_fieldAddr rfl rfl (by decide)) rfl rfl (.none rfl) ?_
        refine G_val (V_load rfl rfl (Cell.own (.head _) rfl)) rfl rfl (.none rfl) ?_
        refine G_end (X_then (G_block (G_seq (G_region ?_))))
        refine G_val (V_eql rfl rfl rfl) rfl rfl (.none rfl) ?_
        refine G_val (V_assign rfl rfl) rfl rfl (.none rfl) ?_
        refine G_end (X_then ?_)
        refine G_cond_f rfl (decide_eq_false (by omega)) ?_
        refine G_seq (G_region ?_)
        refine G_val (V_eql rfl rfl rfl) rfl rfl (.none rfl) ?_
        refine G_val (V_assign rfl rfl) rfl rfl (.none rfl) ?_
        refine G_end (X_then ?_)
        refine G_cond_f rfl (decide_eq_false (by omega)) ?_
        refine G_skip (X_block (X_then (G_seq (G_region ?_))))
        refine G_val (V_move rfl rfl) rfl rfl (.none rfl) ?_
        refine G_val (V_cat rfl rfl rfl (by simp; omega)) rfl rfl (.none rfl) ?_
        refine G_val (V_assign rfl rfl) rfl rfl (.none rfl) ?_
        refine G_val (V_assign rfl rfl) rfl rfl (.none rfl) ?_
        refine G_end (X_then (G_ret ?_))
        refine G_leaveS (.drop _ (.nil _)) (by exact (.cons (.tmp rfl) (.cons (.tmp rfl) (.nil)))) rfl ?_ ?_
        · exact hE5
        exact ⟨rfl, rfl⟩
  · rw [lineR, if_neg h]
    refine G_seq (G_region ?_)
    (refine G_boxA rfl rfl rfl rfl (.none rfl) ?_; intro b1)
    refine G_val (V_assign rfl rfl) rfl rfl (.none rfl) ?_
    refine G_val (V_assign rfl rfl) rfl rfl (.none rfl) ?_
    refine G_end (X_then (G_seq (G_seq (G_region ?_))))
    refine G_val (V_loadA rfl rfl (Cells.own (.head _)) rfl) rfl rfl (.none rfl) ?_
    refine G_callv (k := 31) (.mk rfl rfl rfl rfl) rfl rfl (.none rfl) (CheckR_call _ _ _ _ _) ?_
    refine G_val (V_assign rfl rfl) rfl rfl (.none rfl) ?_
    refine G_end (X_then (G_seq (G_region ?_)))
    refine G_val (V_move rfl rfl) rfl rfl (.none rfl) ?_
    refine G_val (V_neq rfl rfl rfl) rfl rfl (.none rfl) ?_
    refine G_end (X_then ?_)
    refine G_cond_t rfl (decide_eq_true (by omega)) ?_
    refine G_seq (G_region ?_)
    refine G_val (V_move rfl rfl) rfl rfl (.none rfl) ?_
    refine G_val (V_assign rfl rfl) rfl rfl (.none rfl) ?_
    refine G_val (V_assign rfl rfl) rfl rfl (.none rfl) ?_
    refine G_end (X_then (G_ret (X_then_ret ?_)))
    refine G_leaveS (.drop _ (.nil _)) (by exact (.cons (.tmp rfl) (.cons (.tmp rfl) (.nil)))) rfl ?_ ?_
    · exact (.refl _)
    exact ⟨rfl, rfl⟩
end
end Go.Proofs.YtpkingbclcalkaaDoor
