/-
  Rules and contracts, packed: B8, B9, B10, B11, B12, B13.
-/
import Derived.Test.YtimiokmgnclggaaGreatQ10
set_option maxHeartbeats 1000000
set_option linter.unusedSimpArgs false
set_option linter.unusedVariables false
set_option maxHeartbeats 2000000
set_option maxRecDepth 20000
namespace Go.Proofs.YtimiokmgnclggaaGreat
open Go.RowKit
/-! The reader of the reference: what stands before the rules. -/
def toksF : Nat → List Tok → Nat → Option (List (List UInt8) × Nat)
  | 0, _, _ => none
  | f + 1, l, at' =>
    match l[at']? with
    | none => none
    | some t =>
      if t.sym = 1 ∧ smallB t.text = true ∧ t.text.length ≤ 1000 then
        match l[at' + 1]? with
        | none => none
        | some y => if y.sym = 3 ∧ y.text = [44] then (toksF f l (at' + 2)).map fun r => (t.text :: r.1, r.2) else some ([t.text], at' + 1)
      else none
theorem toksF_step {f : Nat} {l : List Tok} {at' : Nat} {ts : List (List UInt8)} {e : Nat} (h : toksF (f + 1) l at' = some (ts, e)) :
    ∃ s p y, l[at']? = some ⟨1, s, p⟩ ∧ smallB s = true ∧ s.length ≤ 1000 ∧ l[at' + 1]? = some y ∧
      ((y.sym = 3 ∧ y.text = [44] ∧ ∃ ts', ts = s :: ts' ∧ toksF f l (at' + 2) = some (ts', e)) ∨ (¬ (y.sym = 3 ∧ y.text = [44]) ∧ ts = [s] ∧ e = at' + 1)) := by
  simp only [toksF] at h
  split at h
  · cases h
  · rename_i t ht
    obtain ⟨ty, s, p⟩ := t
    split at h
    · rename_i h1
      obtain ⟨rfl, h2, h3⟩ := h1
      split at h
      · cases h
      · rename_i y hy
        refine ⟨s, p, y, ht, h2, h3, hy, ?_⟩
        split at h
        · rename_i h4
          obtain ⟨⟨ts', e'⟩, h5, h6⟩ := Option.map_eq_some_iff.1 h
          cases h6
          exact .inl ⟨h4.1, h4.2, ts', rfl, h5⟩
        · rename_i h4
          cases h
          exact .inr ⟨h4, rfl, rfl⟩
    · cases h
section
variable (E : Env) (L : List Res) (r : Nat) (txt : List UInt8) (lp : Option Addr) (ln lc : Nat) (rp : Option Addr) (rn rc : Nat)
variable (l : List Tok) (hl : SlE E 3 lp ln (toks l)) (hn : ln ≤ 1000000)
include hl hn
theorem head8_call (d : UInt8) (p0 p1 p2 p3 p4 p5 p6 p7 p8 p9 p10 : Int) (x0 : l[0]? = some ⟨1, [108, 111, 111, 107, 97, 104, 101, 97, 100], p0⟩) (x1 : l[1]? = some ⟨2, [d], p1⟩) (h1 : 49 ≤ d.toNat) (h2 : d.toNat ≤ 52) (hp : 0 ≤ p1)
    (x2 : l[2]? = some ⟨3, [59], p2⟩) (x3 : l[3]? = some ⟨1, [116, 111, 107, 101, 110], p3⟩) (f : Nat) (ts : List (List UInt8)) (e : Nat) (ht : toksF f l 4 = some (ts, e)) (hnd : ts.Nodup) (h8 : ts.length ≤ 8)
    (x4 : l[e]? = some ⟨3, [59], p4⟩) (x5 : l[e + 1]? = some ⟨1, [115, 101, 112, 97, 114, 97, 116, 111, 114], p5⟩) (sep : List UInt8) (x6 : l[e + 1 + 1]? = some ⟨1, sep, p6⟩) (hs : smallB sep = true) (hs2 : sep.length ≤ 1000) (hs3 : sep ∉ ts) (x7 : l[e + 1 + 1 + 1]? = some ⟨3, [59], p7⟩)
    (x8 : l[e + 1 + 1 + 1 + 1]? = some ⟨1, [115, 116, 97, 114, 116], p8⟩) (st : List UInt8) (x9 : l[e + 1 + 1 + 1 + 1 + 1]? = some ⟨1, st, p9⟩) (hc : capB st = true) (hc2 : st.length ≤ 1000) (x10 : l[e + 1 + 1 + 1 + 1 + 1 + 1]? = some ⟨3, [59], p10⟩) :
    CallS Tryz.prog 41 #[.pointer (some ⟨r, 0, none⟩)] E (RDB r txt lp ln lc 0 0 0 none 0 0 [] [] rp rn rc :: L)
    (fun v E' L' => ∃ a c, v = .agg #[.int .i64 1, .string (S st), .int .i64 p9] ∧ E = E' ∧
      L' = RDB r txt lp ln lc (e + 1 + 1 + 1 + 1 + 1 + 1 + 1) 0 ((d.toNat : Int) - 48) a ts.length c sep st rp rn rc :: .sl 9 1 a ts.length c (strs ts) :: L) := by
  have hs4 : decide (sep ∈ ts) = false := decide_eq_false hs3
  refine CallS.intro (l := [_]) _ Tryz.func41 rfl Tryz.ntmps41 rfl ?_
  refine G_seq (G_region ?_)
  (refine G_alloc rfl rfl rfl (.none rfl) ?_; intro b2)
  refine G_end (X_then (G_seq (G_region ?_)))
  refine Gm ?_
  refine G.front (.tail _ (.head _ _)) ?_
  refine G_call (k := 69) (.mk rfl rfl rfl rfl) rfl rfl (.none rfl) (must8_call _ _ _ _ _ _ _ _ _ _ _ _ _ _ _ _ _ _ _ (by assumption) (by assumption) _ _ _ (by assumption)) ?_
  rintro r1 E2 L3 hE4 ⟨rfl, ⟨rfl, rfl⟩⟩
  replace hl := hl.mono hE4
  refine G_end (X_then (G_seq (G_region ?_)))
  refine Gm ?_
  refine G_call (k := 70) (.mk rfl rfl rfl rfl) rfl rfl (.none rfl) (take8_call _ _ _ _ _ _ _ _ _ _ _ _ _ _ _ _ _ _ _ (by assumption) (by assumption) _ _ _ (by assumption)) ?_
  rintro r5 E6 L7 hE8 ⟨rfl, ⟨rfl, rfl⟩⟩
  replace hl := hl.mono hE8
  (refine G_alloc rfl rfl rfl (.none rfl) ?_; intro b3)
  refine G_storeA rfl rfl rfl rfl (by simp [Value.oneCell']) rfl (.none rfl) (.head _ _ _) rfl ?_
  refine G_end (X_then (G_seq (G_seq (G_region ?_))))
  refine Gm ?_
  refine G_callv (k := 42) (.mk rfl rfl rfl rfl) rfl rfl (.none rfl) (ok8_call _ _ _ _ _ _ _ _ _ _ _ _ _ _ _ _ _ _ (by exact .tail _ (.head _))) ?_
  refine Gm ?_
  refine Gy (V_fieldAddr rfl rfl (by decide)) ?_
  refine Gy (V_load rfl rfl (Cell.own (.head _) rfl)) ?_
  refine Gy (V_neq rfl rfl rfl) ?_
  refine Gv (V_pick_t rfl rfl rfl) ?_
  refine G_end (X_then ?_)
  refine G_cond_f rfl (by kernel_rfl) ?_
  refine G_skip (X_then (G_seq (G_seq (G_region ?_))))
  refine Gm ?_
  refine G_callv (k := 42) (.mk rfl rfl rfl rfl) rfl rfl (.none rfl) (ok8_call _ _ _ _ _ _ _ _ _ _ _ _ _ _ _ _ _ _ (by exact .tail _ (.head _))) ?_
  refine G_end (X_then ?_)
  refine G_cond_t rfl rfl ?_
  refine G_seq (G_region ?_)
  refine Gv (V_loadA rfl rfl (Cells.own (.head _)) rfl) ?_
  refine G_callv (k := 72) (.mk rfl rfl rfl rfl) rfl rfl (.none rfl) (Number4_call _ _ _ _ (by assumption) (by assumption) (by assumption)) ?_
  refine Gm ?_
  refine Gv (V_extract rfl rfl rfl) ?_
  refine Gv (V_extract rfl rfl rfl) ?_
  refine Ga ?_
  refine Ga ?_
  refine G_end (X_then (G_seq (G_seq (G_region ?_))))
  refine Gm ?_
  refine Gv (V_neq rfl rfl rfl) ?_
  refine G_end (X_then ?_)
  refine G_cond_f rfl (by kernel_rfl) ?_
  refine G_skip (X_then (G_region ?_))
  refine Gm ?_
  refine Gm ?_
  refine Gv (V_nilCheck rfl rfl) ?_
  refine Gv (V_fieldAddr rfl rfl (by decide)) ?_
  refine Gv (V_fieldAddr rfl rfl (by decide)) ?_
  refine G_storeAt rfl rfl rfl rfl rfl rfl (.none rfl) (.tail _ (.head _ _ _)) (Nat.le_of_ble_eq_true rfl) (by simp only [putAll, Nat.zero_add, Nat.reduceAdd, List.setIfInBounds_toArray, List.set_cons_succ, List.set_cons_zero]; rfl) ?_
  refine G_end (X_then (G_seq (G_region ?_)))
  refine Gm ?_
  refine G.front (.tail _ (.head _ _)) ?_
  refine G_call (k := 69) (.mk rfl rfl rfl rfl) rfl rfl (.none rfl) (must8_call _ _ _ _ _ _ _ _ _ _ _ _ _ _ _ _ _ _ _ (by assumption) (by assumption) _ _ _ (by assumption)) ?_
  rintro r9 E10 L11 hE12 ⟨rfl, ⟨rfl, rfl⟩⟩
  replace hl := hl.mono hE12
  refine G_end (X_then (G_seq (G_region ?_)))
  refine Gm ?_
  refine G_call (k := 69) (.mk rfl rfl rfl rfl) rfl rfl (.none rfl) (must8_call _ _ _ _ _ _ _ _ _ _ _ _ _ _ _ _ _ _ _ (by assumption) (by assumption) _ _ _ (by assumption)) ?_
  rintro r13 E14 L15 hE16 ⟨rfl, ⟨rfl, rfl⟩⟩
  replace hl := hl.mono hE16
  refine G_end (X_then (G_seq (G_seq (G_region ?_))))
  refine Ga ?_
  refine G_end (X_then (G_block ?_))
  refine G.nilSl 9 1 ?_
  refine G.front (.tail _ (.head _ _)) ?_
  refine G_loop (α := (Nat × Nat) × List (List UInt8) × Option Addr × Nat × Bool) (fun x => [(0, .pointer (some ⟨r, 0, none⟩)), (2, .pointer (some ⟨b2, 0, none⟩)), (6, .bool x.2.2.2.2)]) (fun _ => E)
    (fun x => RDB r txt lp ln lc x.1.2 0 ((d.toNat : Int) - 48) x.2.2.1 x.2.1.length x.2.2.2.1 [] [] rp rn rc :: .sl 9 1 x.2.2.1 x.2.1.length x.2.2.2.1 (strs x.2.1) :: .blk b3 (.cells #[.int .i64 2, .string (S [d]), .int .i64 p1] 92 (0, 0)) :: .blk b2 (.cells #[.int .i64 0, .string (S []), .int .i64 0] 92 (0, 0)) :: L)
    (fun x => (x.2.2.2.2 = true ∧ ∃ rest, ts = x.2.1 ++ rest ∧ toksF x.1.1 l x.1.2 = some (rest, e)) ∨ (x.2.2.2.2 = false ∧ ts = x.2.1 ∧ x.1.2 = e)) (fun x => 2 * x.1.1 + x.2.2.2.2.toNat)
    ((f, 4), [], none, 0, true) (.inl ⟨rfl, ts, rfl, ht⟩) ⟨rfl, rfl, rfl, trivial⟩ rfl rfl ?_
  rintro ⟨⟨q, pos⟩, out, a, c, again⟩ hcase
  simp only at hcase ⊢
  rcases hcase with ⟨rfl, rest, hts, hq⟩ | ⟨rfl, rfl, rfl⟩
  · cases q with
    | zero => simp [toksF] at hq
    | succ q =>
      obtain ⟨s, p, ⟨ys, yt, yp⟩, w1, w2, w3, w4, w5⟩ := toksF_step hq
      simp only at w5
      have hno : s ∉ out ∧ out.length < 8 := by
        have hl1 := congrArg List.length hts
        rw [hts] at hnd
        have hd := (List.nodup_append.1 hnd).2.2
        rcases w5 with ⟨_, _, ts', h5, _⟩ | ⟨_, h5, _⟩
        · rw [h5] at hl1 hd
          simp only [List.length_append, List.length_cons] at hl1
          exact ⟨fun h => hd s h s (.head _) rfl, by omega⟩
        · rw [h5] at hl1 hd
          simp only [List.length_append, List.length_cons] at hl1
          exact ⟨fun h => hd s h s (.head _) rfl, by omega⟩
      have hno2 : decide (s ∈ out) = false := decide_eq_false hno.1
      have hno3 := hno.2
      have hap : strs out ++ [.string (S s)] = strs (out ++ [s]) := by simp [strs]
      have hll : (out ++ [s]).length = out.length + 1 := by simp
      rcases w5 with ⟨rfl, rfl, ts', h5, h6⟩ | ⟨h4, h5, h6⟩
      · refine G_seq ?_
        refine G_seq (G_region ?_)
        refine Gm ?_
        refine Gm ?_
        refine Gy (V_move rfl rfl) ?_
        refine G_callv (k := 42) (.mk rfl rfl rfl rfl) rfl rfl (.yes rfl rfl rfl rfl) (ok8_call _ _ _ _ _ _ _ _ _ _ _ _ _ _ _ _ _ _ (by exact .head _)) ?_
        refine Gv (V_pick_t rfl rfl rfl) ?_
        refine G_end (X_then ?_)
        refine G_cond_t rfl rfl ?_
        refine G_skip (X_then (G_seq (G_block (G_seq (G_region ?_)))))
        refine Gm ?_
        refine G_callv (k := 74) (.mk rfl rfl rfl rfl) rfl rfl (.none rfl) (peek8_call _ _ _ _ _ _ _ _ _ _ _ _ _ _ _ _ _ _ _ (by assumption) (by assumption) (by exact .head _) _ _ _ (by assumption)) ?_
        refine Gv (V_field rfl rfl rfl) ?_
        refine Ga ?_
        refine G_end (X_then (G_seq (G_region ?_)))
        refine Gm ?_
        refine G_call (k := 75) (.mk rfl rfl rfl rfl) rfl rfl (.none rfl) (nameF_call _ _ _ _ _ _ _ _ _ _ _ _ _ _ _ _ _ _ _ (by assumption) (by assumption) _ _ (by assumption) (by assumption) (by omega)) ?_
        rintro r1 E2 L3 hE5 ⟨rfl, ⟨rfl, rfl⟩⟩
        replace hl := hl.mono hE5
        refine Ga ?_
        refine G_end (X_then (G_seq (G_seq (G_region ?_))))
        refine Gm ?_
        refine Gv (V_nilCheck rfl rfl) ?_
        refine Gv (V_fieldAddr rfl rfl (by decide)) ?_
        refine Gv (V_fieldAddr rfl rfl (by decide)) ?_
        refine Gv (V_load rfl rfl (Cell.own (.head _) rfl)) ?_
        refine Gm ?_
        refine G_callv (k := 76) (.mk rfl rfl rfl rfl) rfl rfl (.none rfl) (has8O_call _ _ _ _ _ _ _ (by exact .tail _ (.head _)) (by omega) (by omega) _) ?_
        refine G_end (X_then ?_)
        refine G_cond_f rfl (by assumption) ?_
        refine G_skip (X_then (G_seq (G_seq (G_region ?_))))
        refine Gm ?_
        refine Gv (V_nilCheck rfl rfl) ?_
        refine Gv (V_fieldAddr rfl rfl (by decide)) ?_
        refine Gv (V_fieldAddr rfl rfl (by decide)) ?_
        refine Gv (V_load rfl rfl (Cell.own (.head _) rfl)) ?_
        refine Gv (V_lenS rfl rfl) ?_
        refine Gv (V_eql rfl rfl rfl) ?_
        refine G_end (X_then ?_)
        refine G_cond_f rfl (decide_eq_false (by omega)) ?_
        refine G_skip (X_then (G_region ?_))
        refine Gm ?_
        refine Gm ?_
        refine Gv (V_nilCheck rfl rfl) ?_
        refine Gv (V_fieldAddr rfl rfl (by decide)) ?_
        refine Gv (V_fieldAddr rfl rfl (by decide)) ?_
        refine Gv (V_load rfl rfl (Cell.own (.head _) rfl)) ?_
        refine Gm ?_
        (refine G_lit1 rfl rfl rfl rfl rfl (.none rfl) ?_; intro b87)
        (refine G_append rfl rfl rfl (Rd.lit (.head _) rfl) (by simp [Value.oneCell']) (by omega) (by omega) rfl rfl (.none rfl) (fun _ _ => (.tail _ (.tail _ (.head _ _ _)))) ?_; intro a88 c88; refine G.rm (.head _ _) ?_)
        refine Gv (V_nilCheck rfl rfl) ?_
        refine Gv (V_fieldAddr rfl rfl (by decide)) ?_
        refine Gv (V_fieldAddr rfl rfl (by decide)) ?_
        refine G_storeAt rfl rfl rfl rfl rfl rfl (.none rfl) (.head _ _ _) (Nat.le_of_ble_eq_true rfl) (by simp only [putAll, Nat.zero_add, Nat.reduceAdd, List.setIfInBounds_toArray, List.set_cons_succ, List.set_cons_zero]; rfl) ?_
        refine G_end (X_block (X_then (G_region ?_)))
        refine Gm ?_
        refine G_call (k := 73) (.mk rfl rfl rfl rfl) rfl rfl (.none rfl) (nextT_call _ _ _ _ _ _ _ _ _ _ _ _ _ _ _ _ _ _ _ (by assumption) (by assumption) _ _ (by assumption)) ?_
        rintro r6 E7 L8 hE9 ⟨rfl, ⟨rfl, rfl⟩⟩
        replace hl := hl.mono hE9
        refine Ga ?_
        refine G_end (X_then ?_)
        rw [hap]
        exact G_again ((q, pos + 2), out ++ [s], a88, c88, true) (.inl ⟨rfl, ts', by rw [hts, h5]; simp, h6⟩) (by simp only [Bool.toNat_true]; omega) ⟨rfl, rfl, rfl, trivial⟩ rfl (by simp only [hll])
      · refine G_seq ?_
        refine G_seq (G_region ?_)
        refine Gm ?_
        refine Gm ?_
        refine Gy (V_move rfl rfl) ?_
        refine G_callv (k := 42) (.mk rfl rfl rfl rfl) rfl rfl (.yes rfl rfl rfl rfl) (ok8_call _ _ _ _ _ _ _ _ _ _ _ _ _ _ _ _ _ _ (by exact .head _)) ?_
        refine Gv (V_pick_t rfl rfl rfl) ?_
        refine G_end (X_then ?_)
        refine G_cond_t rfl rfl ?_
        refine G_skip (X_then (G_seq (G_block (G_seq (G_region ?_)))))
        refine Gm ?_
        refine G_callv (k := 74) (.mk rfl rfl rfl rfl) rfl rfl (.none rfl) (peek8_call _ _ _ _ _ _ _ _ _ _ _ _ _ _ _ _ _ _ _ (by assumption) (by assumption) (by exact .head _) _ _ _ (by assumption)) ?_
        refine Gv (V_field rfl rfl rfl) ?_
        refine Ga ?_
        refine G_end (X_then (G_seq (G_region ?_)))
        refine Gm ?_
        refine G_call (k := 75) (.mk rfl rfl rfl rfl) rfl rfl (.none rfl) (nameF_call _ _ _ _ _ _ _ _ _ _ _ _ _ _ _ _ _ _ _ (by assumption) (by assumption) _ _ (by assumption) (by assumption) (by omega)) ?_
        rintro r1 E2 L3 hE5 ⟨rfl, ⟨rfl, rfl⟩⟩
        replace hl := hl.mono hE5
        refine Ga ?_
        refine G_end (X_then (G_seq (G_seq (G_region ?_))))
        refine Gm ?_
        refine Gv (V_nilCheck rfl rfl) ?_
        refine Gv (V_fieldAddr rfl rfl (by decide)) ?_
        refine Gv (V_fieldAddr rfl rfl (by decide)) ?_
        refine Gv (V_load rfl rfl (Cell.own (.head _) rfl)) ?_
        refine Gm ?_
        refine G_callv (k := 76) (.mk rfl rfl rfl rfl) rfl rfl (.none rfl) (has8O_call _ _ _ _ _ _ _ (by exact .tail _ (.head _)) (by omega) (by omega) _) ?_
        refine G_end (X_then ?_)
        refine G_cond_f rfl (by assumption) ?_
        refine G_skip (X_then (G_seq (G_seq (G_region ?_))))
        refine Gm ?_
        refine Gv (V_nilCheck rfl rfl) ?_
        refine Gv (V_fieldAddr rfl rfl (by decide)) ?_
        refine Gv (V_fieldAddr rfl rfl (by decide)) ?_
        refine Gv (V_load rfl rfl (Cell.own (.head _) rfl)) ?_
        refine Gv (V_lenS rfl rfl) ?_
        refine Gv (V_eql rfl rfl rfl) ?_
        refine G_end (X_then ?_)
        refine G_cond_f rfl (decide_eq_false (by omega)) ?_
        refine G_skip (X_then (G_region ?_))
        refine Gm ?_
        refine Gm ?_
        refine Gv (V_nilCheck rfl rfl) ?_
        refine Gv (V_fieldAddr rfl rfl (by decide)) ?_
        refine Gv (V_fieldAddr rfl rfl (by decide)) ?_
        refine Gv (V_load rfl rfl (Cell.own (.head _) rfl)) ?_
        refine Gm ?_
        (refine G_lit1 rfl rfl rfl rfl rfl (.none rfl) ?_; intro b87)
        (refine G_append rfl rfl rfl (Rd.lit (.head _) rfl) (by simp [Value.oneCell']) (by omega) (by omega) rfl rfl (.none rfl) (fun _ _ => (.tail _ (.tail _ (.head _ _ _)))) ?_; intro a88 c88; refine G.rm (.head _ _) ?_)
        refine Gv (V_nilCheck rfl rfl) ?_
        refine Gv (V_fieldAddr rfl rfl (by decide)) ?_
        refine Gv (V_fieldAddr rfl rfl (by decide)) ?_
        refine G_storeAt rfl rfl rfl rfl rfl rfl (.none rfl) (.head _ _ _) (Nat.le_of_ble_eq_true rfl) (by simp only [putAll, Nat.zero_add, Nat.reduceAdd, List.setIfInBounds_toArray, List.set_cons_succ, List.set_cons_zero]; rfl) ?_
        refine G_end (X_block (X_then (G_region ?_)))
        refine Gm ?_
        refine G_callv (k := 73) (.mk rfl rfl rfl rfl) rfl rfl (.none rfl) (nextF_call _ _ _ _ _ _ _ _ _ _ _ _ _ _ _ _ _ _ _ (by assumption) (by assumption) _ _ _ _ (by assumption) (by assumption)) ?_
        refine Ga ?_
        refine G_end (X_then ?_)
        rw [hap]
        exact G_again ((q, pos + 1), out ++ [s], a88, c88, false) (.inr ⟨rfl, by rw [hts, h5], h6.symm⟩) (by simp only [Bool.toNat_true, Bool.toNat_false]; omega) ⟨rfl, rfl, rfl, trivial⟩ rfl (by simp only [hll])
  · refine G_seq ?_
    refine G_seq (G_region ?_)
    refine Gm ?_
    refine Gm ?_
    refine Gn ?_
    refine Gn ?_
    refine Gv (V_pick_f rfl rfl rfl) ?_
    refine G_end (X_then ?_)
    refine G_cond_f rfl rfl ?_
    refine G_exit (X_then_exit (X_then_exit (X_block_hit (X_then (G_seq (G_region ?_))))))
    refine Gm ?_
    refine G_call (k := 69) (.mk rfl rfl rfl rfl) rfl rfl (.none rfl) (must8_call _ _ _ _ _ _ _ _ _ _ _ _ _ _ _ _ _ _ _ (by assumption) (by assumption) _ _ _ (by assumption)) ?_
    rintro r1 E2 L3 hE5 ⟨rfl, ⟨rfl, rfl⟩⟩
    replace hl := hl.mono hE5
    refine G_end (X_then (G_seq (G_region ?_)))
    refine Gm ?_
    refine G_call (k := 69) (.mk rfl rfl rfl rfl) rfl rfl (.none rfl) (must8_call _ _ _ _ _ _ _ _ _ _ _ _ _ _ _ _ _ _ _ (by assumption) (by assumption) _ _ _ (by assumption)) ?_
    rintro r6 E7 L8 hE9 ⟨rfl, ⟨rfl, rfl⟩⟩
    replace hl := hl.mono hE9
    refine G_end (X_then (G_seq (G_region ?_)))
    refine Gm ?_
    refine G_callv (k := 74) (.mk rfl rfl rfl rfl) rfl rfl (.none rfl) (peek8_call _ _ _ _ _ _ _ _ _ _ _ _ _ _ _ _ _ _ _ (by assumption) (by assumption) (by exact .head _) _ _ _ (by assumption)) ?_
    refine Gv (V_field rfl rfl rfl) ?_
    refine Ga ?_
    refine G_end (X_then (G_seq (G_region ?_)))
    refine Gm ?_
    refine Gm ?_
    refine G_call (k := 75) (.mk rfl rfl rfl rfl) rfl rfl (.none rfl) (nameF_call _ _ _ _ _ _ _ _ _ _ _ _ _ _ _ _ _ _ _ (by assumption) (by assumption) _ _ (by assumption) (by assumption) (by omega)) ?_
    rintro r10 E11 L12 hE13 ⟨rfl, ⟨rfl, rfl⟩⟩
    replace hl := hl.mono hE13
    refine Gv (V_nilCheck rfl rfl) ?_
    refine Gv (V_fieldAddr rfl rfl (by decide)) ?_
    refine Gv (V_fieldAddr rfl rfl (by decide)) ?_
    refine G_storeAt rfl rfl rfl rfl rfl rfl (.none rfl) (.head _ _ _) (Nat.le_of_ble_eq_true rfl) (by simp only [putAll, Nat.zero_add, Nat.reduceAdd, List.setIfInBounds_toArray, List.set_cons_succ, List.set_cons_zero]; rfl) ?_
    refine G_end (X_then (G_seq (G_seq ?_)))
    refine G_draw mixed (by kernel_rfl) ?_
    refine Q_val (V_move rfl rfl) rfl rfl (.none rfl) ?_
    refine Q_val (V_nilCheck rfl rfl) rfl rfl (.none rfl) ?_
    refine Q_val (V_fieldAddr rfl rfl (by decide)) rfl rfl (.none rfl) ?_
    refine Q_val (V_fieldAddr rfl rfl (by decide)) rfl rfl (.none rfl) ?_
    refine Q_val (V_load rfl rfl (Cell.own (.head _) rfl)) rfl rfl (.none rfl) ?_
    refine Q_val (V_move rfl rfl) rfl rfl (.none rfl) ?_
    refine Q_val (V_nilCheck rfl rfl) rfl rfl (.none rfl) ?_
    refine Q_val (V_fieldAddr rfl rfl (by decide)) rfl rfl (.none rfl) ?_
    refine Q_val (V_fieldAddr rfl rfl (by decide)) rfl rfl (.none rfl) ?_
    refine Q_val (V_load rfl rfl (Cell.own (.head _) rfl)) rfl rfl (.none rfl) ?_
    refine Q_callv (k := 76) (.mk rfl rfl rfl rfl) rfl rfl (.none rfl) (has8O_call _ _ _ _ _ _ _ (by exact .tail _ (.head _)) (by omega) (by omega) _) ?_
    refine Q_end ?_
    refine X_then ?_
    refine G_cond_f rfl (decide_eq_false (by omega)) ?_
    refine G_skip (X_then (G_seq (G_region ?_)))
    refine Gm ?_
    refine G_call (k := 69) (.mk rfl rfl rfl rfl) rfl rfl (.none rfl) (must8_call _ _ _ _ _ _ _ _ _ _ _ _ _ _ _ _ _ _ _ (by assumption) (by assumption) _ _ _ (by assumption)) ?_
    rintro r14 E15 L16 hE17 ⟨rfl, ⟨rfl, rfl⟩⟩
    replace hl := hl.mono hE17
    refine G_end (X_then (G_seq (G_region ?_)))
    refine Gm ?_
    refine G_call (k := 69) (.mk rfl rfl rfl rfl) rfl rfl (.none rfl) (must8_call _ _ _ _ _ _ _ _ _ _ _ _ _ _ _ _ _ _ _ (by assumption) (by assumption) _ _ _ (by assumption)) ?_
    rintro r18 E19 L20 hE21 ⟨rfl, ⟨rfl, rfl⟩⟩
    replace hl := hl.mono hE21
    refine G_end (X_then (G_seq (G_region ?_)))
    refine Gm ?_
    refine G_callv (k := 74) (.mk rfl rfl rfl rfl) rfl rfl (.none rfl) (peek8_call _ _ _ _ _ _ _ _ _ _ _ _ _ _ _ _ _ _ _ (by assumption) (by assumption) (by exact .head _) _ _ _ (by assumption)) ?_
    (refine G_alloc rfl rfl rfl (.none rfl) ?_; intro b10)
    refine G_storeA rfl rfl rfl rfl (by simp [Value.oneCell']) rfl (.none rfl) (.head _ _ _) rfl ?_
    refine G_end (X_then (G_seq (G_region ?_)))
    refine Gm ?_
    refine Gm ?_
    refine G.front (.tail _ (.head _ _)) ?_
    refine G_call (k := 75) (.mk rfl rfl rfl rfl) rfl rfl (.none rfl) (nameT_call _ _ _ _ _ _ _ _ _ _ _ _ _ _ _ _ _ _ _ (by assumption) (by assumption) _ _ (by assumption) (by assumption) (by omega)) ?_
    rintro r22 E23 L24 hE25 ⟨rfl, ⟨rfl, rfl⟩⟩
    replace hl := hl.mono hE25
    refine Gv (V_nilCheck rfl rfl) ?_
    refine Gv (V_fieldAddr rfl rfl (by decide)) ?_
    refine Gv (V_fieldAddr rfl rfl (by decide)) ?_
    refine G_storeAt rfl rfl rfl rfl rfl rfl (.none rfl) (.head _ _ _) (Nat.le_of_ble_eq_true rfl) (by simp only [putAll, Nat.zero_add, Nat.reduceAdd, List.setIfInBounds_toArray, List.set_cons_succ, List.set_cons_zero]; rfl) ?_
    refine G_end (X_then (G_seq (G_region ?_)))
    refine Gm ?_
    refine G_call (k := 69) (.mk rfl rfl rfl rfl) rfl rfl (.none rfl) (must8_call _ _ _ _ _ _ _ _ _ _ _ _ _ _ _ _ _ _ _ (by assumption) (by assumption) _ _ _ (by assumption)) ?_
    rintro r26 E27 L28 hE29 ⟨rfl, ⟨rfl, rfl⟩⟩
    replace hl := hl.mono hE29
    refine G_end (X_then (G_seq (G_region ?_)))
    refine Gv (V_loadA rfl rfl (Cells.own (.tail _ (.head _))) rfl) ?_
    refine G_storeA rfl rfl rfl rfl (by simp [Value.oneCell']) rfl (.none rfl) (.tail _ (.tail _ (.tail _ (.tail _ (.head _ _ _))))) rfl ?_
    refine G_end (X_then (G_ret ?_))
    refine G_leaveS (.keep _ (.drop _ (.keep _ (.drop _ (.drop _ (.nil _)))))) (by exact (.cons (.cellA rfl (Cells.own (.tail _ (.tail _ (.tail _ (.tail _ (.head _)))))) rfl) (.nil))) rfl ?_ ?_
    · exact (.refl _)
    exact ⟨_, ⟨_, ⟨rfl, ⟨rfl, rfl⟩⟩⟩⟩
end
end Go.Proofs.YtimiokmgnclggaaGreat
set_option linter.unusedSimpArgs false
set_option linter.unusedVariables false
set_option maxHeartbeats 2000000
set_option maxRecDepth 20000
namespace Go.Proofs.YtimiokmgnclggaaGreat
open Go.RowKit
/-! The reader of the reference: names that are known, the whole text. -/
/-- A word behind the start is no separator, and it is known. -/
def knB (names ts : List (List UInt8)) (sep : List UInt8) (t : Tok) : Bool := decide (t.sym ≠ 1) || (decide (t.text ≠ sep) && (decide (t.text ∈ names) || decide (t.text ∈ ts)))
section
variable (E : Env) (L : List Res) (r : Nat) (txt : List UInt8) (lp : Option Addr) (ln lc : Nat) (at' : Nat) (alts k : Int) (tp : Option Addr) (tn tc : Nat) (sep start : List UInt8) (rp : Option Addr) (rn rc : Nat)
variable (l : List Tok) (hl : SlE E 3 lp ln (toks l)) (hn : ln ≤ 1000000)
include hl hn
theorem known8_call (rs : List RulRow) (ern : rn = rs.length) (h8 : rn ≤ 8) (ts : List (List UInt8)) (etn : tn = ts.length) (ht8 : tn ≤ 8) (st : List UInt8) (p : Int) (frm : Nat) (hst : st ∈ rs.map (·.1)) (hk : ∀ i, frm ≤ i → (h : i < l.length) → knB (rs.map (·.1)) ts sep l[i] = true) (hfl : frm ≤ l.length) :
    CallS Tryz.prog 44 #[.pointer (some ⟨r, 0, none⟩), .agg #[.int .i64 1, .string (S st), .int .i64 p], .int .i64 frm] E (RDB r txt lp ln lc at' alts k tp tn tc sep start rp rn rc :: .sl 101 2 rp rn rc (rulC rs) :: .sl 9 1 tp tn tc (strs ts) :: L)
    (fun v E' L' => v = .tuple #[] ∧ L' = RDB r txt lp ln lc at' alts k tp tn tc sep start rp rn rc :: .sl 101 2 rp rn rc (rulC rs) :: .sl 9 1 tp tn tc (strs ts) :: L) := by
  have en := hl.nT
  have hst2 : decide (st ∈ rs.map (·.1)) = true := decide_eq_true hst
  refine CallS.intro (l := [_, _, _]) _ Tryz.func44 rfl Tryz.ntmps44 rfl ?_
  refine G_seq (G_region ?_)
  (refine G_boxA rfl rfl rfl rfl (.none rfl) ?_; intro b4)
  refine G_end (X_then (G_seq (G_region ?_)))
  refine Gm ?_
  refine Gv (V_nilCheck rfl rfl) ?_
  refine Gv (V_fieldAddr rfl rfl (by decide)) ?_
  refine Gv (V_loadF rfl rfl (.tail _ (.head _)) (by simp only [Nat.zero_add, List.drop_succ_cons, List.drop_zero, List.take_succ_cons, List.take_zero]; rfl) (by rfl)) ?_
  refine G_call (k := 77) (.mk rfl rfl rfl rfl) rfl rfl (.none rfl) (rulesO_call _ _ _ _ _ _ _ _ _ _ _ _ (by exact .tail _ (.tail _ (.head _))) (by omega) (by assumption)) ?_
  rintro r1 E2 L3 hE4 ⟨z5, ⟨z6, ⟨rfl, ⟨Z7, rfl⟩⟩⟩⟩
  replace hl := hl.mono hE4
  refine Ga ?_
  refine G_end (X_then (G_seq (G_seq (G_region ?_))))
  refine Gm ?_
  refine Gv (V_fieldAddr rfl rfl (by decide)) ?_
  refine Gv (V_load rfl rfl (Cell.own (.head _) rfl)) ?_
  refine G_callv (k := 76) (.mk rfl rfl rfl rfl) rfl rfl (.none rfl) (has8S_call _ _ _ _ _ _ (by assumption) (by omega) _) ?_
  refine Gv (V_not rfl rfl) ?_
  refine G_end (X_then ?_)
  refine G_cond_f rfl (by simp [*]; done) ?_
  refine G_skip (X_then (G_seq (G_region ?_)))
  refine Gm ?_
  refine Ga ?_
  refine G_end (X_then (G_block ?_))
  refine G_loop (α := Nat) (fun i => [(0, .pointer (some ⟨r, 0, none⟩)), (6, .slice z5 rn z6), (7, .int .i64 (i : Nat))]) (fun _ => E2)
    (fun _ => .blk b4 (.cells #[.int .i64 1, .string (S st), .int .i64 p] 92 (0, 0)) :: RDB r txt lp ln lc at' alts k tp tn tc sep start rp rn rc :: .sl 101 2 rp rn rc (rulC rs) :: .sl 9 1 tp tn tc (strs ts) :: L)
    (fun i => frm ≤ i ∧ i ≤ l.length) (fun i => l.length - i) frm ⟨Nat.le_refl _, hfl⟩ ⟨rfl, rfl, rfl, trivial⟩ rfl rfl ?_
  rintro i ⟨hi1, hi2⟩
  by_cases hlt : i < l.length
  · have hx := toks_get (List.getElem?_eq_getElem hlt)
    have hki := hk i hi1 hlt
    obtain ⟨⟨ky, kt, kp⟩, hki2⟩ : ∃ t, l[i] = t := ⟨_, rfl⟩
    rw [hki2] at hx hki
    simp only [knB, Bool.or_eq_true, Bool.and_eq_true, decide_eq_true_eq] at hki
    by_cases h1 : ky = 1
    · obtain ⟨h2, h3⟩ := hki.resolve_left (fun h => h h1)
      by_cases h4 : kt ∈ rs.map (·.1)
      · have h5 : decide (kt ∈ rs.map (·.1)) = true := decide_eq_true h4
        refine G_seq (G_seq (G_region ?_))
        refine Gm ?_
        refine Gm ?_
        refine Gv (V_nilCheck rfl rfl) ?_
        refine Gv (V_fieldAddr rfl rfl (by decide)) ?_
        refine Gv (V_load rfl rfl (Cell.own (.tail _ (.head _)) rfl)) ?_
        refine Gv (V_lenS rfl rfl) ?_
        refine Gv (V_lss rfl rfl rfl) ?_
        refine G_end (X_then ?_)
        refine G_cond_t rfl (decide_eq_true (by omega)) ?_
        refine G_skip (X_then (G_seq (G_block (G_seq (G_region ?_)))))
        refine Gm ?_
        refine Gv (V_nilCheck rfl rfl) ?_
        refine Gv (V_fieldAddr rfl rfl (by decide)) ?_
        refine Gv (V_load rfl rfl (Cell.own (.tail _ (.head _)) rfl)) ?_
        refine Gm ?_
        refine Gv (V_idxAddr rfl rfl rfl (SlE.rd (by assumption)) (by omega) (by omega)) ?_
        refine Gv (V_loadAS rfl rfl (SlE.rd (by assumption)) (by assumption) (by simp) (by rfl)) ?_
        (refine G_alloc rfl rfl rfl (.none rfl) ?_; intro b8)
        refine G_storeA rfl rfl rfl rfl (by simp [Value.oneCell']) rfl (.none rfl) (.head _ _ _) rfl ?_
        refine G_end (X_then (G_block (G_seq (G_region ?_))))
        refine Gv (V_fieldAddr rfl rfl (by decide)) ?_
        refine Gv (V_load rfl rfl (Cell.own (.head _) rfl)) ?_
        refine Gv (V_neq rfl rfl rfl) ?_
        refine Ga ?_
        refine G_end (X_then ?_)
        refine G_cond_f rfl (by simp [*]; done) ?_
        refine G_seq ?_
        refine G_draw mixed (by kernel_rfl) ?_
        refine Q_val (V_fieldAddr rfl rfl (by decide)) rfl rfl (.none rfl) ?_
        refine Q_val (V_load rfl rfl (Cell.own (.head _) rfl)) rfl rfl (.none rfl) ?_
        refine Q_val (V_move rfl rfl) rfl rfl (.none rfl) ?_
        refine Q_val (V_nilCheck rfl rfl) rfl rfl (.none rfl) ?_
        refine Q_val (V_fieldAddr rfl rfl (by decide)) rfl rfl (.none rfl) ?_
        refine Q_val (V_fieldAddr rfl rfl (by decide)) rfl rfl (.none rfl) ?_
        refine Q_val (V_load rfl rfl (Cell.own (.tail _ (.tail _ (.head _))) rfl)) rfl rfl (.none rfl) ?_
        refine Q_val (V_seql rfl rfl rfl) rfl rfl (.none rfl) ?_
        refine Q_val (V_assign rfl rfl) rfl rfl (.none rfl) ?_
        refine Q_end ?_
        refine X_then ?_
        refine G_cond_f rfl (decide_eq_false (by omega)) ?_
        refine G_seq ?_
        refine G_draw mixed (by kernel_rfl) ?_
        refine Q_val (V_move rfl rfl) rfl rfl (.none rfl) ?_
        refine Q_val (V_fieldAddr rfl rfl (by decide)) rfl rfl (.none rfl) ?_
        refine Q_val (V_load rfl rfl (Cell.own (.head _) rfl)) rfl rfl (.none rfl) ?_
        refine Q_callv (k := 76) (.mk rfl rfl rfl rfl) rfl rfl (.none rfl) (has8S_call _ _ _ _ _ _ (by assumption) (by omega) _) ?_
        refine Q_val (V_not rfl rfl) rfl rfl (.none rfl) ?_
        refine Q_val (V_move rfl rfl) rfl rfl (.none rfl) ?_
        refine Q_bool_f 63 rfl (by simp [*]; done) ?_
        refine Q_stay (.no rfl rfl rfl rfl) rfl rfl ?_
        refine Q_stay (.no rfl rfl rfl rfl) rfl rfl ?_
        refine Q_stay (.no rfl rfl rfl rfl) rfl rfl ?_
        refine Q_stay (.no rfl rfl rfl rfl) rfl rfl ?_
        refine Q_stay (.no rfl rfl rfl rfl) rfl rfl ?_
        refine Q_stay (.no rfl rfl rfl rfl) rfl rfl ?_
        refine Q_stay (.no rfl rfl rfl rfl) rfl rfl ?_
        refine Q_stay (.no rfl rfl rfl rfl) rfl rfl ?_
        refine Q_stay (.no rfl rfl rfl rfl) rfl rfl ?_
        refine Q_val (V_pick_f rfl rfl rfl) rfl rfl (.none rfl) ?_
        refine Q_val (V_assign rfl rfl) rfl rfl (.none rfl) ?_
        refine Q_end ?_
        refine X_then ?_
        refine G_cond_f rfl rfl ?_
        refine G_skip (X_block (X_block (X_then (G_region ?_))))
        refine Gm ?_
        refine Gv (V_add_i64 rfl rfl rfl (by omega) (by omega)) ?_
        refine Ga ?_
        refine G_end (X_then ?_)
        refine G.drop ?_
        exact G_again (i + 1) ⟨by omega, hlt⟩ (by omega) ⟨rfl, rfl, rfl, trivial⟩ rfl rfl
      · have h5 : decide (kt ∈ rs.map (·.1)) = false := decide_eq_false h4
        have h6 : decide (kt ∈ ts) = true := decide_eq_true (h3.resolve_left h4)
        refine G_seq (G_seq (G_region ?_))
        refine Gm ?_
        refine Gm ?_
        refine Gv (V_nilCheck rfl rfl) ?_
        refine Gv (V_fieldAddr rfl rfl (by decide)) ?_
        refine Gv (V_load rfl rfl (Cell.own (.tail _ (.head _)) rfl)) ?_
        refine Gv (V_lenS rfl rfl) ?_
        refine Gv (V_lss rfl rfl rfl) ?_
        refine G_end (X_then ?_)
        refine G_cond_t rfl (decide_eq_true (by omega)) ?_
        refine G_skip (X_then (G_seq (G_block (G_seq (G_region ?_)))))
        refine Gm ?_
        refine Gv (V_nilCheck rfl rfl) ?_
        refine Gv (V_fieldAddr rfl rfl (by decide)) ?_
        refine Gv (V_load rfl rfl (Cell.own (.tail _ (.head _)) rfl)) ?_
        refine Gm ?_
        refine Gv (V_idxAddr rfl rfl rfl (SlE.rd (by assumption)) (by omega) (by omega)) ?_
        refine Gv (V_loadAS rfl rfl (SlE.rd (by assumption)) (by assumption) (by simp) (by rfl)) ?_
        (refine G_alloc rfl rfl rfl (.none rfl) ?_; intro b8)
        refine G_storeA rfl rfl rfl rfl (by simp [Value.oneCell']) rfl (.none rfl) (.head _ _ _) rfl ?_
        refine G_end (X_then (G_block (G_seq (G_region ?_))))
        refine Gv (V_fieldAddr rfl rfl (by decide)) ?_
        refine Gv (V_load rfl rfl (Cell.own (.head _) rfl)) ?_
        refine Gv (V_neq rfl rfl rfl) ?_
        refine Ga ?_
        refine G_end (X_then ?_)
        refine G_cond_f rfl (by simp [*]; done) ?_
        refine G_seq ?_
        refine G_draw mixed (by kernel_rfl) ?_
        refine Q_val (V_fieldAddr rfl rfl (by decide)) rfl rfl (.none rfl) ?_
        refine Q_val (V_load rfl rfl (Cell.own (.head _) rfl)) rfl rfl (.none rfl) ?_
        refine Q_val (V_move rfl rfl) rfl rfl (.none rfl) ?_
        refine Q_val (V_nilCheck rfl rfl) rfl rfl (.none rfl) ?_
        refine Q_val (V_fieldAddr rfl rfl (by decide)) rfl rfl (.none rfl) ?_
        refine Q_val (V_fieldAddr rfl rfl (by decide)) rfl rfl (.none rfl) ?_
        refine Q_val (V_load rfl rfl (Cell.own (.tail _ (.tail _ (.head _))) rfl)) rfl rfl (.none rfl) ?_
        refine Q_val (V_seql rfl rfl rfl) rfl rfl (.none rfl) ?_
        refine Q_val (V_assign rfl rfl) rfl rfl (.none rfl) ?_
        refine Q_end ?_
        refine X_then ?_
        refine G_cond_f rfl (decide_eq_false (by omega)) ?_
        refine G_seq ?_
        refine G_draw mixed (by kernel_rfl) ?_
        refine Q_val (V_move rfl rfl) rfl rfl (.none rfl) ?_
        refine Q_val (V_fieldAddr rfl rfl (by decide)) rfl rfl (.none rfl) ?_
        refine Q_val (V_load rfl rfl (Cell.own (.head _) rfl)) rfl rfl (.none rfl) ?_
        refine Q_callv (k := 76) (.mk rfl rfl rfl rfl) rfl rfl (.none rfl) (has8S_call _ _ _ _ _ _ (by assumption) (by omega) _) ?_
        refine Q_val (V_not rfl rfl) rfl rfl (.none rfl) ?_
        refine Q_val (V_move rfl rfl) rfl rfl (.none rfl) ?_
        refine Q_bool_t 63 rfl (by simp [*]; done) ?_
        refine Q_val (V_move rfl rfl) rfl rfl (.yes rfl rfl rfl rfl) ?_
        refine Q_val (V_nilCheck rfl rfl) rfl rfl (.yes rfl rfl rfl rfl) ?_
        refine Q_val (V_fieldAddr rfl rfl (by decide)) rfl rfl (.yes rfl rfl rfl rfl) ?_
        refine Q_val (V_fieldAddr rfl rfl (by decide)) rfl rfl (.yes rfl rfl rfl rfl) ?_
        refine Q_val (V_load rfl rfl (Cell.own (.tail _ (.tail _ (.head _))) rfl)) rfl rfl (.yes rfl rfl rfl rfl) ?_
        refine Q_val (V_fieldAddr rfl rfl (by decide)) rfl rfl (.yes rfl rfl rfl rfl) ?_
        refine Q_val (V_load rfl rfl (Cell.own (.head _) rfl)) rfl rfl (.yes rfl rfl rfl rfl) ?_
        refine Q_callv (k := 76) (.mk rfl rfl rfl rfl) rfl rfl (.yes rfl rfl rfl rfl) (has8O_call _ _ _ _ _ _ _ (by exact .tail _ (.tail _ (.tail _ (.tail _ (.head _))))) (by assumption) (by omega) _) ?_
        refine Q_val (V_not rfl rfl) rfl rfl (.yes rfl rfl rfl rfl) ?_
        refine Q_val (V_pick_t rfl rfl rfl) rfl rfl (.none rfl) ?_
        refine Q_val (V_assign rfl rfl) rfl rfl (.none rfl) ?_
        refine Q_end ?_
        refine X_then ?_
        refine G_cond_f rfl (by simp [*]; done) ?_
        refine G_skip (X_block (X_block (X_then (G_region ?_))))
        refine Gm ?_
        refine Gv (V_add_i64 rfl rfl rfl (by omega) (by omega)) ?_
        refine Ga ?_
        refine G_end (X_then ?_)
        refine G.drop ?_
        exact G_again (i + 1) ⟨by omega, hlt⟩ (by omega) ⟨rfl, rfl, rfl, trivial⟩ rfl rfl
    · refine G_seq ?_
      refine G_seq (G_region ?_)
      refine Gm ?_
      refine Gm ?_
      refine Gv (V_nilCheck rfl rfl) ?_
      refine Gv (V_fieldAddr rfl rfl (by decide)) ?_
      refine Gv (V_load rfl rfl (Cell.own (.tail _ (.head _)) rfl)) ?_
      refine Gv (V_lenS rfl rfl) ?_
      refine Gv (V_lss rfl rfl rfl) ?_
      refine G_end (X_then ?_)
      refine G_cond_t rfl (decide_eq_true (by omega)) ?_
      refine G_skip (X_then (G_seq (G_block (G_seq (G_region ?_)))))
      refine Gm ?_
      refine Gv (V_nilCheck rfl rfl) ?_
      refine Gv (V_fieldAddr rfl rfl (by decide)) ?_
      refine Gv (V_load rfl rfl (Cell.own (.tail _ (.head _)) rfl)) ?_
      refine Gm ?_
      refine Gv (V_idxAddr rfl rfl rfl (SlE.rd (by assumption)) (by omega) (by omega)) ?_
      refine Gv (V_loadAS rfl rfl (SlE.rd (by assumption)) (by assumption) (by simp) (by rfl)) ?_
      (refine G_alloc rfl rfl rfl (.none rfl) ?_; intro b8)
      refine G_storeA rfl rfl rfl rfl (by simp [Value.oneCell']) rfl (.none rfl) (.head _ _ _) rfl ?_
      refine G_end (X_then (G_block (G_seq (G_region ?_))))
      refine Gv (V_fieldAddr rfl rfl (by decide)) ?_
      refine Gv (V_load rfl rfl (Cell.own (.head _) rfl)) ?_
      refine Gv (V_neq rfl rfl rfl) ?_
      refine Ga ?_
      refine G_end (X_then ?_)
      refine G_cond_t rfl (decide_eq_true (by omega)) ?_
      refine G_skip (X_block (X_block (X_then (G_region ?_))))
      refine Gm ?_
      refine Gv (V_add_i64 rfl rfl rfl (by omega) (by omega)) ?_
      refine Ga ?_
      refine G_end (X_then ?_)
      refine G.drop ?_
      exact G_again (i + 1) ⟨by omega, hlt⟩ (by omega) ⟨rfl, rfl, rfl, trivial⟩ rfl rfl
  · refine G.drop ?_
    refine G_seq (G_seq (G_region ?_))
    refine Gm ?_
    refine Gm ?_
    refine Gv (V_nilCheck rfl rfl) ?_
    refine Gv (V_fieldAddr rfl rfl (by decide)) ?_
    refine Gv (V_load rfl rfl (Cell.own (.head _) rfl)) ?_
    refine Gv (V_lenS rfl rfl) ?_
    refine Gv (V_lss rfl rfl rfl) ?_
    refine G_end (X_then ?_)
    refine G_cond_f rfl (decide_eq_false (by omega)) ?_
    refine G_exit (X_then_exit (X_then_exit (X_block_hit ?_)))
    refine G_leaveS_n (.keep _ (.keep _ (.keep _ (.nil _)))) (by exact (.nil)) rfl ?_ ?_
    · exact hE4
    exact ⟨(by kernel_rfl), rfl⟩
end
end Go.Proofs.YtimiokmgnclggaaGreat
set_option linter.unusedSimpArgs false
set_option linter.unusedVariables false
set_option maxHeartbeats 2000000
set_option maxRecDepth 20000
namespace Go.Proofs.YtimiokmgnclggaaGreat
open Go.RowKit
/-! The reader of the reference: a whole text without faults. -/
/-- A grammar text as data. -/
structure Src where
  k : Int
  toks : List (List UInt8)
  sep : List UInt8
  start : List UInt8
  rules : List (List UInt8 × List (List (List UInt8)))
def rulsF : Nat → List Tok → Nat → Option (List (List UInt8 × List (List (List UInt8))))
  | 0, _, _ => none
  | f + 1, l, at' =>
    if at' = l.length then some [] else
    match l[at']?, l[at' + 1]? with
    | some n, some q =>
      if n.sym = 1 ∧ capB n.text = true ∧ n.text.length ≤ 1000 ∧ q.sym = 3 ∧ q.text = [61] then
        match altsF l.length l (at' + 2) with
        | none => none
        | some (als, e) =>
          match l[e]? with
          | some z => if z.sym = 3 ∧ z.text = [59] then (rulsF f l (e + 1)).map ((n.text, als) :: ·) else none
          | none => none
      else none
    | _, _ => none
theorem rulsF_step {f : Nat} {l : List Tok} {at' : Nat} {rs : List (List UInt8 × List (List (List UInt8)))} (h : rulsF (f + 1) l at' = some rs) :
    (at' = l.length ∧ rs = []) ∨ (at' ≠ l.length ∧ ∃ nm p0 p1 p2 als e rs', l[at']? = some ⟨1, nm, p0⟩ ∧ capB nm = true ∧ nm.length ≤ 1000 ∧ l[at' + 1]? = some ⟨3, [61], p1⟩ ∧ altsF l.length l (at' + 2) = some (als, e) ∧ l[e]? = some ⟨3, [59], p2⟩ ∧ rs = (nm, als) :: rs' ∧ rulsF f l (e + 1) = some rs') := by
  simp only [rulsF] at h
  split at h
  · rename_i h1
    exact .inl ⟨h1, (Option.some.inj h).symm⟩
  · rename_i h1
    refine .inr ⟨h1, ?_⟩
    split at h
    · rename_i n q hn hq
      obtain ⟨ny, nm, p0⟩ := n
      obtain ⟨qy, qt, p1⟩ := q
      split at h
      · rename_i h2
        obtain ⟨rfl, h3, h4, rfl, rfl⟩ := h2
        split at h
        · cases h
        · rename_i als e ha
          split at h
          · rename_i z hz
            obtain ⟨zy, zt, p2⟩ := z
            split at h
            · rename_i h5
              obtain ⟨rfl, rfl⟩ := h5
              obtain ⟨rs', h6, rfl⟩ := Option.map_eq_some_iff.1 h
              exact ⟨nm, p0, p1, p2, als, e, rs', hn, h3, h4, hq, ha, hz, rfl, h6⟩
            · cases h
          · cases h
      · cases h
    · cases h
def rulC0 (rs : List RulRow) : List (List UInt8 × List (List (List UInt8))) := rs.map fun x => (x.1, x.2.2.2.map (·.2.2))
/-- The whole text: a Source, if there is no fault. -/
def srcF (l : List Tok) : Option Src :=
  match l with
  | x0 :: x1 :: x2 :: x3 :: _ =>
    match x1.text with
    | [d] =>
      if x0.sym = 1 ∧ x0.text = [108, 111, 111, 107, 97, 104, 101, 97, 100] ∧ x1.sym = 2 ∧ 49 ≤ d.toNat ∧ d.toNat ≤ 52 ∧ 0 ≤ x1.at' ∧ x2.sym = 3 ∧ x2.text = [59] ∧ x3.sym = 1 ∧ x3.text = [116, 111, 107, 101, 110] then
        match toksF l.length l 4 with
        | some (ts, e) =>
          match l[e]?, l[e + 1]?, l[e + 2]?, l[e + 3]?, l[e + 4]?, l[e + 5]?, l[e + 6]? with
          | some y0, some y1, some y2, some y3, some y4, some y5, some y6 =>
            if y0.sym = 3 ∧ y0.text = [59] ∧ y1.sym = 1 ∧ y1.text = [115, 101, 112, 97, 114, 97, 116, 111, 114] ∧ y2.sym = 1 ∧ smallB y2.text = true ∧ y2.text.length ≤ 1000 ∧ y3.sym = 3 ∧ y3.text = [59] ∧ y4.sym = 1 ∧ y4.text = [115, 116, 97, 114, 116] ∧ y5.sym = 1 ∧ capB y5.text = true ∧ y5.text.length ≤ 1000 ∧ y6.sym = 3 ∧ y6.text = [59] then
              match rulsF l.length l (e + 7) with
              | some rs =>
                if ts.Nodup ∧ ts.length ≤ 8 ∧ y2.text ∉ ts ∧ (rs.map Prod.fst).Nodup ∧ rs.length ≤ 8 ∧ 0 < rs.length ∧ (rs.map fun x => x.2.length).sum ≤ 24 ∧ y5.text ∈ rs.map Prod.fst ∧ (l.drop (e + 7)).all (knB (rs.map Prod.fst) ts y2.text) = true then
                  some ⟨(d.toNat : Int) - 48, ts, y2.text, y5.text, rs⟩
                else none
              | none => none
            else none
          | _, _, _, _, _, _, _ => none
        | none => none
      else none
    | _ => none
  | _ => none
end Go.Proofs.YtimiokmgnclggaaGreat
set_option linter.unusedSimpArgs false
set_option linter.unusedVariables false
set_option maxHeartbeats 2000000
set_option maxRecDepth 20000
namespace Go.Proofs.YtimiokmgnclggaaGreat
open Go.RowKit
/-! The reader of the reference: a whole text. -/
structure SrcOk (l : List Tok) (s : Src) (d : UInt8) (e : Nat) (st : Int) : Prop where
  x0 : ∃ p, l[0]? = some ⟨1, [108, 111, 111, 107, 97, 104, 101, 97, 100], p⟩
  x1 : ∃ p, l[1]? = some ⟨2, [d], p⟩ ∧ 0 ≤ p
  d1 : 49 ≤ d.toNat
  d2 : d.toNat ≤ 52
  hk : s.k = (d.toNat : Int) - 48
  x2 : ∃ p, l[2]? = some ⟨3, [59], p⟩
  x3 : ∃ p, l[3]? = some ⟨1, [116, 111, 107, 101, 110], p⟩
  ht : toksF l.length l 4 = some (s.toks, e)
  hnd : s.toks.Nodup
  h8 : s.toks.length ≤ 8
  y0 : ∃ p, l[e]? = some ⟨3, [59], p⟩
  y1 : ∃ p, l[e + 1]? = some ⟨1, [115, 101, 112, 97, 114, 97, 116, 111, 114], p⟩
  y2 : ∃ p, l[e + 1 + 1]? = some ⟨1, s.sep, p⟩
  hs : smallB s.sep = true
  hs2 : s.sep.length ≤ 1000
  hs3 : s.sep ∉ s.toks
  y3 : ∃ p, l[e + 1 + 1 + 1]? = some ⟨3, [59], p⟩
  y4 : ∃ p, l[e + 1 + 1 + 1 + 1]? = some ⟨1, [115, 116, 97, 114, 116], p⟩
  y5 : l[e + 1 + 1 + 1 + 1 + 1]? = some ⟨1, s.start, st⟩
  hc : capB s.start = true
  hc2 : s.start.length ≤ 1000
  y6 : ∃ p, l[e + 1 + 1 + 1 + 1 + 1 + 1]? = some ⟨3, [59], p⟩
  hr : rulsF l.length l (e + 1 + 1 + 1 + 1 + 1 + 1 + 1) = some s.rules
  r1 : (s.rules.map Prod.fst).Nodup
  r2 : s.rules.length ≤ 8
  r3 : 0 < s.rules.length
  r4 : (s.rules.map fun x => x.2.length).sum ≤ 24
  r5 : s.start ∈ s.rules.map Prod.fst
  r6 : (l.drop (e + 1 + 1 + 1 + 1 + 1 + 1 + 1)).all (knB (s.rules.map Prod.fst) s.toks s.sep) = true
theorem srcF_ok {l : List Tok} {s : Src} (h : srcF l = some s) : ∃ d e st, SrcOk l s d e st := by
  unfold srcF at h
  split at h
  · rename_i x0 x1 x2 x3 tl
    obtain ⟨a0, b0, c0⟩ := x0
    obtain ⟨a1, b1, c1⟩ := x1
    obtain ⟨a2, b2, c2⟩ := x2
    obtain ⟨a3, b3, c3⟩ := x3
    split at h
    · rename_i d hd
      simp only at hd
      subst hd
      split at h
      · rename_i q
        simp only at q
        obtain ⟨rfl, rfl, rfl, q1, q2, q3, rfl, rfl, rfl, rfl⟩ := q
        split at h
        · rename_i ts e hts
          split at h
          · rename_i y0 y1 y2 y3 y4 y5 y6 e0 e1 e2 e3 e4 e5 e6
            obtain ⟨f0, g0, k0⟩ := y0
            obtain ⟨f1, g1, k1⟩ := y1
            obtain ⟨f2, g2, k2⟩ := y2
            obtain ⟨f3, g3, k3⟩ := y3
            obtain ⟨f4, g4, k4⟩ := y4
            obtain ⟨f5, g5, k5⟩ := y5
            obtain ⟨f6, g6, k6⟩ := y6
            split at h
            · rename_i w
              simp only at w
              obtain ⟨rfl, rfl, rfl, rfl, rfl, w1, w2, rfl, rfl, rfl, rfl, rfl, w3, w4, rfl, rfl⟩ := w
              split at h
              · rename_i rs hrs
                split at h
                · rename_i v
                  obtain ⟨v1, v2, v3, v4, v5, v6, v7, v8, v9⟩ := v
                  cases h
                  exact ⟨d, e, k5, ⟨_, rfl⟩, ⟨_, rfl, q3⟩, q1, q2, rfl, ⟨_, rfl⟩, ⟨_, rfl⟩, hts, v1, v2, ⟨_, e0⟩, ⟨_, e1⟩, ⟨_, e2⟩, w1, w2, v3, ⟨_, e3⟩, ⟨_, e4⟩, e5, w3, w4, ⟨_, e6⟩, hrs, v4, v5, v6, v7, v8, v9⟩
                · cases h
              · cases h
            · cases h
          · cases h
        · cases h
      · cases h
    · cases h
  · cases h
def SrcE (E : Env) (v : Value) (s : Src) : Prop := ∃ tp tc rp rc rows, v = .agg #[.int .i64 s.k, .slice tp s.toks.length tc, .string (S s.sep), .string (S s.start), .slice rp rows.length rc] ∧ SlE E 1 tp s.toks.length (strs s.toks) ∧ rulC0 rows = s.rules ∧ SlE E 2 rp rows.length (rulC rows) ∧ RulsE E rows
theorem SrcE.mono {E E' : Env} {v : Value} {s : Src} (h : SrcE E v s) (hE : E.Le E') : SrcE E' v s := by
  obtain ⟨tp, tc, rp, rc, rows, h1, h2, h3, h4, h5⟩ := h
  exact ⟨tp, tc, rp, rc, rows, h1, h2.mono hE, h3, h4.mono hE, h5.mono hE⟩
theorem rulC0_fst (rows : List RulRow) : (rulC0 rows).map Prod.fst = rows.map (·.1) := by simp [rulC0]
theorem rulC0_len (rows : List RulRow) : (rulC0 rows).length = rows.length := by simp [rulC0]
section
variable (E : Env) (L : List Res)
theorem Parse8_call (s : List UInt8) (l : List Tok) (f : Nat) (hf : f ≤ 1000000) (hlx : lexF f s 0 = some l) (hn : s.length ≤ 2000) (hr : noRem s = true) (src : Src) (hsrc : srcF l = some src) (hll : l.length ≤ 1000000) : CallS Tryz.prog 19 #[.string (S s)] E L
    (fun r E' L' => ∃ v, r = .tuple #[v, .agg #[.int .i64 0, .int .i64 0]] ∧ SrcE E' v src ∧ L' = L) := by
  obtain ⟨d, e, st, ⟨⟨p0, x0⟩, ⟨p1, x1, hp1⟩, d1, d2, hk, ⟨p2, x2⟩, ⟨p3, x3⟩, ht, hnd, h8, ⟨p4, y0⟩, ⟨p5, y1⟩, ⟨p6, y2⟩, hs, hs2, hs3, ⟨p7, y3⟩, ⟨p8, y4⟩, y5, hc, hc2, ⟨p10, y6⟩, hrl, r1, r2, r3, r4, r5, r6⟩⟩ := srcF_ok hsrc
  refine CallS.intro (l := [_]) _ Tryz.func19 rfl Tryz.ntmps19 rfl ?_
  refine G_seq (G_region ?_)
  (refine G_alloc rfl rfl rfl (.none rfl) ?_; intro b2)
  (refine G_alloc rfl rfl rfl (.none rfl) ?_; intro b3)
  refine G_end (X_then (G_seq (G_region ?_)))
  refine Gm ?_
  refine G_call (k := 40) (.mk rfl rfl rfl rfl) rfl rfl (.none rfl) (Lexemes_call _ _ s l f hf hlx hn hr) ?_
  rintro q1 E1 L1 hE1 ⟨lp, lc, rfl, hl, rfl⟩
  refine Gm ?_
  refine Gv (V_extract rfl rfl rfl) ?_
  refine Gv (V_extract rfl rfl rfl) ?_
  (refine G_alloc rfl rfl rfl (.none rfl) ?_; intro b5)
  refine Ga ?_
  refine G_storeA rfl rfl rfl rfl (by simp [Value.oneCell']) rfl (.none rfl) (.head _ _ _) rfl ?_
  refine G_end (X_then (G_seq (G_seq (G_region ?_))))
  refine Gv (V_fieldAddr rfl rfl (by decide)) ?_
  refine Gv (V_load rfl rfl (Cell.own (.head _) rfl)) ?_
  refine Gv (V_neq rfl rfl rfl) ?_
  refine G_end (X_then ?_)
  refine G_cond_f rfl (by kernel_rfl) ?_
  refine G_skip (X_then (G_seq (G_region ?_)))
  refine Gm ?_
  refine Gm ?_
  refine Gv (V_build rfl rfl (by simp [fillV, setLs, setL, Value.cells]; rfl)) ?_
  (refine G_boxA rfl rfl rfl rfl (.none rfl) ?_; intro b23)
  refine Ga ?_
  refine G_end (X_then (G_seq (G_region ?_)))
  refine Gm ?_
  refine G_call (k := 41) (.mk rfl rfl rfl rfl) rfl rfl (.none rfl) (head8_call _ _ _ _ _ _ _ _ _ _ _ (by assumption) (by assumption) _ _ _ _ _ _ _ _ _ _ _ _ (by assumption) (by assumption) (by assumption) (by assumption) (by assumption) (by assumption) (by assumption) _ _ _ (by assumption) (by assumption) (by assumption) (by assumption) (by assumption) _ (by assumption) (by assumption) (by assumption) (by assumption) (by assumption) (by assumption) _ (by assumption) (by assumption) (by assumption) (by assumption)) ?_
  rintro r7 E8 L9 hE10 ⟨z11, ⟨z12, ⟨rfl, ⟨rfl, rfl⟩⟩⟩⟩
  replace hl := hl.mono hE10
  (refine G_alloc rfl rfl rfl (.none rfl) ?_; intro b7)
  refine G_storeA rfl rfl rfl rfl (by simp [Value.oneCell']) rfl (.none rfl) (.head _ _ _) rfl ?_
  refine G_end (X_then (G_seq (G_region ?_)))
  refine Gm ?_
  refine Gv (V_nilCheck rfl rfl) ?_
  refine Gv (V_fieldAddr rfl rfl (by decide)) ?_
  refine Gv (V_load rfl rfl (Cell.own (.tail _ (.head _)) rfl)) ?_
  refine Ga ?_
  refine G_end (X_then (G_seq (G_seq (G_region ?_))))
  refine Ga ?_
  refine G_end (X_then (G_block ?_))
  refine G.nilSl 101 2 ?_
  refine G.front (.tail _ (.tail _ (.tail _ (.head _ _)))) ?_
  refine G.front (.tail _ (.head _ _)) ?_
  refine G.front (.tail _ (.tail _ (.tail _ (.head _ _)))) ?_
  refine G_loop (α := (Nat × Nat) × List RulRow × Env × Option Addr × Nat × Int × Bool) (fun x => [(2, .pointer (some ⟨b2, 0, none⟩)), (3, .pointer (some ⟨b3, 0, none⟩)), (4, .slice lp l.length lc), (6, .pointer (some ⟨b23, 0, none⟩)), (7, .pointer (some ⟨b7, 0, none⟩)), (8, .int .i64 (e + 1 + 1 + 1 + 1 + 1 + 1 + 1 : Nat)), (9, .bool x.2.2.2.2.2.2)]) (fun x => x.2.2.1)
    (fun x => RDB b23 s lp l.length lc x.1.2 x.2.2.2.2.2.1 ((d.toNat : Int) - 48) z11 src.toks.length z12 src.sep src.start x.2.2.2.1 x.2.1.length x.2.2.2.2.1 :: .sl 101 2 x.2.2.2.1 x.2.1.length x.2.2.2.2.1 (rulC x.2.1) :: .sl 9 1 z11 src.toks.length z12 (strs src.toks) ::
      .blk b7 (.cells #[.int .i64 1, .string (S src.start), .int .i64 st] 92 (0, 0)) :: .blk b5 (.cells #[.int .i64 0, .int .i64 0] 62 (0, 0)) :: .blk b3 (.cells #[.int .i64 0, .int .i64 0] 62 (0, 0)) ::
      .blk b2 (.cells #[.int .i64 0, .slice none 0 0, .string (S []), .string (S []), .slice none 0 0] 60 (0, 0)) :: L)
    (fun x => E1.Le x.2.2.1 ∧ RulsE x.2.2.1 x.2.1 ∧ (∃ rest, src.rules = rulC0 x.2.1 ++ rest ∧ rulsF x.1.1 l x.1.2 = some rest) ∧ x.2.2.2.2.2.1 = ((((rulC0 x.2.1).map fun y => y.2.length).sum : Nat) : Int) ∧ (x.2.2.2.2.2.2 = true → x.2.1 = []) ∧ x.1.2 ≤ l.length) (fun x => x.1.1)
    ((l.length, e + 1 + 1 + 1 + 1 + 1 + 1 + 1), [], E1, none, 0, 0, true) ⟨.refl _, (fun x hx => by cases hx), ⟨src.rules, rfl, hrl⟩, rfl, fun _ => rfl, (List.getElem?_eq_some_iff.1 y6).1⟩ ⟨rfl, rfl, rfl, rfl, rfl, rfl, rfl, trivial⟩ rfl rfl ?_
  rintro ⟨⟨q, pos⟩, rows, E0, rp, rc, al, first⟩ ⟨hE, hrw, ⟨rest, hrs, hq⟩, hal, hfi, hpl⟩
  simp only at hE hrw hrs hq hal hfi hpl ⊢
  replace hl := hl.mono hE
  have hlr := congrArg List.length hrs
  rw [List.length_append, rulC0_len] at hlr
  cases q with
  | zero => simp [rulsF] at hq
  | succ q =>
    rcases rulsF_step hq with ⟨hpe, rfl⟩ | ⟨hne, nm, w0, w1, w2, als, e2, rs', v0, v1, v2, v3, v4, v5, rfl, v6⟩
    · have hfirst : first = false := by
        cases first with
        | false => rfl
        | true => have h0 := hfi rfl; subst h0; simp only [List.length_nil] at hlr; omega
      subst hfirst
      rw [List.append_nil] at hrs
      have hst : src.start ∈ rows.map (·.1) := by rw [← rulC0_fst, ← hrs]; exact r5
      refine G_seq (G_seq (G_region ?_))
      refine Gm ?_
      refine G_callv (k := 42) (.mk rfl rfl rfl rfl) rfl rfl (.none rfl) (ok8_call _ _ _ _ _ _ _ _ _ _ _ _ _ _ _ _ _ _ (by exact .head _)) ?_
      refine Gm ?_
      refine Gy (V_move rfl rfl) ?_
      refine Gy (V_move rfl rfl) ?_
      refine Gy (V_move rfl rfl) ?_
      refine Gy (V_nilCheck rfl rfl) ?_
      refine Gy (V_fieldAddr rfl rfl (by decide)) ?_
      refine Gy (V_load rfl rfl (Cell.own (.head _) rfl)) ?_
      refine Gy (V_move rfl rfl) ?_
      refine Gy (V_lenS rfl rfl) ?_
      refine Gy (V_lss rfl rfl rfl) ?_
      refine Gy (V_pick_f rfl rfl rfl) ?_
      refine Gv (V_pick_t rfl rfl rfl) ?_
      refine G_end (X_then ?_)
      refine G_cond_f rfl (decide_eq_false (by omega)) ?_
      refine G_exit (X_then_exit (X_then_exit (X_block_hit (X_then (G_seq (G_seq (G_region ?_)))))))
      refine Gm ?_
      refine G_callv (k := 42) (.mk rfl rfl rfl rfl) rfl rfl (.none rfl) (ok8_call _ _ _ _ _ _ _ _ _ _ _ _ _ _ _ _ _ _ (by exact .head _)) ?_
      refine G_end (X_then ?_)
      refine G_cond_t rfl rfl ?_
      refine G_region ?_
      refine Gm ?_
      refine Gv (V_loadA rfl rfl (Cells.own (.tail _ (.tail _ (.tail _ (.head _))))) rfl) ?_
      refine Gm ?_
      have hkn : ∀ i, e + 1 + 1 + 1 + 1 + 1 + 1 + 1 ≤ i → (h : i < l.length) → knB (rows.map (·.1)) src.toks src.sep l[i] = true := fun i hi h => by
        rw [← rulC0_fst, ← hrs]
        have hm : l[i] ∈ l.drop (e + 1 + 1 + 1 + 1 + 1 + 1 + 1) := by
          refine List.mem_iff_getElem.2 ⟨i - (e + 1 + 1 + 1 + 1 + 1 + 1 + 1), by rw [List.length_drop]; omega, ?_⟩
          rw [List.getElem_drop]
          congr 1
          omega
        exact List.all_eq_true.1 r6 _ hm
      have hfl : e + 1 + 1 + 1 + 1 + 1 + 1 + 1 ≤ l.length := (List.getElem?_eq_some_iff.1 y6).1
      have hlr8 : rows.length ≤ 8 := by simp only [List.length_nil] at hlr; omega
      refine G_call (k := 44) (.mk rfl rfl rfl rfl) rfl rfl (.none rfl) (known8_call E0 _ b23 s lp l.length lc pos al ((d.toNat : Int) - 48) z11 src.toks.length z12 src.sep src.start rp rows.length rc l hl hll rows rfl hlr8 src.toks rfl h8 src.start st _ hst hkn hfl) ?_
      rintro q2 E3 L3 hE3 ⟨rfl, rfl⟩
      replace hrw := hrw.mono hE3
      refine G.freezeSl (.tail _ (.head _ _)) ?_
      intro E4 hE4 hs4 hc4
      refine G.freezeSl (.tail _ (.head _ _)) ?_
      intro E5 hE5 hs5 hc5
      have hfin : SrcE E5 (.agg #[.int .i64 ((d.toNat : Int) - 48), .slice z11 src.toks.length z12, .string (S src.sep), .string (S src.start), .slice rp rows.length rc]) src := ⟨z11, z12, rp, rc, rows, by rw [hk], hs5, hrs.symm, hs4.mono hE5, (hrw.mono hE4).mono hE5⟩
      refine G_end (X_then (G_seq (G_seq (G_region ?_))))
      refine Gm ?_
      refine G_callv (k := 42) (.mk rfl rfl rfl rfl) rfl rfl (.none rfl) (ok8_call _ _ _ _ _ _ _ _ _ _ _ _ _ _ _ _ _ _ (by exact .head _)) ?_
      refine Gv (V_not rfl rfl) ?_
      refine G_end (X_then ?_)
      refine G_cond_f rfl (by kernel_rfl) ?_
      refine G_skip (X_then (G_seq (G_region ?_)))
      refine Gm ?_
      refine Gv (V_nilCheck rfl rfl) ?_
      refine Gv (V_fieldAddr rfl rfl (by decide)) ?_
      refine Gv (V_loadF rfl rfl (.head _) (by simp only [Nat.zero_add, List.drop_succ_cons, List.drop_zero, List.take_succ_cons, List.take_zero]; rfl) (by rfl)) ?_
      refine Gv (V_build rfl rfl (by simp [fillV, setLs, setL, Value.cells]; rfl)) ?_
      refine G_storeA rfl rfl rfl rfl (by simp [Value.oneCell']) rfl (.none rfl) (.tail _ (.tail _ (.tail _ (.tail _ (.head _ _ _))))) rfl ?_
      refine G_storeA rfl rfl rfl rfl (by simp [Value.oneCell']) rfl (.none rfl) (.tail _ (.tail _ (.tail _ (.head _ _ _)))) rfl ?_
      refine G_end (X_then (G_ret ?_))
      refine G_leaveS (.drop _ (.drop _ (.drop _ (.drop _ (.drop _ (.nil _)))))) (by exact (.cons (.cellA rfl (Cells.own (.tail _ (.tail _ (.tail _ (.tail _ (.head _)))))) rfl) (.cons (.cellA rfl (Cells.own (.tail _ (.tail _ (.tail _ (.head _))))) rfl) (.nil)))) rfl ?_ ?_
      · exact ((((hE1.trans hE).trans hE3).trans hE4).trans hE5)
      exact ⟨_, ⟨rfl, ⟨(by assumption), rfl⟩⟩⟩
    · have hpos : pos < l.length := (List.getElem?_eq_some_iff.1 v0).1
      refine G_seq (G_seq (G_region ?_))
      refine Gm ?_
      refine G_callv (k := 42) (.mk rfl rfl rfl rfl) rfl rfl (.none rfl) (ok8_call _ _ _ _ _ _ _ _ _ _ _ _ _ _ _ _ _ _ (by exact .head _)) ?_
      refine Gm ?_
      refine Gy (V_move rfl rfl) ?_
      refine Gy (V_move rfl rfl) ?_
      apply G_joinOr 8 34 42 rfl
      · intro H1
        dsimp only [List.take]
        refine Gn ?_
        refine Gn ?_
        refine Gn ?_
        refine Gn ?_
        refine Gn ?_
        refine Gn ?_
        refine Gn ?_
        refine Gy (V_pick_t rfl rfl rfl) ?_
        refine G_end ?_
        exact JQ_end 8 rfl rfl (by kernel_rfl)
      · intro H2
        dsimp only [List.take]
        refine Gy (V_move rfl rfl) ?_
        refine Gy (V_nilCheck rfl rfl) ?_
        refine Gy (V_fieldAddr rfl rfl (by decide)) ?_
        refine Gy (V_load rfl rfl (Cell.own (.head _) rfl)) ?_
        refine Gy (V_move rfl rfl) ?_
        refine Gy (V_lenS rfl rfl) ?_
        refine Gy (V_lss rfl rfl rfl) ?_
        refine Gy (V_pick_f rfl rfl rfl) ?_
        refine G_end ?_
        exact JQ_end 8 rfl rfl (by kernel_rfl)
      dsimp only [List.drop]
      refine Gv (V_pick_t rfl rfl rfl) ?_
      refine G_end (X_then ?_)
      refine G_cond_t rfl (by simp [*]; done) ?_
      refine G_skip (X_then (G_seq (G_block (G_region ?_))))
      refine Gm ?_
      have hnew : nm ∉ rows.map (·.1) := by
        rw [hrs, List.map_append, rulC0_fst, List.map_cons] at r1
        intro h
        exact (List.nodup_append.1 r1).2.2 _ h _ (.head _) rfl
      have hsum : al + (als.length : Int) ≤ 24 := by
        rw [hrs, List.map_append, List.sum_append, List.map_cons, List.sum_cons] at r4
        simp only at r4
        rw [hal]
        omega
      have hal0 : 0 ≤ al := by rw [hal]; omega
      have hr8 : rows.length < 8 := by simp only [List.length_cons] at hlr; omega
      refine G_call (k := 43) (.mk rfl rfl rfl rfl) rfl rfl (.none rfl) (rule8_call E0 _ b23 s lp l.length lc pos al ((d.toNat : Int) - 48) z11 src.toks.length z12 src.sep src.start rp rows.length rc l hl hll rows rfl nm w0 w1 w2 v0 v1 v2 hnew hr8 v3 l.length als e2 v4 v5 hal0 hsum) ?_
      rintro q2 E3 L3 hE3 ⟨a3, c3, ars, rp3, rc3, rfl, hsl, hmap, hAE, rfl⟩
      have hln : als.length = ars.length := by rw [← hmap, List.length_map]
      have hap : rulC rows ++ [.string (S nm), .slice a3 als.length c3] = rulC (rows ++ [(nm, a3, c3, ars)]) := by rw [rulC_append, hln]; rfl
      have hll2 : (rows ++ [((nm, a3, c3, ars) : RulRow)]).length = rows.length + 1 := by simp
      rw [hap]
      refine G_end (X_block (X_then (G_region ?_)))
      refine Ga ?_
      refine G_end (X_then ?_)
      refine G_again ((q, e2 + 1), rows ++ [(nm, a3, c3, ars)], E3, rp3, rc3, al + als.length, false) ⟨hE.trans hE3, ?_, ⟨rs', ?_, v6⟩, ?_, (fun h => by cases h), (List.getElem?_eq_some_iff.1 v5).1⟩ (by simp only; omega) ⟨rfl, rfl, rfl, rfl, rfl, rfl, rfl, trivial⟩ rfl (by simp only [hll2])
      · intro x hx
        rcases List.mem_append.1 hx with h | h
        · exact (hrw.mono hE3) x h
        · rw [List.mem_singleton.1 h]
          exact ⟨by rw [← hln]; exact hsl, hAE⟩
      · rw [hrs]; simp [rulC0, hmap]
      · simp only [rulC0, List.map_append, List.map_cons, List.map_nil, List.sum_append, List.sum_cons, List.sum_nil, List.length_map]
        rw [hal, ← hln]
        simp [rulC0]
end
end Go.Proofs.YtimiokmgnclggaaGreat
set_option linter.unusedSimpArgs false
set_option linter.unusedVariables false
set_option maxHeartbeats 2000000
set_option maxRecDepth 20000
namespace Go.Proofs.YtimiokmgnclggaaGreat
open Go.RowKit
/-! The reference's check of a grammar text that is right. -/
structure SrcGood (s : Src) : Prop where
  k1 : 1 ≤ s.k
  k4 : s.k ≤ 4
  t0 : 0 < s.toks.length
  r0 : 0 < s.rules.length
  a0 : ∀ r, r ∈ s.rules → 0 < r.2.length
  t8 : s.toks.length ≤ 8
  r8 : s.rules.length ≤ 8
  a6 : ∀ r, r ∈ s.rules → ∀ a, a ∈ r.2 → a.length ≤ 6
  a24 : (s.rules.map fun r => r.2.length).sum ≤ 24
  st : ∀ t, t ∈ s.toks → smallB t = true ∧ t.length ≤ 1000
  cr : ∀ r, r ∈ s.rules → capB r.1 = true ∧ r.1.length ≤ 1000
  wd : ∀ r, r ∈ s.rules → ∀ a, a ∈ r.2 → ∀ w, w ∈ a → (smallB w = true ∨ capB w = true) ∧ w.length ≤ 1000 ∧ w ≠ s.sep ∧ (w ∈ s.rules.map Prod.fst ∨ w ∈ s.toks)
  sp : smallB s.sep = true ∧ s.sep.length ≤ 1000
  sr : capB s.start = true ∧ s.start.length ≤ 1000
  n1 : (s.toks ++ [s.sep]).Nodup
  n2 : (s.rules.map Prod.fst).Nodup
  st2 : s.start ∈ s.rules.map Prod.fst
def srcGB (s : Src) : Bool :=
  decide (1 ≤ s.k) && decide (s.k ≤ 4) && decide (0 < s.toks.length) && decide (0 < s.rules.length) && s.rules.all (fun r => decide (0 < r.2.length)) && decide (s.toks.length ≤ 8) && decide (s.rules.length ≤ 8) &&
  s.rules.all (fun r => r.2.all fun a => decide (a.length ≤ 6)) && decide ((s.rules.map fun r => r.2.length).sum ≤ 24) && s.toks.all (fun t => smallB t && decide (t.length ≤ 1000)) && s.rules.all (fun r => capB r.1 && decide (r.1.length ≤ 1000)) &&
  s.rules.all (fun r => r.2.all fun a => a.all fun w => (smallB w || capB w) && decide (w.length ≤ 1000) && decide (w ≠ s.sep) && (decide (w ∈ s.rules.map Prod.fst) || decide (w ∈ s.toks))) &&
  (smallB s.sep && decide (s.sep.length ≤ 1000)) && (capB s.start && decide (s.start.length ≤ 1000)) && decide ((s.toks ++ [s.sep]).Nodup) && decide ((s.rules.map Prod.fst).Nodup) && decide (s.start ∈ s.rules.map Prod.fst)
theorem srcGB_ok {s : Src} (h : srcGB s = true) : SrcGood s := by
  simp only [srcGB, Bool.and_eq_true, Bool.or_eq_true, decide_eq_true_eq, List.all_eq_true] at h
  obtain ⟨⟨⟨⟨⟨⟨⟨⟨⟨⟨⟨⟨⟨⟨⟨⟨h1, h2⟩, h3⟩, h4⟩, h5⟩, h6⟩, h7⟩, h8⟩, h9⟩, h10⟩, h11⟩, h12⟩, h13⟩, h14⟩, h15⟩, h16⟩, h17⟩ := h
  exact ⟨h1, h2, h3, h4, h5, h6, h7, h8, h9, h10, h11, fun r hr a ha w hw => by obtain ⟨⟨⟨q1, q2⟩, q3⟩, q4⟩ := h12 r hr a ha w hw; exact ⟨q1, q2, q3, q4⟩, h13, h14, h15, h16, h17⟩
abbrev SRB (b : Nat) (k : Int) (tp : Option Addr) (tn tc : Nat) (sep start : List UInt8) (rp : Option Addr) (rn rc : Nat) : Res := .blk b (.cells #[.int .i64 k, .slice tp tn tc, .string (S sep), .string (S start), .slice rp rn rc] 60 (0, 0))
theorem rulC0_mem {rows : List RulRow} {i : Nat} (h : i < rows.length) : (rows[i].1, rows[i].2.2.2.map (·.2.2)) ∈ rulC0 rows := List.mem_map.2 ⟨_, List.getElem_mem h, rfl⟩
theorem alt_mem {l : List AltRow} {j : Nat} (h : j < l.length) : l[j].2.2 ∈ l.map (·.2.2) := List.mem_map.2 ⟨_, List.getElem_mem h, rfl⟩
theorem le_sum {l : List Nat} {a : Nat} (h : a ∈ l) : a ≤ l.sum := by
  induction l with
  | nil => cases h
  | cons x l ih =>
    rw [List.sum_cons]
    rcases List.mem_cons.1 h with rfl | h
    · omega
    · have := ih h; omega
theorem alts_le {s : Src} (hg : SrcGood s) {rows : List RulRow} (hr : rulC0 rows = s.rules) {i : Nat} (hlt : i < rows.length) : rows[i].2.2.2.length ≤ 24 :=
  Nat.le_trans (le_sum (by rw [← hr]; exact List.mem_map.2 ⟨_, rulC0_mem hlt, by simp⟩)) hg.a24
section
variable (E : Env) (L : List Res) (s : Src) (hg : SrcGood s) (tp : Option Addr) (tc : Nat) (rp : Option Addr) (rc : Nat) (rows : List RulRow) (ht : SlE E 1 tp s.toks.length (strs s.toks)) (hr : rulC0 rows = s.rules) (hs : SlE E 2 rp rows.length (rulC rows)) (hw : RulsE E rows)
include hg ht hr hs hw
theorem short8_call : CallV Tryz.prog 79 #[.agg #[.int .i64 s.k, .slice tp s.toks.length tc, .string (S s.sep), .string (S s.start), .slice rp rows.length rc]] E L (.bool false) := by
  have _ := ht
  have _ := hw
  have hrl : rows.length = s.rules.length := by rw [← hr, rulC0_len]
  have g1 := hg.t0; have g2 := hg.r0; have g3 := hg.r8; have g4 := hg.t8
  have g5 : ¬ (rows.length : Int) = 0 := by omega
  have g6 : ¬ (s.toks.length : Int) = 0 := by omega
  refine CallS.toV (CallS.intro (l := [_]) _ Tryz.func79 rfl Tryz.ntmps79 rfl ?_)
  refine G_seq (G_region ?_)
  (refine G_boxA rfl rfl rfl rfl (.none rfl) ?_; intro b1)
  refine Ga ?_
  refine G_end (X_then (G_seq (G_seq (G_region ?_))))
  refine Ga ?_
  refine G_end (X_then (G_block ?_))
  refine G_loop (α := Nat) (fun i => [(1, .pointer (some ⟨b1, 0, none⟩)), (3, .int .i64 (i : Nat))]) (fun _ => E) (fun _ => SRB b1 s.k tp s.toks.length tc s.sep s.start rp rows.length rc :: L) (fun i => i ≤ rows.length) (fun i => rows.length - i) 0 (Nat.zero_le _) ⟨rfl, rfl, trivial⟩ rfl rfl ?_
  intro i hi
  by_cases hlt : i < rows.length
  · have x1 := rulC_alts (List.getElem?_eq_getElem hlt)
    have x2 := hg.a0 _ (by rw [← hr]; exact rulC0_mem hlt)
    rw [List.length_map] at x2
    have x4 := alts_le hg hr hlt
    refine G_seq (G_seq (G_region ?_))
    refine Gm ?_
    refine Gv (V_fieldAddr rfl rfl (by decide)) ?_
    refine Gv (V_load rfl rfl (Cell.own (.head _) rfl)) ?_
    refine Gv (V_lenS rfl rfl) ?_
    refine Gv (V_lss rfl rfl rfl) ?_
    refine G_end (X_then ?_)
    refine G_cond_t rfl (decide_eq_true (by omega)) ?_
    refine G_skip (X_then (G_seq (G_block (G_seq (G_region ?_)))))
    refine Gv (V_fieldAddr rfl rfl (by decide)) ?_
    refine Gv (V_load rfl rfl (Cell.own (.head _) rfl)) ?_
    refine Gm ?_
    refine Gv (V_idxAddr rfl rfl rfl (SlE.rd (by assumption)) (by omega) (by omega)) ?_
    refine Gv (V_fieldAddrE rfl rfl (by assumption) (by omega) (by decide)) ?_
    refine Gv (V_loadS rfl rfl (SlE.rd (by assumption)) (by assumption) (by simp)) ?_
    refine Gv (V_lenS rfl rfl) ?_
    refine Gv (V_eql rfl rfl rfl) ?_
    refine G_end (X_then ?_)
    refine G_cond_f rfl (decide_eq_false (by omega)) ?_
    refine G_skip (X_block (X_then (G_region ?_)))
    refine Gm ?_
    refine Gv (V_add_i64 rfl rfl rfl (by omega) (by omega)) ?_
    refine Ga ?_
    refine G_end (X_then ?_)
    exact G_again (i + 1) hlt (by omega) ⟨rfl, rfl, trivial⟩ rfl rfl
  · refine G_seq ?_
    refine G_seq (G_region ?_)
    refine Gm ?_
    refine Gv (V_fieldAddr rfl rfl (by decide)) ?_
    refine Gv (V_load rfl rfl (Cell.own (.head _) rfl)) ?_
    refine Gv (V_lenS rfl rfl) ?_
    refine Gv (V_lss rfl rfl rfl) ?_
    refine G_end (X_then ?_)
    refine G_cond_f rfl (decide_eq_false (by omega)) ?_
    refine G_exit (X_then_exit (X_then_exit (X_block_hit (X_then (G_seq (G_region ?_))))))
    refine Gv (V_fieldAddr rfl rfl (by decide)) ?_
    refine Gv (V_load rfl rfl (Cell.own (.head _) rfl)) ?_
    refine Gv (V_lenS rfl rfl) ?_
    refine Gv (V_eql rfl rfl rfl) ?_
    refine Gm ?_
    refine G.bool_f 23 rfl (decide_eq_false (by omega)) ?_
    refine Gy (V_fieldAddr rfl rfl (by decide)) ?_
    refine Gy (V_load rfl rfl (Cell.own (.head _) rfl)) ?_
    refine Gy (V_lenS rfl rfl) ?_
    refine Gy (V_eql rfl rfl rfl) ?_
    refine Gv (V_pick_f rfl rfl rfl) ?_
    refine Ga ?_
    refine G_end (X_then (G_ret ?_))
    refine G_leaveS (.drop _ (.nil _)) (by exact (.cons (.tmp rfl) (.nil))) rfl ?_ ?_
    · exact (.refl _)
    exact ⟨(by ((try simp only [resVal]); (repeat' split) <;> first | rfl | (exfalso; omega) | (simp_all; done) | (simp_all; omega))), (by rfl)⟩
theorem full8_call : CallV Tryz.prog 80 #[.agg #[.int .i64 s.k, .slice tp s.toks.length tc, .string (S s.sep), .string (S s.start), .slice rp rows.length rc]] E L (.bool false) := by
  have _ := ht
  have hrl : rows.length = s.rules.length := by rw [← hr, rulC0_len]
  have g1 := hg.t0; have g2 := hg.r0; have g3 := hg.r8; have g4 := hg.t8; have g5 := hg.a24
  have hsum : s.rules.map (fun r => r.2.length) = rows.map (fun x => x.2.2.2.length) := by rw [← hr]; simp [rulC0, Function.comp_def]
  rw [hsum] at g5
  have htk : ∀ j, j ≤ rows.length → ((rows.take j).map fun x => x.2.2.2.length).sum ≤ 24 := fun j hj => by
    have : rows.map (fun x => x.2.2.2.length) = ((rows.take j).map fun x => x.2.2.2.length) ++ ((rows.drop j).map fun x => x.2.2.2.length) := by rw [← List.map_append, List.take_append_drop]
    rw [this, List.sum_append] at g5
    omega
  refine CallS.toV (CallS.intro (l := [_]) _ Tryz.func80 rfl Tryz.ntmps80 rfl ?_)
  refine G_seq (G_region ?_)
  (refine G_boxA rfl rfl rfl rfl (.none rfl) ?_; intro b1)
  refine Ga ?_
  refine G_end (X_then (G_seq (G_region ?_)))
  refine Ga ?_
  refine G_end (X_then (G_seq (G_seq (G_region ?_))))
  refine Ga ?_
  refine G_end (X_then (G_block ?_))
  refine G_loop (α := Nat) (fun i => [(1, .pointer (some ⟨b1, 0, none⟩)), (3, .int .i64 (((rows.take i).map fun x => x.2.2.2.length).sum : Nat)), (4, .int .i64 (i : Nat))]) (fun _ => E) (fun _ => SRB b1 s.k tp s.toks.length tc s.sep s.start rp rows.length rc :: L) (fun i => i ≤ rows.length) (fun i => rows.length - i) 0 (Nat.zero_le _) ⟨rfl, rfl, rfl, trivial⟩ rfl rfl ?_
  intro i hi
  by_cases hlt : i < rows.length
  · have x1 := rulC_alts (List.getElem?_eq_getElem hlt)
    have x4 := alts_le hg hr hlt
    have x5 := (hw _ (List.getElem_mem hlt)).1
    have h1 := htk i hi
    have h2 := htk (i + 1) hlt
    have hsn : (((rows.take (i + 1)).map fun x => x.2.2.2.length).sum : Nat) = ((rows.take i).map fun x => x.2.2.2.length).sum + rows[i].2.2.2.length := by
      rw [List.take_succ_eq_append_getElem hlt, List.map_append, List.sum_append]; simp
    refine G_seq (G_seq (G_region ?_))
    refine Gm ?_
    refine Gv (V_fieldAddr rfl rfl (by decide)) ?_
    refine Gv (V_load rfl rfl (Cell.own (.head _) rfl)) ?_
    refine Gv (V_lenS rfl rfl) ?_
    refine Gv (V_lss rfl rfl rfl) ?_
    refine Gm ?_
    refine G.bool_t 11 rfl (decide_eq_true (by omega)) ?_
    refine Gy (V_move rfl rfl) ?_
    refine Gy (V_leq rfl rfl rfl) ?_
    refine Gv (V_pick_t rfl rfl rfl) ?_
    refine G_end (X_then ?_)
    refine G_cond_t rfl (decide_eq_true (by omega)) ?_
    refine G_skip (X_then (G_seq (G_block (G_seq (G_region ?_)))))
    refine Gm ?_
    refine Gv (V_fieldAddr rfl rfl (by decide)) ?_
    refine Gv (V_load rfl rfl (Cell.own (.head _) rfl)) ?_
    refine Gm ?_
    refine Gv (V_idxAddr rfl rfl rfl (SlE.rd (by assumption)) (by omega) (by omega)) ?_
    refine Gv (V_fieldAddrE rfl rfl (by assumption) (by omega) (by decide)) ?_
    refine Gv (V_loadS rfl rfl (SlE.rd (by assumption)) (by assumption) (by simp)) ?_
    refine Gv (V_lenS rfl rfl) ?_
    refine Gv (V_add_i64 rfl rfl rfl (by omega) (by omega)) ?_
    refine Ga ?_
    refine G_end (X_then (G_seq (G_region ?_)))
    refine Ga ?_
    refine G_end (X_then (G_block ?_))
    refine G_loop (α := Nat) (fun j => [(1, .pointer (some ⟨b1, 0, none⟩)), (3, .int .i64 (((rows.take (i + 1)).map fun x => x.2.2.2.length).sum : Nat)), (4, .int .i64 (i : Nat)), (5, .int .i64 (j : Nat))]) (fun _ => E) (fun _ => SRB b1 s.k tp s.toks.length tc s.sep s.start rp rows.length rc :: L) (fun j => j ≤ rows[i].2.2.2.length) (fun j => rows[i].2.2.2.length - j) 0 (Nat.zero_le _) ⟨rfl, by rw [hsn]; rfl, rfl, rfl, trivial⟩ rfl rfl ?_
    intro j hj
    by_cases hlt2 : j < rows[i].2.2.2.length
    · have x6 := altC_get (List.getElem?_eq_getElem hlt2)
      have x7 := hg.a6 _ (by rw [← hr]; exact rulC0_mem hlt) _ (alt_mem hlt2)
      refine G_seq (G_seq (G_region ?_))
      refine Gm ?_
      refine Gv (V_fieldAddr rfl rfl (by decide)) ?_
      refine Gv (V_load rfl rfl (Cell.own (.head _) rfl)) ?_
      refine Gm ?_
      refine Gv (V_idxAddr rfl rfl rfl (SlE.rd (by assumption)) (by omega) (by omega)) ?_
      refine Gv (V_fieldAddrE rfl rfl (by assumption) (by omega) (by decide)) ?_
      refine Gv (V_loadS rfl rfl (SlE.rd (by assumption)) (by assumption) (by simp)) ?_
      refine Gv (V_lenS rfl rfl) ?_
      refine Gv (V_lss rfl rfl rfl) ?_
      refine Gm ?_
      refine G.bool_t 35 rfl (decide_eq_true (by omega)) ?_
      refine Gy (V_move rfl rfl) ?_
      refine Gy (V_leq rfl rfl rfl) ?_
      refine Gv (V_pick_t rfl rfl rfl) ?_
      refine G_end (X_then ?_)
      refine G_cond_t rfl (decide_eq_true (by omega)) ?_
      refine G_skip (X_then (G_seq (G_block (G_seq (G_region ?_)))))
      refine Gv (V_fieldAddr rfl rfl (by decide)) ?_
      refine Gv (V_load rfl rfl (Cell.own (.head _) rfl)) ?_
      refine Gm ?_
      refine Gv (V_idxAddr rfl rfl rfl (SlE.rd (by assumption)) (by omega) (by omega)) ?_
      refine Gv (V_fieldAddrE rfl rfl (by assumption) (by omega) (by decide)) ?_
      refine Gv (V_loadS rfl rfl (SlE.rd (by assumption)) (by assumption) (by simp)) ?_
      refine Gm ?_
      refine Gv (V_idxAddr rfl rfl rfl (SlE.rd (by assumption)) (by omega) (by omega)) ?_
      refine Gv (V_loadS rfl rfl (SlE.rd (by assumption)) (by assumption) (by simp)) ?_
      refine Gv (V_lenS rfl rfl) ?_
      refine Gv (V_gtr rfl rfl rfl) ?_
      refine G_end (X_then ?_)
      refine G_cond_f rfl (decide_eq_false (by omega)) ?_
      refine G_skip (X_block (X_then (G_region ?_)))
      refine Gm ?_
      refine Gv (V_add_i64 rfl rfl rfl (by omega) (by omega)) ?_
      refine Ga ?_
      refine G_end (X_then ?_)
      exact G_again (j + 1) hlt2 (by omega) ⟨rfl, rfl, rfl, rfl, trivial⟩ rfl rfl
    · refine G_seq ?_
      refine G_seq (G_region ?_)
      refine Gm ?_
      refine Gv (V_fieldAddr rfl rfl (by decide)) ?_
      refine Gv (V_load rfl rfl (Cell.own (.head _) rfl)) ?_
      refine Gm ?_
      refine Gv (V_idxAddr rfl rfl rfl (SlE.rd (by assumption)) (by omega) (by omega)) ?_
      refine Gv (V_fieldAddrE rfl rfl (by assumption) (by omega) (by decide)) ?_
      refine Gv (V_loadS rfl rfl (SlE.rd (by assumption)) (by assumption) (by simp)) ?_
      refine Gv (V_lenS rfl rfl) ?_
      refine Gv (V_lss rfl rfl rfl) ?_
      refine Gm ?_
      refine G.bool_f 35 rfl (decide_eq_false (by omega)) ?_
      refine Gn ?_
      refine Gn ?_
      refine Gv (V_pick_f rfl rfl rfl) ?_
      refine G_end (X_then ?_)
      refine G_cond_f rfl rfl ?_
      refine G_exit (X_then_exit (X_then_exit (X_block_hit (X_block (X_then (G_region ?_))))))
      refine Gm ?_
      refine Gv (V_add_i64 rfl rfl rfl (by omega) (by omega)) ?_
      refine Ga ?_
      refine G_end (X_then ?_)
      exact G_again (i + 1) hlt (by omega) ⟨rfl, rfl, rfl, trivial⟩ rfl rfl
  · obtain rfl : i = rows.length := by omega
    have h1 := htk rows.length (Nat.le_refl _)
    have h2 : ¬ (24 : Int) < ((((rows.take rows.length).map fun x => x.2.2.2.length).sum : Nat) : Int) := by omega
    refine G_seq (G_seq (G_region ?_))
    refine Gm ?_
    refine Gv (V_fieldAddr rfl rfl (by decide)) ?_
    refine Gv (V_load rfl rfl (Cell.own (.head _) rfl)) ?_
    refine Gv (V_lenS rfl rfl) ?_
    refine Gv (V_lss rfl rfl rfl) ?_
    refine Gm ?_
    refine G.bool_f 11 rfl (decide_eq_false (by omega)) ?_
    refine Gn ?_
    refine Gn ?_
    refine Gv (V_pick_f rfl rfl rfl) ?_
    refine G_end (X_then ?_)
    refine G_cond_f rfl rfl ?_
    refine G_exit (X_then_exit (X_then_exit (X_block_hit (X_then (G_seq (G_region ?_))))))
    refine Gv (V_fieldAddr rfl rfl (by decide)) ?_
    refine Gv (V_load rfl rfl (Cell.own (.head _) rfl)) ?_
    refine Gv (V_lenS rfl rfl) ?_
    refine Gv (V_gtr rfl rfl rfl) ?_
    refine Gm ?_
    refine G.bool_f 56 rfl (decide_eq_false (by omega)) ?_
    refine Gy (V_fieldAddr rfl rfl (by decide)) ?_
    refine Gy (V_load rfl rfl (Cell.own (.head _) rfl)) ?_
    refine Gy (V_lenS rfl rfl) ?_
    refine Gy (V_gtr rfl rfl rfl) ?_
    refine Gv (V_pick_f rfl rfl rfl) ?_
    refine Gm ?_
    refine G.bool_f 62 rfl (decide_eq_false (by omega)) ?_
    refine Gy (V_move rfl rfl) ?_
    refine Gy (V_gtr rfl rfl rfl) ?_
    refine Gv (V_pick_f rfl rfl rfl) ?_
    refine Ga ?_
    refine G_end (X_then (G_ret ?_))
    refine G_leaveS (.drop _ (.nil _)) (by exact (.cons (.tmp rfl) (.nil))) rfl ?_ ?_
    · exact (.refl _)
    exact ⟨(by ((try simp only [resVal]); (repeat' split) <;> first | rfl | (exfalso; omega) | (simp_all; done) | (simp_all; omega))), (by rfl)⟩
theorem misnamed8_call : CallV Tryz.prog 81 #[.agg #[.int .i64 s.k, .slice tp s.toks.length tc, .string (S s.sep), .string (S s.start), .slice rp rows.length rc]] E L (.bool false) := by
  have hrl : rows.length = s.rules.length := by rw [← hr, rulC0_len]
  have g1 := hg.t0; have g2 := hg.r0; have g3 := hg.r8; have g4 := hg.t8
  obtain ⟨g5, g6⟩ := hg.sp
  obtain ⟨g7, g8⟩ := hg.sr
  refine CallS.toV (CallS.intro (l := [_]) _ Tryz.func81 rfl Tryz.ntmps81 rfl ?_)
  refine G_seq (G_region ?_)
  (refine G_boxA rfl rfl rfl rfl (.none rfl) ?_; intro b1)
  refine Ga ?_
  refine G_end (X_then (G_seq (G_seq (G_region ?_))))
  refine Ga ?_
  refine G_end (X_then (G_block ?_))
  refine G_loop (α := Nat) (fun i => [(1, .pointer (some ⟨b1, 0, none⟩)), (3, .int .i64 (i : Nat))]) (fun _ => E) (fun _ => SRB b1 s.k tp s.toks.length tc s.sep s.start rp rows.length rc :: L) (fun i => i ≤ s.toks.length) (fun i => s.toks.length - i) 0 (Nat.zero_le _) ⟨rfl, rfl, trivial⟩ rfl rfl ?_
  intro i hi
  by_cases hlt : i < s.toks.length
  · have x1 := strs_get (List.getElem?_eq_getElem hlt)
    obtain ⟨x2, x3⟩ := hg.st _ (List.getElem_mem hlt)
    refine G_seq (G_seq (G_region ?_))
    refine Gm ?_
    refine Gv (V_fieldAddr rfl rfl (by decide)) ?_
    refine Gv (V_load rfl rfl (Cell.own (.head _) rfl)) ?_
    refine Gv (V_lenS rfl rfl) ?_
    refine Gv (V_lss rfl rfl rfl) ?_
    refine G_end (X_then ?_)
    refine G_cond_t rfl (decide_eq_true (by omega)) ?_
    refine G_skip (X_then (G_seq (G_block (G_seq (G_region ?_)))))
    refine Gv (V_fieldAddr rfl rfl (by decide)) ?_
    refine Gv (V_load rfl rfl (Cell.own (.head _) rfl)) ?_
    refine Gm ?_
    refine Gv (V_idxAddr rfl rfl rfl (SlE.rd (by assumption)) (by omega) (by omega)) ?_
    refine Gv (V_loadS rfl rfl (SlE.rd (by assumption)) (by assumption) (by simp)) ?_
    refine G_callv (k := 107) (.mk rfl rfl rfl rfl) rfl rfl (.none rfl) (SmallR_call _ _ _ (by omega)) ?_
    refine Gv (V_not rfl rfl) ?_
    refine G_end (X_then ?_)
    refine G_cond_f rfl (by simp [*]; done) ?_
    refine G_skip (X_block (X_then (G_region ?_)))
    refine Gm ?_
    refine Gv (V_add_i64 rfl rfl rfl (by omega) (by omega)) ?_
    refine Ga ?_
    refine G_end (X_then ?_)
    exact G_again (i + 1) hlt (by omega) ⟨rfl, rfl, trivial⟩ rfl rfl
  refine G_seq (G_seq (G_region ?_))
  refine Gm ?_
  refine Gv (V_fieldAddr rfl rfl (by decide)) ?_
  refine Gv (V_load rfl rfl (Cell.own (.head _) rfl)) ?_
  refine Gv (V_lenS rfl rfl) ?_
  refine Gv (V_lss rfl rfl rfl) ?_
  refine G_end (X_then ?_)
  refine G_cond_f rfl (decide_eq_false (by omega)) ?_
  refine G_exit (X_then_exit (X_then_exit (X_block_hit (X_then (G_seq (G_seq (G_region ?_)))))))
  refine Ga ?_
  refine G_end (X_then (G_block ?_))
  refine G_loop (α := Nat) (fun i => [(1, .pointer (some ⟨b1, 0, none⟩)), (4, .int .i64 (i : Nat))]) (fun _ => E) (fun _ => SRB b1 s.k tp s.toks.length tc s.sep s.start rp rows.length rc :: L) (fun i => i ≤ rows.length) (fun i => rows.length - i) 0 (Nat.zero_le _) ⟨rfl, rfl, trivial⟩ rfl rfl ?_
  intro i hi
  by_cases hlt : i < rows.length
  · have x0 := rulC_name (List.getElem?_eq_getElem hlt)
    have x1 := rulC_alts (List.getElem?_eq_getElem hlt)
    have hrm : (rows[i].1, rows[i].2.2.2.map (·.2.2)) ∈ s.rules := by rw [← hr]; exact rulC0_mem hlt
    obtain ⟨x2, x3⟩ := hg.cr _ hrm
    have x4 := alts_le hg hr hlt
    have x5 := (hw _ (List.getElem_mem hlt)).1
    simp only at x2 x3
    refine G_seq (G_seq (G_region ?_))
    refine Gm ?_
    refine Gv (V_fieldAddr rfl rfl (by decide)) ?_
    refine Gv (V_load rfl rfl (Cell.own (.head _) rfl)) ?_
    refine Gv (V_lenS rfl rfl) ?_
    refine Gv (V_lss rfl rfl rfl) ?_
    refine G_end (X_then ?_)
    refine G_cond_t rfl (decide_eq_true (by omega)) ?_
    refine G_skip (X_then (G_seq (G_block (G_seq (G_seq (G_region ?_))))))
    refine Gv (V_fieldAddr rfl rfl (by decide)) ?_
    refine Gv (V_load rfl rfl (Cell.own (.head _) rfl)) ?_
    refine Gm ?_
    refine Gv (V_idxAddr rfl rfl rfl (SlE.rd (by assumption)) (by omega) (by omega)) ?_
    refine Gv (V_fieldAddrE rfl rfl (by assumption) (by omega) (by decide)) ?_
    refine Gv (V_loadS rfl rfl (SlE.rd (by assumption)) x0 (by simp)) ?_
    refine G_callv (k := 106) (.mk rfl rfl rfl rfl) rfl rfl (.none rfl) (CapitalR_call _ _ _ (by omega)) ?_
    refine Gv (V_not rfl rfl) ?_
    refine G_end (X_then ?_)
    refine G_cond_f rfl (by simp [*]; done) ?_
    refine G_skip (X_then (G_seq (G_region ?_)))
    refine Ga ?_
    refine G_end (X_then (G_block ?_))
    refine G_loop (α := Nat) (fun j => [(1, .pointer (some ⟨b1, 0, none⟩)), (4, .int .i64 (i : Nat)), (5, .int .i64 (j : Nat))]) (fun _ => E) (fun _ => SRB b1 s.k tp s.toks.length tc s.sep s.start rp rows.length rc :: L) (fun j => j ≤ rows[i].2.2.2.length) (fun j => rows[i].2.2.2.length - j) 0 (Nat.zero_le _) ⟨rfl, rfl, rfl, trivial⟩ rfl rfl ?_
    intro j hj
    by_cases hlt2 : j < rows[i].2.2.2.length
    · have x6 := altC_get (List.getElem?_eq_getElem hlt2)
      have x7 := hg.a6 _ hrm _ (alt_mem hlt2)
      have x8 := (hw _ (List.getElem_mem hlt)).2 _ (List.getElem_mem hlt2)
      refine G_seq (G_seq (G_region ?_))
      refine Gm ?_
      refine Gv (V_fieldAddr rfl rfl (by decide)) ?_
      refine Gv (V_load rfl rfl (Cell.own (.head _) rfl)) ?_
      refine Gm ?_
      refine Gv (V_idxAddr rfl rfl rfl (SlE.rd (by assumption)) (by omega) (by omega)) ?_
      refine Gv (V_fieldAddrE rfl rfl (by assumption) (by omega) (by decide)) ?_
      refine Gv (V_loadS rfl rfl (SlE.rd (by assumption)) (by assumption) (by simp)) ?_
      refine Gv (V_lenS rfl rfl) ?_
      refine Gv (V_lss rfl rfl rfl) ?_
      refine G_end (X_then ?_)
      refine G_cond_t rfl (decide_eq_true (by omega)) ?_
      refine G_skip (X_then (G_seq (G_block (G_seq (G_region ?_)))))
      refine Ga ?_
      refine G_end (X_then (G_block ?_))
      refine G_loop (α := Nat) (fun q => [(1, .pointer (some ⟨b1, 0, none⟩)), (4, .int .i64 (i : Nat)), (5, .int .i64 (j : Nat)), (6, .int .i64 (q : Nat))]) (fun _ => E) (fun _ => SRB b1 s.k tp s.toks.length tc s.sep s.start rp rows.length rc :: L) (fun q => q ≤ rows[i].2.2.2[j].2.2.length) (fun q => rows[i].2.2.2[j].2.2.length - q) 0 (Nat.zero_le _) ⟨rfl, rfl, rfl, rfl, trivial⟩ rfl rfl ?_
      intro q hq
      by_cases hlt3 : q < rows[i].2.2.2[j].2.2.length
      · have x9 := strs_get (List.getElem?_eq_getElem hlt3)
        obtain ⟨z1, z2, _, _⟩ := hg.wd _ hrm _ (alt_mem hlt2) _ (List.getElem_mem hlt3)
        generalize rows[i].2.2.2[j].2.2[q] = wv at *
        rcases z1 with z1 | z1
        · refine G_seq ?_
          refine G_seq (G_region ?_)
          refine Gm ?_
          refine Gv (V_fieldAddr rfl rfl (by decide)) ?_
          refine Gv (V_load rfl rfl (Cell.own (.head _) rfl)) ?_
          refine Gm ?_
          refine Gv (V_idxAddr rfl rfl rfl (SlE.rd (by assumption)) (by omega) (by omega)) ?_
          refine Gv (V_fieldAddrE rfl rfl (by assumption) (by omega) (by decide)) ?_
          refine Gv (V_loadS rfl rfl (SlE.rd (by assumption)) (by assumption) (by simp)) ?_
          refine Gm ?_
          refine Gv (V_idxAddr rfl rfl rfl (SlE.rd (by assumption)) (by omega) (by omega)) ?_
          refine Gv (V_loadS rfl rfl (SlE.rd (by assumption)) (by assumption) (by simp)) ?_
          refine Gv (V_lenS rfl rfl) ?_
          refine Gv (V_lss rfl rfl rfl) ?_
          refine G_end (X_then ?_)
          refine G_cond_t rfl (decide_eq_true (by omega)) ?_
          refine G_skip (X_then (G_seq (G_block (G_seq (G_region ?_)))))
          refine Gv (V_fieldAddr rfl rfl (by decide)) ?_
          refine Gv (V_load rfl rfl (Cell.own (.head _) rfl)) ?_
          refine Gm ?_
          refine Gv (V_idxAddr rfl rfl rfl (SlE.rd (by assumption)) (by omega) (by omega)) ?_
          refine Gv (V_fieldAddrE rfl rfl (by assumption) (by omega) (by decide)) ?_
          refine Gv (V_loadS rfl rfl (SlE.rd (by assumption)) (by assumption) (by simp)) ?_
          refine Gm ?_
          refine Gv (V_idxAddr rfl rfl rfl (SlE.rd (by assumption)) (by omega) (by omega)) ?_
          refine Gv (V_loadS rfl rfl (SlE.rd (by assumption)) (by assumption) (by simp)) ?_
          refine Gm ?_
          refine Gv (V_idxAddr rfl rfl rfl (SlE.rd (by assumption)) (by omega) (by omega)) ?_
          refine Gv (V_loadS rfl rfl (SlE.rd (by assumption)) (by assumption) (by simp)) ?_
          refine Ga ?_
          refine G_end (X_then (G_seq (G_region ?_)))
          refine Gm ?_
          refine G_callv (k := 107) (.mk rfl rfl rfl rfl) rfl rfl (.none rfl) (SmallR_call _ _ _ (by omega)) ?_
          refine Gv (V_not rfl rfl) ?_
          refine Gm ?_
          refine G.bool_f 77 rfl (by simp [*]; done) ?_
          refine Gn ?_
          refine Gn ?_
          refine Gn ?_
          refine Gv (V_pick_f rfl rfl rfl) ?_
          refine G_end (X_then ?_)
          refine G_cond_f rfl rfl ?_
          refine G_skip (X_block (X_then (G_region ?_)))
          refine Gm ?_
          refine Gv (V_add_i64 rfl rfl rfl (by omega) (by omega)) ?_
          refine Ga ?_
          refine G_end (X_then ?_)
          exact G_again (q + 1) hlt3 (by omega) ⟨rfl, rfl, rfl, rfl, trivial⟩ rfl rfl
        · cases z3 : smallB wv with
          | true =>
            refine G_seq (G_seq (G_region ?_))
            refine Gm ?_
            refine Gv (V_fieldAddr rfl rfl (by decide)) ?_
            refine Gv (V_load rfl rfl (Cell.own (.head _) rfl)) ?_
            refine Gm ?_
            refine Gv (V_idxAddr rfl rfl rfl (SlE.rd (by assumption)) (by omega) (by omega)) ?_
            refine Gv (V_fieldAddrE rfl rfl (by assumption) (by omega) (by decide)) ?_
            refine Gv (V_loadS rfl rfl (SlE.rd (by assumption)) (by assumption) (by simp)) ?_
            refine Gm ?_
            refine Gv (V_idxAddr rfl rfl rfl (SlE.rd (by assumption)) (by omega) (by omega)) ?_
            refine Gv (V_loadS rfl rfl (SlE.rd (by assumption)) (by assumption) (by simp)) ?_
            refine Gv (V_lenS rfl rfl) ?_
            refine Gv (V_lss rfl rfl rfl) ?_
            refine G_end (X_then ?_)
            refine G_cond_t rfl (decide_eq_true (by omega)) ?_
            refine G_skip (X_then (G_seq (G_block (G_seq (G_region ?_)))))
            refine Gv (V_fieldAddr rfl rfl (by decide)) ?_
            refine Gv (V_load rfl rfl (Cell.own (.head _) rfl)) ?_
            refine Gm ?_
            refine Gv (V_idxAddr rfl rfl rfl (SlE.rd (by assumption)) (by omega) (by omega)) ?_
            refine Gv (V_fieldAddrE rfl rfl (by assumption) (by omega) (by decide)) ?_
            refine Gv (V_loadS rfl rfl (SlE.rd (by assumption)) (by assumption) (by simp)) ?_
            refine Gm ?_
            refine Gv (V_idxAddr rfl rfl rfl (SlE.rd (by assumption)) (by omega) (by omega)) ?_
            refine Gv (V_loadS rfl rfl (SlE.rd (by assumption)) (by assumption) (by simp)) ?_
            refine Gm ?_
            refine Gv (V_idxAddr rfl rfl rfl (SlE.rd (by assumption)) (by omega) (by omega)) ?_
            refine Gv (V_loadS rfl rfl (SlE.rd (by assumption)) (by assumption) (by simp)) ?_
            refine Ga ?_
            refine G_end (X_then (G_seq (G_region ?_)))
            refine Gm ?_
            refine G_callv (k := 107) (.mk rfl rfl rfl rfl) rfl rfl (.none rfl) (SmallR_call _ _ _ (by omega)) ?_
            refine Gv (V_not rfl rfl) ?_
            refine Gm ?_
            refine G.bool_f 77 rfl (by simp [*]; done) ?_
            refine Gn ?_
            refine Gn ?_
            refine Gn ?_
            refine Gv (V_pick_f rfl rfl rfl) ?_
            refine G_end (X_then ?_)
            refine G_cond_f rfl rfl ?_
            refine G_skip (X_block (X_then (G_region ?_)))
            refine Gm ?_
            refine Gv (V_add_i64 rfl rfl rfl (by omega) (by omega)) ?_
            refine Ga ?_
            refine G_end (X_then ?_)
            exact G_again (q + 1) hlt3 (by omega) ⟨rfl, rfl, rfl, rfl, trivial⟩ rfl rfl
          | false =>
            refine G_seq (G_seq (G_region ?_))
            refine Gm ?_
            refine Gv (V_fieldAddr rfl rfl (by decide)) ?_
            refine Gv (V_load rfl rfl (Cell.own (.head _) rfl)) ?_
            refine Gm ?_
            refine Gv (V_idxAddr rfl rfl rfl (SlE.rd (by assumption)) (by omega) (by omega)) ?_
            refine Gv (V_fieldAddrE rfl rfl (by assumption) (by omega) (by decide)) ?_
            refine Gv (V_loadS rfl rfl (SlE.rd (by assumption)) (by assumption) (by simp)) ?_
            refine Gm ?_
            refine Gv (V_idxAddr rfl rfl rfl (SlE.rd (by assumption)) (by omega) (by omega)) ?_
            refine Gv (V_loadS rfl rfl (SlE.rd (by assumption)) (by assumption) (by simp)) ?_
            refine Gv (V_lenS rfl rfl) ?_
            refine Gv (V_lss rfl rfl rfl) ?_
            refine G_end (X_then ?_)
            refine G_cond_t rfl (decide_eq_true (by omega)) ?_
            refine G_skip (X_then (G_seq (G_block (G_seq (G_region ?_)))))
            refine Gv (V_fieldAddr rfl rfl (by decide)) ?_
            refine Gv (V_load rfl rfl (Cell.own (.head _) rfl)) ?_
            refine Gm ?_
            refine Gv (V_idxAddr rfl rfl rfl (SlE.rd (by assumption)) (by omega) (by omega)) ?_
            refine Gv (V_fieldAddrE rfl rfl (by assumption) (by omega) (by decide)) ?_
            refine Gv (V_loadS rfl rfl (SlE.rd (by assumption)) (by assumption) (by simp)) ?_
            refine Gm ?_
            refine Gv (V_idxAddr rfl rfl rfl (SlE.rd (by assumption)) (by omega) (by omega)) ?_
            refine Gv (V_loadS rfl rfl (SlE.rd (by assumption)) (by assumption) (by simp)) ?_
            refine Gm ?_
            refine Gv (V_idxAddr rfl rfl rfl (SlE.rd (by assumption)) (by omega) (by omega)) ?_
            refine Gv (V_loadS rfl rfl (SlE.rd (by assumption)) (by assumption) (by simp)) ?_
            refine Ga ?_
            refine G_end (X_then (G_seq (G_region ?_)))
            refine Gm ?_
            refine G_callv (k := 107) (.mk rfl rfl rfl rfl) rfl rfl (.none rfl) (SmallR_call _ _ _ (by omega)) ?_
            refine Gv (V_not rfl rfl) ?_
            refine Gm ?_
            refine G.bool_t 77 rfl (by simp [*]; done) ?_
            refine Gy (V_move rfl rfl) ?_
            refine G_callv (k := 106) (.mk rfl rfl rfl rfl) rfl rfl (.yes rfl rfl rfl rfl) (CapitalR_call _ _ _ (by omega)) ?_
            refine Gy (V_not rfl rfl) ?_
            refine Gv (V_pick_t rfl rfl rfl) ?_
            refine G_end (X_then ?_)
            refine G_cond_f rfl (by simp [*]; done) ?_
            refine G_skip (X_block (X_then (G_region ?_)))
            refine Gm ?_
            refine Gv (V_add_i64 rfl rfl rfl (by omega) (by omega)) ?_
            refine Ga ?_
            refine G_end (X_then ?_)
            exact G_again (q + 1) hlt3 (by omega) ⟨rfl, rfl, rfl, rfl, trivial⟩ rfl rfl
      · refine G_seq ?_
        refine G_seq (G_region ?_)
        refine Gm ?_
        refine Gv (V_fieldAddr rfl rfl (by decide)) ?_
        refine Gv (V_load rfl rfl (Cell.own (.head _) rfl)) ?_
        refine Gm ?_
        refine Gv (V_idxAddr rfl rfl rfl (SlE.rd (by assumption)) (by omega) (by omega)) ?_
        refine Gv (V_fieldAddrE rfl rfl (by assumption) (by omega) (by decide)) ?_
        refine Gv (V_loadS rfl rfl (SlE.rd (by assumption)) (by assumption) (by simp)) ?_
        refine Gm ?_
        refine Gv (V_idxAddr rfl rfl rfl (SlE.rd (by assumption)) (by omega) (by omega)) ?_
        refine Gv (V_loadS rfl rfl (SlE.rd (by assumption)) (by assumption) (by simp)) ?_
        refine Gv (V_lenS rfl rfl) ?_
        refine Gv (V_lss rfl rfl rfl) ?_
        refine G_end (X_then ?_)
        refine G_cond_f rfl (decide_eq_false (by omega)) ?_
        refine G_exit (X_then_exit (X_then_exit (X_block_hit (X_block (X_then (G_region ?_))))))
        refine Gm ?_
        refine Gv (V_add_i64 rfl rfl rfl (by omega) (by omega)) ?_
        refine Ga ?_
        refine G_end (X_then ?_)
        exact G_again (j + 1) hlt2 (by omega) ⟨rfl, rfl, rfl, trivial⟩ rfl rfl
    · refine G_seq ?_
      refine G_seq (G_region ?_)
      refine Gm ?_
      refine Gv (V_fieldAddr rfl rfl (by decide)) ?_
      refine Gv (V_load rfl rfl (Cell.own (.head _) rfl)) ?_
      refine Gm ?_
      refine Gv (V_idxAddr rfl rfl rfl (SlE.rd (by assumption)) (by omega) (by omega)) ?_
      refine Gv (V_fieldAddrE rfl rfl (by assumption) (by omega) (by decide)) ?_
      refine Gv (V_loadS rfl rfl (SlE.rd (by assumption)) (by assumption) (by simp)) ?_
      refine Gv (V_lenS rfl rfl) ?_
      refine Gv (V_lss rfl rfl rfl) ?_
      refine G_end (X_then ?_)
      refine G_cond_f rfl (decide_eq_false (by omega)) ?_
      refine G_exit (X_then_exit (X_then_exit (X_block_hit (X_block (X_then (G_region ?_))))))
      refine Gm ?_
      refine Gv (V_add_i64 rfl rfl rfl (by omega) (by omega)) ?_
      refine Ga ?_
      refine G_end (X_then ?_)
      exact G_again (i + 1) hlt (by omega) ⟨rfl, rfl, trivial⟩ rfl rfl
  · refine G_seq ?_
    refine G_seq (G_region ?_)
    refine Gm ?_
    refine Gv (V_fieldAddr rfl rfl (by decide)) ?_
    refine Gv (V_load rfl rfl (Cell.own (.head _) rfl)) ?_
    refine Gv (V_lenS rfl rfl) ?_
    refine Gv (V_lss rfl rfl rfl) ?_
    refine G_end (X_then ?_)
    refine G_cond_f rfl (decide_eq_false (by omega)) ?_
    refine G_exit (X_then_exit (X_then_exit (X_block_hit (X_then (G_seq (G_region ?_))))))
    refine Gv (V_fieldAddr rfl rfl (by decide)) ?_
    refine Gv (V_load rfl rfl (Cell.own (.head _) rfl)) ?_
    refine G_callv (k := 107) (.mk rfl rfl rfl rfl) rfl rfl (.none rfl) (SmallR_call _ _ _ (by omega)) ?_
    refine Gv (V_not rfl rfl) ?_
    refine Gm ?_
    refine G.bool_f 86 rfl (by simp [*]; done) ?_
    refine Gy (V_fieldAddr rfl rfl (by decide)) ?_
    refine Gy (V_load rfl rfl (Cell.own (.head _) rfl)) ?_
    refine G_callv (k := 106) (.mk rfl rfl rfl rfl) rfl rfl (.yes rfl rfl rfl rfl) (CapitalR_call _ _ _ (by omega)) ?_
    refine Gy (V_not rfl rfl) ?_
    refine Gv (V_pick_f rfl rfl rfl) ?_
    refine Ga ?_
    refine G_end (X_then (G_ret ?_))
    refine G_leaveS (.drop _ (.nil _)) (by exact (.cons (.tmp rfl) (.nil))) rfl ?_ ?_
    · exact (.refl _)
    exact ⟨(by (simp [resVal, *]; done)), (by rfl)⟩
end
end Go.Proofs.YtimiokmgnclggaaGreat
set_option linter.unusedSimpArgs false
set_option linter.unusedVariables false
set_option maxHeartbeats 2000000
set_option maxRecDepth 20000
namespace Go.Proofs.YtimiokmgnclggaaGreat
open Go.RowKit
/-! The reference's check of a grammar text that is right: names used and known. -/
theorem strs_take (l : List (List UInt8)) (k : Nat) : (strs l).take k = strs (l.take k) := by simp [strs, List.map_take]
theorem Rd.take {E : Env} {L : List Res} {a : Option Addr} {n : Nat} {l : List (List UInt8)} (h : Rd E L 1 a n (strs l)) (hn : n = l.length) {i : Nat} (hi : i ≤ n) : Rd E L 1 a i (strs (l.take i)) := by
  rw [← strs_take]
  refine ⟨by rw [List.length_take]; simp [strs]; omega, fun w hw => (h.2 w hw).imp (fun h => ⟨h.1, by omega⟩) fun ⟨q, h1, h2, h3⟩ => ⟨q, h1, h2.imp id (fun h => by omega), fun j v hj => h3 j v ?_⟩⟩
  rw [List.getElem?_take] at hj
  split at hj
  · exact hj
  · cases hj
section
variable (E : Env) (L : List Res)
theorem rules8_call' (k : Int) (tp : Option Addr) (tn tc : Nat) (sep start : List UInt8) (rp : Option Addr) (rn rc : Nat) (rs : List RulRow) (hr : SlE E 2 rp rn (rulC rs)) (hn : rn ≤ 1000000) :
    CallS Tryz.prog 77 #[.agg #[.int .i64 k, .slice tp tn tc, .string (S sep), .string (S start), .slice rp rn rc]] E L (fun v E' L' => ∃ a c, v = .slice a rn c ∧ SlE E' 1 a rn (strs (rs.map (·.1))) ∧ rn ≤ c ∧ L = L') := by
  have en : rn = rs.length := by have := hr.1; rw [rulC_len] at this; omega
  subst en
  refine CallS.intro (l := [_]) _ Tryz.func77 rfl Tryz.ntmps77 rfl ?_
  refine G_seq (G_region ?_)
  (refine G_boxA rfl rfl rfl rfl (.none rfl) ?_; intro b1)
  refine Ga ?_
  refine G_end (X_then (G_seq (G_region ?_)))
  refine Ga ?_
  refine G_end (X_then (G_seq (G_seq (G_region ?_))))
  refine Ga ?_
  refine G_end (X_then (G_block ?_))
  refine G.nilSl 9 1 ?_
  refine G_loop (α := Nat × Option Addr × Nat) (fun x => [(1, .pointer (some ⟨b1, 0, none⟩)), (3, .slice x.2.1 x.1 x.2.2), (4, .int .i64 (x.1 : Nat))]) (fun _ => E)
    (fun x => .sl 9 1 x.2.1 x.1 x.2.2 (strs ((rs.take x.1).map (·.1))) :: .blk b1 (.cells #[.int .i64 k, .slice tp tn tc, .string (S sep), .string (S start), .slice rp rs.length rc] 60 (0, 0)) :: L)
    (fun x => x.1 ≤ rs.length) (fun x => rs.length - x.1) (0, none, 0) (Nat.zero_le _) ⟨rfl, rfl, rfl, trivial⟩ rfl rfl ?_
  rintro ⟨i, p, c⟩ hi
  simp only at hi ⊢
  by_cases hlt : i < rs.length
  · have hx := rulC_name (List.getElem?_eq_getElem hlt)
    have hap : strs ((rs.take i).map (·.1)) ++ [.string (S rs[i].1)] = strs ((rs.take (i + 1)).map (·.1)) := by
      rw [List.take_succ_eq_append_getElem hlt, List.map_append]
      simp only [strs, List.map_append, List.map_cons, List.map_nil]
    refine G_seq (G_seq (G_region ?_))
    refine Gm ?_
    refine Gv (V_fieldAddr rfl rfl (by decide)) ?_
    refine Gv (V_load rfl rfl (Cell.own (.tail _ (.head _)) rfl)) ?_
    refine Gv (V_lenS rfl rfl) ?_
    refine Gv (V_lss rfl rfl rfl) ?_
    refine G_end (X_then ?_)
    refine G_cond_t rfl (decide_eq_true (by omega)) ?_
    refine G_skip (X_then (G_seq (G_block (G_region ?_))))
    refine Gm ?_
    refine Gv (V_fieldAddr rfl rfl (by decide)) ?_
    refine Gv (V_load rfl rfl (Cell.own (.tail _ (.head _)) rfl)) ?_
    refine Gm ?_
    refine Gv (V_idxAddr rfl rfl rfl (SlE.rd (by assumption)) (by omega) (by omega)) ?_
    refine Gv (V_fieldAddrE rfl rfl (by assumption) (by omega) (by decide)) ?_
    refine Gv (V_loadS rfl rfl (SlE.rd (by assumption)) (by assumption) (by simp)) ?_
    (refine G_lit1 rfl rfl rfl rfl rfl (.none rfl) ?_; intro b19)
    (refine G_append rfl rfl rfl (Rd.lit (.head _) rfl) (by simp [Value.oneCell']) (by omega) (by omega) rfl rfl (.none rfl) (fun _ _ => (.tail _ (.head _ _ _))) ?_; intro a20 c20; refine G.rm (.head _ _) ?_)
    refine Ga ?_
    refine G_end (X_block (X_then (G_region ?_)))
    refine Gm ?_
    refine Gv (V_add_i64 rfl rfl rfl (by omega) (by omega)) ?_
    refine Ga ?_
    refine G_end (X_then ?_)
    rw [hap]
    exact G_again (i + 1, _, _) hlt (by simp only; omega) ⟨rfl, rfl, rfl, trivial⟩ rfl rfl
  · obtain rfl : i = rs.length := by omega
    rw [List.take_length]
    refine G.freezeSl (.head _ _) ?_
    intro E1 hE1 hs1 hc1
    refine G_seq (G_seq (G_region ?_))
    refine Gm ?_
    refine Gv (V_fieldAddr rfl rfl (by decide)) ?_
    refine Gv (V_load rfl rfl (Cell.own (.head _) rfl)) ?_
    refine Gv (V_lenS rfl rfl) ?_
    refine Gv (V_lss rfl rfl rfl) ?_
    refine G_end (X_then ?_)
    refine G_cond_f rfl (decide_eq_false (by omega)) ?_
    refine G_exit (X_then_exit (X_then_exit (X_block_hit (X_then (G_seq (G_region ?_))))))
    refine Gm ?_
    refine Ga ?_
    refine G_end (X_then (G_ret ?_))
    refine G_leaveS (.drop _ (.nil _)) (by exact (.cons (.tmp rfl) (.nil))) rfl ?_ ?_
    · exact hE1
    exact ⟨_, ⟨_, ⟨rfl, ⟨(by assumption), ⟨(by assumption), rfl⟩⟩⟩⟩⟩
theorem twice8_call (p : Option Addr) (n c : Nat) (l : List (List UInt8)) (hl : Rd E L 1 p n (strs l)) (hn : n ≤ 1000) (hc : n ≤ c) (hnd : l.Nodup) : CallV Tryz.prog 82 #[.slice p n c] E L (.bool false) := by
  have en : n = l.length := by have := hl.1; simp [strs] at this; omega
  subst en
  refine CallS.toV (CallS.intro (l := [_]) _ Tryz.func82 rfl Tryz.ntmps82 rfl ?_)
  refine G_seq (G_region ?_)
  refine Ga ?_
  refine G_end (X_then (G_seq (G_seq (G_region ?_))))
  refine Ga ?_
  refine G_end (X_then (G_block ?_))
  refine G_loop (α := Nat) (fun i => [(0, .slice p l.length c), (3, .int .i64 (i : Nat))]) (fun _ => E) (fun _ => L) (fun i => i ≤ l.length) (fun i => l.length - i) 0 (Nat.zero_le _) ⟨rfl, rfl, trivial⟩ rfl rfl ?_
  intro i hi
  by_cases hlt : i < l.length
  · have x1 := strs_get (List.getElem?_eq_getElem hlt)
    have x3 : decide (l[i] ∈ l.take i) = false := by
      refine decide_eq_false fun h => ?_
      have hs : l = l.take i ++ l.drop i := (List.take_append_drop i l).symm
      have hnd2 := hnd
      rw [hs] at hnd2
      refine (List.nodup_append.1 hnd2).2.2 _ h _ ?_ rfl
      rw [List.drop_eq_getElem_cons hlt]
      exact .head _
    refine G_seq (G_seq (G_region ?_))
    refine Gm ?_
    refine Gm ?_
    refine Gv (V_lenS rfl rfl) ?_
    refine Gv (V_lss rfl rfl rfl) ?_
    refine G_end (X_then ?_)
    refine G_cond_t rfl (decide_eq_true (by omega)) ?_
    refine G_skip (X_then (G_seq (G_block (G_seq ?_))))
    refine G_draw mixed (by kernel_rfl) ?_
    refine Q_val (V_move rfl rfl) rfl rfl (.none rfl) ?_
    refine Q_val (V_move rfl rfl) rfl rfl (.none rfl) ?_
    refine Q_val (V_slHead rfl rfl rfl (by omega) (by omega)) rfl rfl (.none rfl) ?_
    refine Q_val (V_move rfl rfl) rfl rfl (.none rfl) ?_
    refine Q_val (V_move rfl rfl) rfl rfl (.none rfl) ?_
    refine Q_val (V_idxAddr rfl rfl rfl (by assumption) (by omega) (by omega)) rfl rfl (.none rfl) ?_
    refine Q_val (V_loadS rfl rfl (by assumption) (by assumption) (by simp)) rfl rfl (.none rfl) ?_
    have x2 : Rd E L 1 p ((i : Int)).toNat (strs (l.take i)) := hl.take rfl hi
    clear hl
    refine Q_callv (k := 76) (.mk rfl rfl rfl rfl) rfl rfl (.none rfl) (has8_call _ _ _ _ _ _ (by assumption) (by omega) _) ?_
    refine Q_end ?_
    refine X_then ?_
    refine G_cond_f rfl (by assumption) ?_
    refine G_skip (X_block (X_then (G_region ?_)))
    refine Gm ?_
    refine Gv (V_add_i64 rfl rfl rfl (by omega) (by omega)) ?_
    refine Ga ?_
    refine G_end (X_then ?_)
    exact G_again (i + 1) hlt (by omega) ⟨rfl, rfl, trivial⟩ rfl rfl
  · refine G_seq ?_
    refine G_seq (G_region ?_)
    refine Gm ?_
    refine Gm ?_
    refine Gv (V_lenS rfl rfl) ?_
    refine Gv (V_lss rfl rfl rfl) ?_
    refine G_end (X_then ?_)
    refine G_cond_f rfl (decide_eq_false (by omega)) ?_
    refine G_exit (X_then_exit (X_then_exit (X_block_hit (X_then (G_seq (G_region ?_))))))
    refine Ga ?_
    refine G_end (X_then (G_ret ?_))
    refine G_leaveS (.nil _) (by exact (.cons (.tmp rfl) (.nil))) rfl ?_ ?_
    · exact (.refl _)
    exact ⟨(by kernel_rfl), rfl⟩
theorem twice8S_call (p : Option Addr) (n c : Nat) (l : List (List UInt8)) (hl : SlE E 1 p n (strs l)) (hn : n ≤ 1000) (hc : n ≤ c) (hnd : l.Nodup) : CallV Tryz.prog 82 #[.slice p n c] E L (.bool false) := twice8_call E L p n c l (SlE.rd hl) hn hc hnd
theorem twice8O_call (T : TypeId) (p : Option Addr) (m c : Nat) (l : List (List UInt8)) (x : List UInt8) (hm : .sl T 1 p (0 + m + 1) c ([] ++ strs l ++ [.string (S x)]) ∈ L) (en : m = l.length) (hn : m ≤ 100) (hnd : (l ++ [x]).Nodup) : CallV Tryz.prog 82 #[.slice p (0 + m + 1) c] E L (.bool false) := by
  intro w hw
  have hok : slOk T 1 p (0 + m + 1) c ([] ++ strs l ++ [.string (S x)]) (fun b => w.heap[b]?) := hw.own _ hm
  have hc : 0 + m + 1 ≤ c := by
    rcases hok.2 with ⟨_, h1, h2⟩ | ⟨_, _, _, _, h1, _⟩
    · omega
    · exact h1
  have he : [] ++ strs l ++ [.string (S x)] = strs (l ++ [x]) := by simp [strs]
  rw [he] at hm
  exact twice8_call E L p (0 + m + 1) c (l ++ [x]) (Rd.sl hm (by simp [strs]; omega)) (by omega) hc hnd w hw
variable (s : Src) (hg : SrcGood s) (tp : Option Addr) (tc : Nat) (rp : Option Addr) (rc : Nat) (rows : List RulRow) (ht : SlE E 1 tp s.toks.length (strs s.toks)) (hr : rulC0 rows = s.rules) (hs : SlE E 2 rp rows.length (rulC rows)) (hw : RulsE E rows)
include hg ht hr hs hw
theorem uses8_call : CallV Tryz.prog 83 #[.agg #[.int .i64 s.k, .slice tp s.toks.length tc, .string (S s.sep), .string (S s.start), .slice rp rows.length rc], .string (S s.sep)] E L (.bool false) := by
  have _ := ht
  have hrl : rows.length = s.rules.length := by rw [← hr, rulC0_len]
  have g1 := hg.t0; have g2 := hg.r0; have g3 := hg.r8; have g4 := hg.t8
  refine CallS.toV (CallS.intro (l := [_, _]) _ Tryz.func83 rfl Tryz.ntmps83 rfl ?_)
  refine G_seq (G_region ?_)
  (refine G_boxA rfl rfl rfl rfl (.none rfl) ?_; intro b2)
  refine Ga ?_
  refine G_end (X_then (G_seq (G_seq (G_region ?_))))
  refine Ga ?_
  refine G_end (X_then (G_block ?_))
  refine G_loop (α := Nat) (fun i => [(1, .string (S s.sep)), (2, .pointer (some ⟨b2, 0, none⟩)), (5, .int .i64 (i : Nat))]) (fun _ => E) (fun _ => SRB b2 s.k tp s.toks.length tc s.sep s.start rp rows.length rc :: L) (fun i => i ≤ rows.length) (fun i => rows.length - i) 0 (Nat.zero_le _) ⟨rfl, rfl, rfl, trivial⟩ rfl rfl ?_
  intro i hi
  by_cases hlt : i < rows.length
  · have x1 := rulC_alts (List.getElem?_eq_getElem hlt)
    have hrm : (rows[i].1, rows[i].2.2.2.map (·.2.2)) ∈ s.rules := by rw [← hr]; exact rulC0_mem hlt
    have x4 := alts_le hg hr hlt
    have x5 := (hw _ (List.getElem_mem hlt)).1
    refine G_seq (G_seq (G_region ?_))
    refine Gm ?_
    refine Gv (V_fieldAddr rfl rfl (by decide)) ?_
    refine Gv (V_load rfl rfl (Cell.own (.head _) rfl)) ?_
    refine Gv (V_lenS rfl rfl) ?_
    refine Gv (V_lss rfl rfl rfl) ?_
    refine G_end (X_then ?_)
    refine G_cond_t rfl (decide_eq_true (by omega)) ?_
    refine G_skip (X_then (G_seq (G_block (G_seq (G_region ?_)))))
    refine Ga ?_
    refine G_end (X_then (G_block ?_))
    refine G_loop (α := Nat) (fun j => [(1, .string (S s.sep)), (2, .pointer (some ⟨b2, 0, none⟩)), (5, .int .i64 (i : Nat)), (6, .int .i64 (j : Nat))]) (fun _ => E) (fun _ => SRB b2 s.k tp s.toks.length tc s.sep s.start rp rows.length rc :: L) (fun j => j ≤ rows[i].2.2.2.length) (fun j => rows[i].2.2.2.length - j) 0 (Nat.zero_le _) ⟨rfl, rfl, rfl, rfl, trivial⟩ rfl rfl ?_
    intro j hj
    by_cases hlt2 : j < rows[i].2.2.2.length
    · have x6 := altC_get (List.getElem?_eq_getElem hlt2)
      have x7 := hg.a6 _ hrm _ (alt_mem hlt2)
      have x8 := (hw _ (List.getElem_mem hlt)).2 _ (List.getElem_mem hlt2)
      have x9 : decide (s.sep ∈ rows[i].2.2.2[j].2.2) = false := decide_eq_false fun h => (hg.wd _ hrm _ (alt_mem hlt2) _ h).2.2.1 rfl
      refine G_seq (G_seq (G_region ?_))
      refine Gm ?_
      refine Gv (V_fieldAddr rfl rfl (by decide)) ?_
      refine Gv (V_load rfl rfl (Cell.own (.head _) rfl)) ?_
      refine Gm ?_
      refine Gv (V_idxAddr rfl rfl rfl (SlE.rd (by assumption)) (by omega) (by omega)) ?_
      refine Gv (V_fieldAddrE rfl rfl (by assumption) (by omega) (by decide)) ?_
      refine Gv (V_loadS rfl rfl (SlE.rd (by assumption)) (by assumption) (by simp)) ?_
      refine Gv (V_lenS rfl rfl) ?_
      refine Gv (V_lss rfl rfl rfl) ?_
      refine G_end (X_then ?_)
      refine G_cond_t rfl (decide_eq_true (by omega)) ?_
      refine G_skip (X_then (G_seq (G_block (G_seq (G_region ?_)))))
      refine Gv (V_fieldAddr rfl rfl (by decide)) ?_
      refine Gv (V_load rfl rfl (Cell.own (.head _) rfl)) ?_
      refine Gm ?_
      refine Gv (V_idxAddr rfl rfl rfl (SlE.rd (by assumption)) (by omega) (by omega)) ?_
      refine Gv (V_fieldAddrE rfl rfl (by assumption) (by omega) (by decide)) ?_
      refine Gv (V_loadS rfl rfl (SlE.rd (by assumption)) (by assumption) (by simp)) ?_
      refine Gm ?_
      refine Gv (V_idxAddr rfl rfl rfl (SlE.rd (by assumption)) (by omega) (by omega)) ?_
      refine Gv (V_loadS rfl rfl (SlE.rd (by assumption)) (by assumption) (by simp)) ?_
      refine Gm ?_
      refine G_callv (k := 76) (.mk rfl rfl rfl rfl) rfl rfl (.none rfl) (has8S_call _ _ _ _ _ _ (by assumption) (by omega) _) ?_
      refine G_end (X_then ?_)
      refine G_cond_f rfl (by assumption) ?_
      refine G_skip (X_block (X_then (G_region ?_)))
      refine Gm ?_
      refine Gv (V_add_i64 rfl rfl rfl (by omega) (by omega)) ?_
      refine Ga ?_
      refine G_end (X_then ?_)
      exact G_again (j + 1) hlt2 (by omega) ⟨rfl, rfl, rfl, rfl, trivial⟩ rfl rfl
    · refine G_seq ?_
      refine G_seq (G_region ?_)
      refine Gm ?_
      refine Gv (V_fieldAddr rfl rfl (by decide)) ?_
      refine Gv (V_load rfl rfl (Cell.own (.head _) rfl)) ?_
      refine Gm ?_
      refine Gv (V_idxAddr rfl rfl rfl (SlE.rd (by assumption)) (by omega) (by omega)) ?_
      refine Gv (V_fieldAddrE rfl rfl (by assumption) (by omega) (by decide)) ?_
      refine Gv (V_loadS rfl rfl (SlE.rd (by assumption)) (by assumption) (by simp)) ?_
      refine Gv (V_lenS rfl rfl) ?_
      refine Gv (V_lss rfl rfl rfl) ?_
      refine G_end (X_then ?_)
      refine G_cond_f rfl (decide_eq_false (by omega)) ?_
      refine G_exit (X_then_exit (X_then_exit (X_block_hit (X_block (X_then (G_region ?_))))))
      refine Gm ?_
      refine Gv (V_add_i64 rfl rfl rfl (by omega) (by omega)) ?_
      refine Ga ?_
      refine G_end (X_then ?_)
      exact G_again (i + 1) hlt (by omega) ⟨rfl, rfl, rfl, trivial⟩ rfl rfl
  · refine G_seq ?_
    refine G_seq (G_region ?_)
    refine Gm ?_
    refine Gv (V_fieldAddr rfl rfl (by decide)) ?_
    refine Gv (V_load rfl rfl (Cell.own (.head _) rfl)) ?_
    refine Gv (V_lenS rfl rfl) ?_
    refine Gv (V_lss rfl rfl rfl) ?_
    refine G_end (X_then ?_)
    refine G_cond_f rfl (decide_eq_false (by omega)) ?_
    refine G_exit (X_then_exit (X_then_exit (X_block_hit (X_then (G_seq (G_region ?_))))))
    refine Ga ?_
    refine G_end (X_then (G_ret ?_))
    refine G_leaveS (.drop _ (.nil _)) (by exact (.cons (.tmp rfl) (.nil))) rfl ?_ ?_
    · exact (.refl _)
    exact ⟨(by kernel_rfl), rfl⟩
theorem unknown8_call : CallS Tryz.prog 84 #[.agg #[.int .i64 s.k, .slice tp s.toks.length tc, .string (S s.sep), .string (S s.start), .slice rp rows.length rc]] E L (fun r E' L' => r = .bool false ∧ L' = L) := by
  have hrl : rows.length = s.rules.length := by rw [← hr, rulC0_len]
  have g1 := hg.t0; have g2 := hg.r0; have g3 := hg.r8; have g4 := hg.t8
  have hnm : s.rules.map Prod.fst = rows.map (·.1) := by rw [← hr, rulC0_fst]
  have g5 : decide (s.start ∈ rows.map (·.1)) = true := decide_eq_true (by rw [← hnm]; exact hg.st2)
  refine CallS.intro (l := [_]) _ Tryz.func84 rfl Tryz.ntmps84 rfl ?_
  refine G_seq (G_region ?_)
  (refine G_boxA rfl rfl rfl rfl (.none rfl) ?_; intro b1)
  refine Ga ?_
  refine G_end (X_then (G_seq (G_region ?_)))
  refine Gv (V_loadA rfl rfl (Cells.own (.head _)) rfl) ?_
  refine G_call (k := 77) (.mk rfl rfl rfl rfl) rfl rfl (.none rfl) (rules8_call' _ _ _ _ _ _ _ _ _ _ _ _ (by assumption) (by omega)) ?_
  rintro r1 E2 L3 hE4 ⟨z5, ⟨z6, ⟨rfl, ⟨Z7, ⟨Z8, rfl⟩⟩⟩⟩⟩
  replace ht := ht.mono hE4
  replace hs := hs.mono hE4
  replace hw := hw.mono hE4
  refine Ga ?_
  refine G_end (X_then (G_seq (G_seq (G_region ?_))))
  refine Ga ?_
  refine G_end (X_then (G_block ?_))
  refine G_loop (α := Nat) (fun i => [(1, .pointer (some ⟨b1, 0, none⟩)), (3, .slice z5 rows.length z6), (4, .int .i64 (i : Nat))]) (fun _ => E2) (fun _ => SRB b1 s.k tp s.toks.length tc s.sep s.start rp rows.length rc :: L) (fun i => i ≤ rows.length) (fun i => rows.length - i) 0 (Nat.zero_le _) ⟨rfl, rfl, rfl, trivial⟩ rfl rfl ?_
  intro i hi
  by_cases hlt : i < rows.length
  · have x1 := rulC_alts (List.getElem?_eq_getElem hlt)
    have hrm : (rows[i].1, rows[i].2.2.2.map (·.2.2)) ∈ s.rules := by rw [← hr]; exact rulC0_mem hlt
    have x4 := alts_le hg hr hlt
    have x5 := (hw _ (List.getElem_mem hlt)).1
    refine G_seq (G_seq (G_region ?_))
    refine Gm ?_
    refine Gv (V_fieldAddr rfl rfl (by decide)) ?_
    refine Gv (V_load rfl rfl (Cell.own (.head _) rfl)) ?_
    refine Gv (V_lenS rfl rfl) ?_
    refine Gv (V_lss rfl rfl rfl) ?_
    refine G_end (X_then ?_)
    refine G_cond_t rfl (decide_eq_true (by omega)) ?_
    refine G_skip (X_then (G_seq (G_block (G_seq (G_region ?_)))))
    refine Ga ?_
    refine G_end (X_then (G_block ?_))
    refine G_loop (α := Nat) (fun j => [(1, .pointer (some ⟨b1, 0, none⟩)), (3, .slice z5 rows.length z6), (4, .int .i64 (i : Nat)), (5, .int .i64 (j : Nat))]) (fun _ => E2) (fun _ => SRB b1 s.k tp s.toks.length tc s.sep s.start rp rows.length rc :: L) (fun j => j ≤ rows[i].2.2.2.length) (fun j => rows[i].2.2.2.length - j) 0 (Nat.zero_le _) ⟨rfl, rfl, rfl, rfl, trivial⟩ rfl rfl ?_
    intro j hj
    by_cases hlt2 : j < rows[i].2.2.2.length
    · have x6 := altC_get (List.getElem?_eq_getElem hlt2)
      have x7 := hg.a6 _ hrm _ (alt_mem hlt2)
      have x8 := (hw _ (List.getElem_mem hlt)).2 _ (List.getElem_mem hlt2)
      refine G_seq (G_seq (G_region ?_))
      refine Gm ?_
      refine Gv (V_fieldAddr rfl rfl (by decide)) ?_
      refine Gv (V_load rfl rfl (Cell.own (.head _) rfl)) ?_
      refine Gm ?_
      refine Gv (V_idxAddr rfl rfl rfl (SlE.rd (by assumption)) (by omega) (by omega)) ?_
      refine Gv (V_fieldAddrE rfl rfl (by assumption) (by omega) (by decide)) ?_
      refine Gv (V_loadS rfl rfl (SlE.rd (by assumption)) (by assumption) (by simp)) ?_
      refine Gv (V_lenS rfl rfl) ?_
      refine Gv (V_lss rfl rfl rfl) ?_
      refine G_end (X_then ?_)
      refine G_cond_t rfl (decide_eq_true (by omega)) ?_
      refine G_skip (X_then (G_seq (G_block (G_seq (G_region ?_)))))
      refine Ga ?_
      refine G_end (X_then (G_block ?_))
      refine G_loop (α := Nat) (fun q => [(1, .pointer (some ⟨b1, 0, none⟩)), (3, .slice z5 rows.length z6), (4, .int .i64 (i : Nat)), (5, .int .i64 (j : Nat)), (6, .int .i64 (q : Nat))]) (fun _ => E2) (fun _ => SRB b1 s.k tp s.toks.length tc s.sep s.start rp rows.length rc :: L) (fun q => q ≤ rows[i].2.2.2[j].2.2.length) (fun q => rows[i].2.2.2[j].2.2.length - q) 0 (Nat.zero_le _) ⟨rfl, rfl, rfl, rfl, rfl, trivial⟩ rfl rfl ?_
      intro q hq
      by_cases hlt3 : q < rows[i].2.2.2[j].2.2.length
      · have x9 := strs_get (List.getElem?_eq_getElem hlt3)
        obtain ⟨_, _, _, z1⟩ := hg.wd _ hrm _ (alt_mem hlt2) _ (List.getElem_mem hlt3)
        rw [hnm] at z1
        generalize rows[i].2.2.2[j].2.2[q] = wv at *
        by_cases z2 : wv ∈ rows.map (·.1)
        · have z3 : decide (wv ∈ rows.map (·.1)) = true := decide_eq_true z2
          refine G_seq (G_seq (G_region ?_))
          refine Gm ?_
          refine Gv (V_fieldAddr rfl rfl (by decide)) ?_
          refine Gv (V_load rfl rfl (Cell.own (.head _) rfl)) ?_
          refine Gm ?_
          refine Gv (V_idxAddr rfl rfl rfl (SlE.rd (by assumption)) (by omega) (by omega)) ?_
          refine Gv (V_fieldAddrE rfl rfl (by assumption) (by omega) (by decide)) ?_
          refine Gv (V_loadS rfl rfl (SlE.rd (by assumption)) (by assumption) (by simp)) ?_
          refine Gm ?_
          refine Gv (V_idxAddr rfl rfl rfl (SlE.rd (by assumption)) (by omega) (by omega)) ?_
          refine Gv (V_loadS rfl rfl (SlE.rd (by assumption)) (by assumption) (by simp)) ?_
          refine Gv (V_lenS rfl rfl) ?_
          refine Gv (V_lss rfl rfl rfl) ?_
          refine G_end (X_then ?_)
          refine G_cond_t rfl (decide_eq_true (by omega)) ?_
          refine G_skip (X_then (G_seq (G_block (G_seq (G_region ?_)))))
          refine Gv (V_fieldAddr rfl rfl (by decide)) ?_
          refine Gv (V_load rfl rfl (Cell.own (.head _) rfl)) ?_
          refine Gm ?_
          refine Gv (V_idxAddr rfl rfl rfl (SlE.rd (by assumption)) (by omega) (by omega)) ?_
          refine Gv (V_fieldAddrE rfl rfl (by assumption) (by omega) (by decide)) ?_
          refine Gv (V_loadS rfl rfl (SlE.rd (by assumption)) (by assumption) (by simp)) ?_
          refine Gm ?_
          refine Gv (V_idxAddr rfl rfl rfl (SlE.rd (by assumption)) (by omega) (by omega)) ?_
          refine Gv (V_loadS rfl rfl (SlE.rd (by assumption)) (by assumption) (by simp)) ?_
          refine Gm ?_
          refine Gv (V_idxAddr rfl rfl rfl (SlE.rd (by assumption)) (by omega) (by omega)) ?_
          refine Gv (V_loadS rfl rfl (SlE.rd (by assumption)) (by assumption) (by simp)) ?_
          refine Ga ?_
          refine G_end (X_then (G_seq (G_region ?_)))
          refine Gm ?_
          refine Gm ?_
          refine G_callv (k := 76) (.mk rfl rfl rfl rfl) rfl rfl (.none rfl) (has8S_call _ _ _ _ _ _ (by assumption) (by omega) _) ?_
          refine Gv (V_not rfl rfl) ?_
          refine Gm ?_
          refine G.bool_f 58 rfl (by simp [*]; done) ?_
          refine Gn ?_
          refine Gn ?_
          refine Gn ?_
          refine Gn ?_
          refine Gn ?_
          refine Gv (V_pick_f rfl rfl rfl) ?_
          refine G_end (X_then ?_)
          refine G_cond_f rfl rfl ?_
          refine G_skip (X_block (X_then (G_region ?_)))
          refine Gm ?_
          refine Gv (V_add_i64 rfl rfl rfl (by omega) (by omega)) ?_
          refine Ga ?_
          refine G_end (X_then ?_)
          exact G_again (q + 1) hlt3 (by omega) ⟨rfl, rfl, rfl, rfl, rfl, trivial⟩ rfl rfl
        · have z3 : decide (wv ∈ rows.map (·.1)) = false := decide_eq_false z2
          have z4 : decide (wv ∈ s.toks) = true := decide_eq_true (z1.resolve_left z2)
          refine G_seq (G_seq (G_region ?_))
          refine Gm ?_
          refine Gv (V_fieldAddr rfl rfl (by decide)) ?_
          refine Gv (V_load rfl rfl (Cell.own (.head _) rfl)) ?_
          refine Gm ?_
          refine Gv (V_idxAddr rfl rfl rfl (SlE.rd (by assumption)) (by omega) (by omega)) ?_
          refine Gv (V_fieldAddrE rfl rfl (by assumption) (by omega) (by decide)) ?_
          refine Gv (V_loadS rfl rfl (SlE.rd (by assumption)) (by assumption) (by simp)) ?_
          refine Gm ?_
          refine Gv (V_idxAddr rfl rfl rfl (SlE.rd (by assumption)) (by omega) (by omega)) ?_
          refine Gv (V_loadS rfl rfl (SlE.rd (by assumption)) (by assumption) (by simp)) ?_
          refine Gv (V_lenS rfl rfl) ?_
          refine Gv (V_lss rfl rfl rfl) ?_
          refine G_end (X_then ?_)
          refine G_cond_t rfl (decide_eq_true (by omega)) ?_
          refine G_skip (X_then (G_seq (G_block (G_seq (G_region ?_)))))
          refine Gv (V_fieldAddr rfl rfl (by decide)) ?_
          refine Gv (V_load rfl rfl (Cell.own (.head _) rfl)) ?_
          refine Gm ?_
          refine Gv (V_idxAddr rfl rfl rfl (SlE.rd (by assumption)) (by omega) (by omega)) ?_
          refine Gv (V_fieldAddrE rfl rfl (by assumption) (by omega) (by decide)) ?_
          refine Gv (V_loadS rfl rfl (SlE.rd (by assumption)) (by assumption) (by simp)) ?_
          refine Gm ?_
          refine Gv (V_idxAddr rfl rfl rfl (SlE.rd (by assumption)) (by omega) (by omega)) ?_
          refine Gv (V_loadS rfl rfl (SlE.rd (by assumption)) (by assumption) (by simp)) ?_
          refine Gm ?_
          refine Gv (V_idxAddr rfl rfl rfl (SlE.rd (by assumption)) (by omega) (by omega)) ?_
          refine Gv (V_loadS rfl rfl (SlE.rd (by assumption)) (by assumption) (by simp)) ?_
          refine Ga ?_
          refine G_end (X_then (G_seq (G_region ?_)))
          refine Gm ?_
          refine Gm ?_
          refine G_callv (k := 76) (.mk rfl rfl rfl rfl) rfl rfl (.none rfl) (has8S_call _ _ _ _ _ _ (by assumption) (by omega) _) ?_
          refine Gv (V_not rfl rfl) ?_
          refine Gm ?_
          refine G.bool_t 58 rfl (by simp [*]; done) ?_
          refine Gy (V_fieldAddr rfl rfl (by decide)) ?_
          refine Gy (V_load rfl rfl (Cell.own (.head _) rfl)) ?_
          refine Gy (V_move rfl rfl) ?_
          refine G_callv (k := 76) (.mk rfl rfl rfl rfl) rfl rfl (.yes rfl rfl rfl rfl) (has8S_call _ _ _ _ _ _ (by assumption) (by omega) _) ?_
          refine Gy (V_not rfl rfl) ?_
          refine Gv (V_pick_t rfl rfl rfl) ?_
          refine G_end (X_then ?_)
          refine G_cond_f rfl (by simp [*]; done) ?_
          refine G_skip (X_block (X_then (G_region ?_)))
          refine Gm ?_
          refine Gv (V_add_i64 rfl rfl rfl (by omega) (by omega)) ?_
          refine Ga ?_
          refine G_end (X_then ?_)
          exact G_again (q + 1) hlt3 (by omega) ⟨rfl, rfl, rfl, rfl, rfl, trivial⟩ rfl rfl
      · refine G_seq ?_
        refine G_seq (G_region ?_)
        refine Gm ?_
        refine Gv (V_fieldAddr rfl rfl (by decide)) ?_
        refine Gv (V_load rfl rfl (Cell.own (.head _) rfl)) ?_
        refine Gm ?_
        refine Gv (V_idxAddr rfl rfl rfl (SlE.rd (by assumption)) (by omega) (by omega)) ?_
        refine Gv (V_fieldAddrE rfl rfl (by assumption) (by omega) (by decide)) ?_
        refine Gv (V_loadS rfl rfl (SlE.rd (by assumption)) (by assumption) (by simp)) ?_
        refine Gm ?_
        refine Gv (V_idxAddr rfl rfl rfl (SlE.rd (by assumption)) (by omega) (by omega)) ?_
        refine Gv (V_loadS rfl rfl (SlE.rd (by assumption)) (by assumption) (by simp)) ?_
        refine Gv (V_lenS rfl rfl) ?_
        refine Gv (V_lss rfl rfl rfl) ?_
        refine G_end (X_then ?_)
        refine G_cond_f rfl (decide_eq_false (by omega)) ?_
        refine G_exit (X_then_exit (X_then_exit (X_block_hit (X_block (X_then (G_region ?_))))))
        refine Gm ?_
        refine Gv (V_add_i64 rfl rfl rfl (by omega) (by omega)) ?_
        refine Ga ?_
        refine G_end (X_then ?_)
        exact G_again (j + 1) hlt2 (by omega) ⟨rfl, rfl, rfl, rfl, trivial⟩ rfl rfl
    · refine G_seq ?_
      refine G_seq (G_region ?_)
      refine Gm ?_
      refine Gv (V_fieldAddr rfl rfl (by decide)) ?_
      refine Gv (V_load rfl rfl (Cell.own (.head _) rfl)) ?_
      refine Gm ?_
      refine Gv (V_idxAddr rfl rfl rfl (SlE.rd (by assumption)) (by omega) (by omega)) ?_
      refine Gv (V_fieldAddrE rfl rfl (by assumption) (by omega) (by decide)) ?_
      refine Gv (V_loadS rfl rfl (SlE.rd (by assumption)) (by assumption) (by simp)) ?_
      refine Gv (V_lenS rfl rfl) ?_
      refine Gv (V_lss rfl rfl rfl) ?_
      refine G_end (X_then ?_)
      refine G_cond_f rfl (decide_eq_false (by omega)) ?_
      refine G_exit (X_then_exit (X_then_exit (X_block_hit (X_block (X_then (G_region ?_))))))
      refine Gm ?_
      refine Gv (V_add_i64 rfl rfl rfl (by omega) (by omega)) ?_
      refine Ga ?_
      refine G_end (X_then ?_)
      exact G_again (i + 1) hlt (by omega) ⟨rfl, rfl, rfl, trivial⟩ rfl rfl
  · refine G_seq ?_
    refine G_seq (G_region ?_)
    refine Gm ?_
    refine Gv (V_fieldAddr rfl rfl (by decide)) ?_
    refine Gv (V_load rfl rfl (Cell.own (.head _) rfl)) ?_
    refine Gv (V_lenS rfl rfl) ?_
    refine Gv (V_lss rfl rfl rfl) ?_
    refine G_end (X_then ?_)
    refine G_cond_f rfl (decide_eq_false (by omega)) ?_
    refine G_exit (X_then_exit (X_then_exit (X_block_hit (X_then (G_seq (G_region ?_))))))
    refine Gm ?_
    refine Gv (V_fieldAddr rfl rfl (by decide)) ?_
    refine Gv (V_load rfl rfl (Cell.own (.head _) rfl)) ?_
    refine G_callv (k := 76) (.mk rfl rfl rfl rfl) rfl rfl (.none rfl) (has8S_call _ _ _ _ _ _ (by assumption) (by omega) _) ?_
    refine Gv (V_not rfl rfl) ?_
    refine Ga ?_
    refine G_end (X_then (G_ret ?_))
    refine G_leaveS (.drop _ (.nil _)) (by exact (.cons (.tmp rfl) (.nil))) rfl ?_ ?_
    · exact hE4
    exact ⟨(by (simp [resVal, *]; done)), (by rfl)⟩
theorem Check8_call : CallS Tryz.prog 46 #[.agg #[.int .i64 s.k, .slice tp s.toks.length tc, .string (S s.sep), .string (S s.start), .slice rp rows.length rc]] E L (fun r E' L' => r = .int .i64 0 ∧ L' = L) := by
  have hrl : rows.length = s.rules.length := by rw [← hr, rulC0_len]
  have g1 := hg.k1; have g2 := hg.k4; have g3 := hg.r8; have g4 := hg.t8; have g5 := hg.t0; have g6 := hg.r0
  have hnm : s.rules.map Prod.fst = rows.map (·.1) := by rw [← hr, rulC0_fst]
  have g7 := hg.n1
  have g8 := hg.n2
  rw [hnm] at g8
  refine CallS.intro (l := [_]) _ Tryz.func46 rfl Tryz.ntmps46 rfl ?_
  refine G_seq (G_region ?_)
  (refine G_boxA rfl rfl rfl rfl (.none rfl) ?_; intro b1)
  refine Ga ?_
  refine G_end (X_then (G_seq (G_block (G_seq (G_region ?_)))))
  refine Gv (V_fieldAddr rfl rfl (by decide)) ?_
  refine Gv (V_load rfl rfl (Cell.own (.head _) rfl)) ?_
  refine Gv (V_lss rfl rfl rfl) ?_
  refine Gm ?_
  refine G.bool_f 7 rfl (decide_eq_false (by omega)) ?_
  refine Gy (V_fieldAddr rfl rfl (by decide)) ?_
  refine Gy (V_load rfl rfl (Cell.own (.head _) rfl)) ?_
  refine Gy (V_gtr rfl rfl rfl) ?_
  refine Gv (V_pick_f rfl rfl rfl) ?_
  refine Ga ?_
  refine G_end (X_then ?_)
  refine G_cond_f rfl (decide_eq_false (by omega)) ?_
  refine G_seq (G_region ?_)
  refine Gv (V_loadA rfl rfl (Cells.own (.head _)) rfl) ?_
  refine G_callv (k := 79) (.mk rfl rfl rfl rfl) rfl rfl (.none rfl) (short8_call _ _ _ (by assumption) _ _ _ _ _ (by assumption) (by assumption) (by assumption) (by assumption)) ?_
  refine Ga ?_
  refine G_end (X_then ?_)
  refine G_cond_f rfl rfl ?_
  refine G_seq (G_region ?_)
  refine Gv (V_loadA rfl rfl (Cells.own (.head _)) rfl) ?_
  refine G_callv (k := 80) (.mk rfl rfl rfl rfl) rfl rfl (.none rfl) (full8_call _ _ _ (by assumption) _ _ _ _ _ (by assumption) (by assumption) (by assumption) (by assumption)) ?_
  refine Ga ?_
  refine G_end (X_then ?_)
  refine G_cond_f rfl rfl ?_
  refine G_seq (G_region ?_)
  refine Gv (V_loadA rfl rfl (Cells.own (.head _)) rfl) ?_
  refine G_callv (k := 81) (.mk rfl rfl rfl rfl) rfl rfl (.none rfl) (misnamed8_call _ _ _ (by assumption) _ _ _ _ _ (by assumption) (by assumption) (by assumption) (by assumption)) ?_
  refine Ga ?_
  refine G_end (X_then ?_)
  refine G_cond_f rfl rfl ?_
  refine G_seq ?_
  refine G_drawX 15 [(1, 0), (2, 1), (4, 0), (5, 1), (0, 2), (3, 3), (6, 2), (7, 3), (8, 3), (9, 0), (10, 1), (11, 3), (12, 3), (13, 0), (14, 0)] mixed (by kernel_rfl) ?_
  refine F_pure rfl (fun _ _ => V_fieldAddr rfl rfl (by decide)) rfl rfl (.none rfl) ?_
  refine F_load rfl (.head _) (V_load rfl rfl (Cell.own (.head _) rfl)) rfl rfl (.none rfl) ?_
  refine F_pure rfl (fun _ _ => V_fieldAddr rfl rfl (by decide)) rfl rfl (.none rfl) ?_
  refine F_load rfl (.head _) (V_load rfl rfl (Cell.own (.head _) rfl)) rfl rfl (.none rfl) ?_
  (refine F_lit0Z rfl rfl rfl rfl (.none rfl) ?_; intro b22 E22 hE22 hs22)
  replace ht := ht.mono hE22
  replace hs := hs.mono hE22
  replace hw := hw.mono hE22
  (refine F_appendO rfl rfl rfl rfl (by assumption) (by assumption) (by omega) (by omega) (by omega) rfl rfl (.none rfl) ?_; intro b25 c25)
  (refine F_litZ rfl rfl rfl (by decide) (by simp [fillS, zeros, setLs, setL, Value.cells, List.range, List.range.loop]; rfl) (by rfl) rfl rfl (.none rfl) ?_; intro b28 E28 hE28 hs28)
  replace hs22 := hs22.mono hE28
  replace ht := ht.mono hE28
  replace hs := hs.mono hE28
  replace hw := hw.mono hE28
  (refine F_append2 rfl rfl rfl rfl (by assumption) (by simp [Value.oneCell', strs, i64s]) (by omega) (by omega) rfl rfl (.none rfl) (fun _ _ => (.head _ _ _)) ?_; intro b29 c29 N29; dsimp only [List.cons_append])
  refine F_callvM (k := 82) rfl (.mk rfl rfl rfl rfl) rfl rfl (.none rfl) (fun M => twice8O_call _ _ _ _ _ _ _ _ (by exact List.mem_append_right _ (by first | assumption | exact .head _ | exact .tail _ (.head _) | exact .tail _ (.tail _ (.head _)) | exact .tail _ (.tail _ (.tail _ (.head _))) | exact .tail _ (.tail _ (.tail _ (.tail _ (.head _)))) | exact .tail _ (.tail _ (.tail _ (.tail _ (.tail _ (.head _))))))) (by omega) (by omega) (by assumption)) ?_
  refine F_pure rfl (fun _ _ => V_move rfl rfl) rfl rfl (.none rfl) ?_
  refine F_load rfl (.tail _ (.head _)) (V_loadA rfl rfl (Cells.own (.head _)) rfl) rfl rfl (.yes rfl rfl rfl rfl) ?_
  apply F_call (k := 77) rfl (.mk rfl rfl rfl rfl) rfl rfl (.yes rfl rfl rfl rfl)
  · (intro L0; refine CallS.mono (rules8_call' _ _ _ _ _ _ _ _ _ _ _ _ (by assumption) (by omega)) ?_; exact fun _ _ _ _ h => h)
  · (rintro L0 r E' L' ⟨z1, ⟨z2, ⟨rfl, ⟨Z3, ⟨Z4, rfl⟩⟩⟩⟩⟩; exact ⟨rfl, ⟨_, ⟨_, ⟨rfl, ⟨(by assumption), ⟨(by assumption), rfl⟩⟩⟩⟩⟩⟩)
  rintro r5 E6 hE7 ⟨z8, ⟨z9, ⟨rfl, ⟨Z10, ⟨Z11, _⟩⟩⟩⟩⟩
  replace hs28 := hs28.mono hE7
  replace hs22 := hs22.mono hE7
  replace ht := ht.mono hE7
  replace hs := hs.mono hE7
  replace hw := hw.mono hE7
  refine F_callv (k := 82) rfl (.mk rfl rfl rfl rfl) rfl rfl (.yes rfl rfl rfl rfl) (fun _ => twice8S_call _ _ _ _ _ _ (by assumption) (by omega) (by assumption) (by assumption)) ?_
  refine F_pure rfl (fun _ _ => V_pick_f rfl rfl rfl) rfl rfl (.none rfl) ?_
  refine F_pure rfl (fun _ _ => V_assign rfl rfl) rfl rfl (.none rfl) ?_
  (refine F_end (.keep _ (.keep _ (.suf _ (.nil _)))) ?_; dsimp only [List.drop])
  refine G_end (X_then ?_)
  refine G_cond_f rfl rfl ?_
  refine G_seq (G_region ?_)
  refine Gv (V_loadA rfl rfl (Cells.own (.tail _ (.head _))) rfl) ?_
  refine Gv (V_fieldAddr rfl rfl (by decide)) ?_
  refine Gv (V_load rfl rfl (Cell.own (.tail _ (.head _)) rfl)) ?_
  refine G_callv (k := 83) (.mk rfl rfl rfl rfl) rfl rfl (.none rfl) (uses8_call _ _ _ (by assumption) _ _ _ _ _ (by assumption) (by assumption) (by assumption) (by assumption)) ?_
  refine Ga ?_
  refine G_end (X_then ?_)
  refine G_cond_f rfl rfl ?_
  refine G_seq (G_region ?_)
  refine Gv (V_loadA rfl rfl (Cells.own (.tail _ (.head _))) rfl) ?_
  refine G_call (k := 84) (.mk rfl rfl rfl rfl) rfl rfl (.none rfl) (unknown8_call _ _ _ (by assumption) _ _ _ _ _ (by assumption) (by assumption) (by assumption) (by assumption)) ?_
  rintro r12 E13 L14 hE15 ⟨rfl, rfl⟩
  replace Z10 := Z10.mono hE15
  replace hs28 := hs28.mono hE15
  replace hs22 := hs22.mono hE15
  replace ht := ht.mono hE15
  replace hs := hs.mono hE15
  replace hw := hw.mono hE15
  refine Ga ?_
  refine G_end (X_then ?_)
  refine G_cond_f rfl rfl ?_
  refine G_skip (X_block (X_then (G_seq (G_region ?_))))
  refine Ga ?_
  refine G_end (X_then (G_ret ?_))
  refine G_leaveS (.drop _ (.drop _ (.nil _))) (by exact (.cons (.tmp rfl) (.nil))) rfl ?_ ?_
  · exact (((hE22.trans hE28).trans hE7).trans hE15)
  exact ⟨(by kernel_rfl), rfl⟩
end
end Go.Proofs.YtimiokmgnclggaaGreat
