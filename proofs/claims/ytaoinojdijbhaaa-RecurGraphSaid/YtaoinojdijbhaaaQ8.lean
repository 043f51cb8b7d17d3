/-
  Rules and contracts, packed: E3, E4, E5, E6, E7, E10, E24, E16, E17, D13.
-/
import Derived.Test.YtaoinojdijbhaaaQ7
set_option maxHeartbeats 1000000
set_option linter.unusedSimpArgs false
set_option linter.unusedVariables false
set_option maxHeartbeats 2000000
set_option maxRecDepth 20000
namespace Go.Proofs.Ytaoinojdijbhaaa
open Go.RowKit
def sets (l : List Nat) : List Value := l.map fun n : Nat => .int .u8 (n : Int)
theorem sets_len (l : List Nat) : (sets l).length = l.length := List.length_map _
theorem sets_at {l : List Nat} {i : Nat} (h : i < l.length) : (sets l)[i]? = some (.int .u8 (l.getD i 0 : Nat)) := by simp [sets, h]
theorem sets_set (l : List Nat) (i n : Nat) : (sets l).set i (.int .u8 (n : Int)) = sets (l.set i n) := by simp [sets, List.map_set]
theorem sets_zero (n : Nat) : List.replicate n (Value.int .u8 0) = sets (List.replicate n 0) := by simp [sets]
def stepB (nul : List Bool) (l : List Nat) (p : Pr) : List Nat := l.set (p.1 - 16).toNat (l.getD (p.1 - 16).toNat 0 ||| byS nul p.2)
def begF (nul : List Bool) (n : Nat) (ps : List Pr) : List Nat := ps.foldl (stepB nul) (List.replicate n 0)
def begM (g : Gr) : List Nat := begF (nullM g) g.names.length g.prods
theorem begF_snoc {nul : List Bool} {n : Nat} {ps : List Pr} {i : Nat} (h : i < ps.length) : begF nul n (ps.take (i + 1)) = stepB nul (begF nul n (ps.take i)) ps[i] := by
  rw [begF, List.take_succ_eq_append_getElem h, List.foldl_append]; rfl
theorem begF_len (nul : List Bool) (n : Nat) (ps : List Pr) : (begF nul n ps).length = n := by
  have key : ∀ (ps : List Pr) (l : List Nat), (ps.foldl (stepB nul) l).length = l.length := by
    intro ps
    induction ps with
    | nil => intro l; rfl
    | cons p ps ih => intro l; rw [List.foldl_cons, ih, stepB, List.length_set]
  rw [begF, key, List.length_replicate]
theorem or256 {a b : Nat} (ha : a < 256) (hb : b < 256) : a ||| b < 256 := Nat.or_lt_two_pow (n := 8) ha hb
theorem begF_lt {nul : List Bool} {n : Nat} {ps : List Pr} (h : ∀ p, p ∈ ps → byS nul p.2 < 256) (i : Nat) : (begF nul n ps).getD i 0 < 256 := by
  have key : ∀ (ps : List Pr) (l : List Nat), (∀ p, p ∈ ps → byS nul p.2 < 256) → (∀ i, l.getD i 0 < 256) → ∀ i, (ps.foldl (stepB nul) l).getD i 0 < 256 := by
    intro ps
    induction ps with
    | nil => intro l _ h2 i; exact h2 i
    | cons p ps ih =>
      intro l h1 h2 i
      rw [List.foldl_cons]
      refine ih _ (fun q hq => h1 q (.tail _ hq)) (fun j => ?_) i
      rw [stepB, List.getD, List.getElem?_set]
      by_cases he : (p.1 - 16).toNat = j
      · rw [if_pos he]
        by_cases hl : (p.1 - 16).toNat < l.length
        · rw [if_pos hl]; exact or256 (h2 _) (h1 p (.head _))
        · rw [if_neg hl]; exact Nat.le_of_ble_eq_true rfl
      · rw [if_neg he]; exact h2 j
  refine key ps _ h (fun j => ?_) i
  rw [List.getD, List.getElem?_replicate]
  by_cases hj : j < n
  · rw [if_pos hj]; exact Nat.le_of_ble_eq_true rfl
  · rw [if_neg hj]; exact Nat.le_of_ble_eq_true rfl
theorem or2 {a b : Nat} (ha : a < 256) (hb : b < 256) : orI .u8 (a : Int) (b : Int) = ((a ||| b : Nat) : Int) := by
  have h := or256 ha hb
  exact orI_nat (by show (a : Int) ≤ 255; omega) (by show (b : Int) ≤ 255; omega) (by show ((a ||| b : Nat) : Int) ≤ 255; omega)
theorem byS_lt' {g : Gr} (hv : Valid g) {p : Pr} (hp : p ∈ g.prods) : byS (nullM g) p.2 < 256 := byS_lt (nullM g) p.2 (hv.wf.syms p hp) hv.names.2
section
variable (E : Env) (L : List Res)
theorem begins_call (gv : Value) (g : Gr) (hg : GrE E gv g) (hl : Light g) (hc : gcheck g = 0) :
    CallS Try.prog 69 #[gv] E L (fun r E' L' => ∃ b, r = .slice (some ⟨b, 0, none⟩) g.names.length g.names.length ∧ SlE E' 1 (some ⟨b, 0, none⟩) g.names.length (sets (begM g)) ∧ L' = L) := by
  have hg0 := hg
  obtain ⟨tp, tc, np', nc', pp, pc, rfl, ht, hnm, ⟨rows, hrows, hps, hre⟩, k1, k2, k3⟩ := hg
  have hlen : g.prods.length = rows.length := by rw [← hrows]; simp
  have q1 := hl.t; have q2 := hl.n; have q3 := hl.p
  have hv := valid_of hc
  have hnn := hv.names
  refine CallS.intro (l := [_]) _ Try.func69 rfl Try.ntmps69 rfl ?_
  refine G_seq (G_region ?_)
  (refine G_boxA rfl rfl rfl rfl (.none rfl) ?_; intro b1)
  refine G_val (V_assign rfl rfl) rfl rfl (.none rfl) ?_
  refine G_end (X_then (G_seq (G_region ?_)))
  refine G_val (V_loadA rfl rfl (Cells.own (.head _)) rfl) rfl rfl (.none rfl) ?_
  refine G_call (k := 38) (.mk rfl rfl rfl rfl) rfl rfl (.none rfl) (Nullable_call' _ _ _ _ (by assumption) (by assumption) (by assumption)) ?_
  rintro r1 E2 L3 hE4 ⟨z5, ⟨z6, ⟨rfl, ⟨Z7, rfl⟩⟩⟩⟩
  replace hg0 := hg0.mono hE4
  replace ht := ht.mono hE4
  replace hnm := hnm.mono hE4
  replace hps := hps.mono hE4
  refine G_val (V_move rfl rfl) rfl rfl (.none rfl) ?_
  refine G_val (V_extract rfl rfl rfl) rfl rfl (.none rfl) ?_
  refine G_val (V_extract rfl rfl rfl) rfl rfl (.none rfl) ?_
  refine G_val (V_assign rfl rfl) rfl rfl (.none rfl) ?_
  refine G_val (V_assign rfl rfl) rfl rfl (.none rfl) ?_
  refine G_end (X_then (G_seq (G_region ?_)))
  refine G_val (V_fieldAddr rfl rfl (by decide)) rfl rfl (.none rfl) ?_
  refine G_val (V_load rfl rfl (Cell.own (.head _) rfl)) rfl rfl (.none rfl) ?_
  refine G_val (V_lenS rfl rfl) rfl rfl (.none rfl) ?_
  (refine G_makeSlice rfl rfl rfl (by omega) (by omega) (by omega) rfl rfl (.none rfl) ?_; intro b16)
  refine G_val (V_assign rfl rfl) rfl rfl (.none rfl) ?_
  refine G_end (X_then (G_seq (G_seq (G_region ?_))))
  refine G_val (V_fieldAddr rfl rfl (by decide)) rfl rfl (.none rfl) ?_
  refine G_val (V_load rfl rfl (Cell.own (.tail _ (.head _)) rfl)) rfl rfl (.none rfl) ?_
  refine G_val (V_lenS rfl rfl) rfl rfl (.none rfl) ?_
  refine G_val (V_move rfl rfl) rfl rfl (.none rfl) ?_
  refine G_end (X_then (G_block ?_))
  simp only [Int.toNat_natCast]
  rw [sets_zero]
  replace hre := hre.mono (show E.Le E2 by assumption)
  have hby := fun p hp => byS_lt' hv (p := p) hp
  refine G_loop (α := Nat) (fun i => [(1, .pointer (some ⟨b1, 0, none⟩)), (3, .slice z5 g.names.length z6), (5, .slice (some ⟨b16, 0, none⟩) g.names.length g.names.length), (18, .slice pp g.prods.length pc), (19, .int .i64 g.prods.length), (20, .int .i64 i)]) (fun _ => E2)
    (fun i => .blk b16 (.cells (sets (begF (nullM g) g.names.length (g.prods.take i))).toArray 74 (0, 0)) :: GB b1 g tp tc np' nc' pp pc :: L) (fun i => i ≤ rows.length) (fun i => rows.length - i) 0 (Nat.zero_le _) ⟨rfl, rfl, rfl, rfl, rfl, rfl, trivial⟩ rfl rfl ?_
  intro i hi
  have hbl := begF_len (nullM g) g.names.length (g.prods.take i)
  have hbs : (sets (begF (nullM g) g.names.length (g.prods.take i))).length = g.names.length := by rw [sets_len, hbl]
  have hbt := fun j => begF_lt (nul := nullM g) (n := g.names.length) (ps := g.prods.take i) (fun p hp => hby p (List.mem_of_mem_take hp)) j
  by_cases hlt : i < rows.length
  · have hg1 := List.getElem?_eq_getElem hlt
    have hy := prows_get hg1
    have hp : rows[i].2.2 ∈ g.prods := by rw [← hrows]; exact List.mem_map.2 ⟨rows[i], List.getElem_mem hlt, rfl⟩
    have hpi : g.prods[i]'(by omega) = rows[i].2.2 := by simp [← hrows]
    have hpd : g.prods.getD i (0, []) = rows[i].2.2 := by rw [← hrows]; simp [List.getD, hlt]
    have hlf := hv.wf.left _ hp
    have hat := sets_at (l := begF (nullM g) g.names.length (g.prods.take i)) (i := (rows[i].2.2.1 - 16).toNat) (by omega)
    have hor := or2 (hbt (rows[i].2.2.1 - 16).toNat) (hby _ hp)
    have hst := begF_snoc (nul := nullM g) (n := g.names.length) (ps := g.prods) (i := i) (by omega)
    rw [hpi, stepB] at hst
    refine G_seq (G_region ?_)
    refine G_val (V_lss rfl rfl rfl) rfl rfl (.none rfl) ?_
    refine G_end (X_then (G_seq ?_))
    refine G_cond_t rfl (decide_eq_true (by omega)) ?_
    refine G_skip (X_then (G_seq (G_block (G_seq (G_region ?_)))))
    refine G_val (V_move rfl rfl) rfl rfl (.none rfl) ?_
    refine G_val (V_idxAddr rfl rfl rfl (SlE.rd (by assumption)) (by omega) (by omega)) rfl rfl (.none rfl) ?_
    refine G_val (V_loadAS rfl rfl (SlE.rd (by assumption)) (by assumption) (by simp) (by rfl)) rfl rfl (.none rfl) ?_
    (refine G_alloc rfl rfl rfl (.none rfl) ?_; intro b7)
    refine G_val (V_assign rfl rfl) rfl rfl (.none rfl) ?_
    refine G_storeA rfl rfl rfl rfl (by simp [Value.oneCell']) rfl (.none rfl) (.head _ _ _) rfl ?_
    refine G_end (X_then ?_)
    (refine G_drawT 12 mixed (by kernel_rfl) ?_; dsimp only [List.take, List.drop])
    refine Q_val (V_move rfl rfl) rfl rfl (.none rfl) ?_
    refine Q_val (V_fieldAddr rfl rfl (by decide)) rfl rfl (.none rfl) ?_
    refine Q_val (V_load rfl rfl (Cell.own (.head _) rfl)) rfl rfl (.none rfl) ?_
    refine Q_val (V_sub_i64 rfl rfl rfl (by omega) (by omega)) rfl rfl (.none rfl) ?_
    refine Q_val (V_idxB1 rfl rfl rfl (by omega) (by omega)) rfl rfl (.none rfl) ?_
    refine Q_val (V_load rfl rfl (Cell.own (.tail _ (.head _)) (by assumption))) rfl rfl (.none rfl) ?_
    refine Q_val (V_loadA rfl rfl (Cells.own (.tail _ (.tail _ (.head _)))) rfl) rfl rfl (.none rfl) ?_
    refine Q_val (V_move rfl rfl) rfl rfl (.none rfl) ?_
    refine Q_val (V_move rfl rfl) rfl rfl (.none rfl) ?_
    refine Q_callv (k := 76) (.mk rfl rfl rfl rfl) rfl rfl (.none rfl) (by_call _ _ _ _ (by assumption) (by assumption) (by assumption) _ _ (by assumption) _ (by omega)) ?_
    refine Q_val (V_or rfl rfl rfl) rfl rfl (.none rfl) ?_
    refine Q_val (V_idxB1 rfl rfl rfl (by omega) (by omega)) rfl rfl (.none rfl) ?_
    refine Q_endT ?_
    refine G_storeB rfl rfl rfl rfl rfl rfl (.none rfl) (.tail _ (.head _ _ _)) (by omega) ?_
    refine G_end (X_block (X_then (G_region ?_)))
    refine G_val (V_add_i64 rfl rfl rfl (by omega) (by omega)) rfl rfl (.none rfl) ?_
    refine G_val (V_move rfl rfl) rfl rfl (.none rfl) ?_
    refine G_end (X_then ?_)
    rw [hpd, hor, sets_set, ← hst]
    refine G.drop ?_
    exact G_again (i + 1) hlt (by omega) ⟨rfl, rfl, rfl, rfl, rfl, rfl, trivial⟩ rfl rfl
  · rw [List.take_of_length_le (by omega)] at hbl hbs hbt ⊢
    refine G.freezeB (.head _ _) (k := g.names.length) (sz := 1) (by rw [hbs, Nat.mul_one]) ?_
    intro E3 hE3 hsl
    refine G_seq (G_region ?_)
    refine G_val (V_lss rfl rfl rfl) rfl rfl (.none rfl) ?_
    refine G_end (X_then (G_seq ?_))
    refine G_cond_f rfl (decide_eq_false (by omega)) ?_
    refine G_exit (X_then_exit (X_then_exit (X_block_hit (X_then (G_seq (G_region ?_))))))
    refine G_val (V_move rfl rfl) rfl rfl (.none rfl) ?_
    refine G_val (V_assign rfl rfl) rfl rfl (.none rfl) ?_
    refine G_end (X_then (G_ret ?_))
    refine G_leaveS (.drop _ (.nil _)) (by exact (.cons (.tmp rfl) (.nil))) rfl ?_ ?_
    · exact (hE4.trans hE3)
    exact ⟨_, ⟨rfl, ⟨(by assumption), rfl⟩⟩⟩
end
end Go.Proofs.Ytaoinojdijbhaaa
namespace Go.Proofs.Ytaoinojdijbhaaa
open Go.RowKit
/-! Chains in a graph. -/
inductive Tr (R : Nat → Nat → Prop) : Nat → Nat → Prop
  | one {a b : Nat} : R a b → Tr R a b
  | step {a b c : Nat} : Tr R a b → R b c → Tr R a c
theorem Tr.trans {R : Nat → Nat → Prop} {a b c : Nat} (h : Tr R a b) (k : Tr R b c) : Tr R a c := by
  induction k with
  | one k => exact h.step k
  | step _ k ih => exact ih.step k
theorem Tr.mono {R S : Nat → Nat → Prop} (hs : ∀ a b, R a b → S a b) {a b : Nat} (h : Tr R a b) : Tr S a b := by
  induction h with
  | one k => exact .one (hs _ _ k)
  | step _ k ih => exact ih.step (hs _ _ k)
theorem Tr.lt {R : Nat → Nat → Prop} {n : Nat} (hn : ∀ a b, R a b → b < n) {a b : Nat} (h : Tr R a b) : b < n := by
  cases h with
  | one k => exact hn _ _ k
  | step _ k => exact hn _ _ k
/-- Chains with all that stands between below k. -/
inductive Trk (R : Nat → Nat → Prop) (k : Nat) : Nat → Nat → Prop
  | one {a b : Nat} : R a b → Trk R k a b
  | step {a b c : Nat} : Trk R k a b → b < k → R b c → Trk R k a c
theorem Trk.tr {R : Nat → Nat → Prop} {k a b : Nat} (h : Trk R k a b) : Tr R a b := by
  induction h with
  | one h => exact .one h
  | step _ _ h ih => exact ih.step h
theorem Tr.trk {R : Nat → Nat → Prop} {n : Nat} (hn : ∀ a b, R a b → b < n) {a b : Nat} (h : Tr R a b) : Trk R n a b := by
  induction h with
  | one h => exact .one h
  | step h1 h ih => exact ih.step (h1.lt hn) h
theorem Trk.up {R : Nat → Nat → Prop} {k k' a b : Nat} (h : Trk R k a b) (hk : k ≤ k') : Trk R k' a b := by
  induction h with
  | one h => exact .one h
  | step _ h1 h ih => exact ih.step (by omega) h
theorem Trk.split {R : Nat → Nat → Prop} {k a b : Nat} (h : Trk R (k + 1) a b) : Trk R k a b ∨ (Trk R k a k ∧ Trk R k k b) := by
  induction h with
  | one h => exact .inl (.one h)
  | @step b c _ hb h ih =>
    by_cases he : b = k
    · subst he
      rcases ih with ih | ⟨ih, _⟩
      · exact .inr ⟨ih, .one h⟩
      · exact .inr ⟨ih, .one h⟩
    · have hlt : b < k := by omega
      rcases ih with ih | ⟨ih1, ih2⟩
      · exact .inl (ih.step hlt h)
      · exact .inr ⟨ih1, ih2.step hlt h⟩
theorem Trk.join {R : Nat → Nat → Prop} {k a b : Nat} (h1 : Trk R k a k) (h2 : Trk R k k b) : Trk R (k + 1) a b := by
  induction h2 with
  | one h => exact (h1.up (Nat.le_succ k)).step (Nat.lt_succ_self k) h
  | step _ hb h ih => exact ih.step (by omega) h
/-- Reckoned. -/
def wars (R : Nat → Nat → Bool) : Nat → Nat → Nat → Bool
  | 0, i, j => R i j
  | k + 1, i, j => wars R k i j || (wars R k i k && wars R k k j)
theorem wars_iff {R : Nat → Nat → Bool} : ∀ {k i j : Nat}, wars R k i j = true ↔ Trk (fun a b => R a b = true) k i j := by
  intro k
  induction k with
  | zero =>
    intro i j
    constructor
    · exact fun h => .one h
    · intro h
      cases h with
      | one h => exact h
      | step _ h _ => exact absurd h (Nat.not_lt_zero _)
  | succ k ih =>
    intro i j
    rw [wars, Bool.or_eq_true, Bool.and_eq_true, ih, ih, ih]
    constructor
    · rintro (h | ⟨h1, h2⟩)
      · exact h.up (Nat.le_succ k)
      · exact h1.join h2
    · exact fun h => h.split
theorem wars_tr {R : Nat → Nat → Bool} {n : Nat} (hn : ∀ a b, R a b = true → b < n) {i j : Nat} : wars R n i j = true ↔ Tr (fun a b => R a b = true) i j :=
  wars_iff.trans ⟨Trk.tr, Tr.trk hn⟩
def suc (l : List Nat) (i j : Nat) : Bool := (l.getD i 0).testBit j
theorem mem_bitL {s k : Nat} (hs : s < 256) : k ∈ bitL s ↔ s.testBit k = true := by
  rw [bitL, List.mem_filter, List.mem_range]
  refine ⟨fun h => h.2, fun h => ⟨?_, h⟩⟩
  rcases Nat.lt_or_ge k 8 with h8 | h8
  · exact h8
  · have h9 : s < 2 ^ k := Nat.lt_of_lt_of_le hs (show 2 ^ 8 ≤ 2 ^ k from Nat.pow_le_pow_right (by decide) h8)
    rw [Nat.testBit_lt_two_pow h9] at h; cases h
theorem or_bit (u k x : Nat) : (u ||| 2 ^ k).testBit x = (u.testBit x || decide (k = x)) := by
  rw [Nat.testBit_or, Nat.testBit_two_pow]
theorem cnt_mono {s u : Nat} (h : ∀ x, s.testBit x = true → u.testBit x = true) : (bitL s).length ≤ (bitL u).length := by
  rw [bitL, bitL, ← List.countP_eq_length_filter, ← List.countP_eq_length_filter]
  exact List.countP_mono_left fun x _ hx => h x hx
theorem cnt_all : (List.range 256).all (fun s => (List.range 8).all fun k => s.testBit k || decide ((bitL (s ||| 2 ^ k)).length = (bitL s).length + 1)) = true := by kernel_rfl
theorem cnt_more {u k : Nat} (hu : u < 256) (hk : k < 8) (h : u.testBit k = false) : (bitL (u ||| 2 ^ k)).length = (bitL u).length + 1 := by
  have := List.all_eq_true.1 (List.all_eq_true.1 cnt_all u (List.mem_range.2 hu)) k (List.mem_range.2 hk)
  rw [h, Bool.false_or] at this
  exact of_decide_eq_true this
/-- What a search from m has seen, that had seen s; done: the ones after m it has gone through. -/
structure FolP (l : List Nat) (m s s' : Nat) (done : List Nat) : Prop where
  lt : s' < 256
  sub : ∀ x, s.testBit x = true → s'.testBit x = true
  succ : ∀ x, x ∈ done → s'.testBit x = true
  new : ∀ x, s'.testBit x = true → s.testBit x = true ∨ (Tr (fun a b => suc l a b = true) m x ∧ ∀ y, suc l x y = true → s'.testBit y = true)
theorem FolP.nil {l : List Nat} {m s : Nat} (h : s < 256) : FolP l m s s [] := ⟨h, fun _ h => h, fun _ h => (by cases h), fun _ h => .inl h⟩
theorem FolP.old {l : List Nat} {m s u : Nat} {done : List Nat} (h : FolP l m s u done) {k : Nat} (hk : u.testBit k = true) : FolP l m s u (done ++ [k]) :=
  ⟨h.lt, h.sub, fun x hx => by
    rcases List.mem_append.1 hx with hx | hx
    · exact h.succ x hx
    · rw [List.mem_singleton.1 hx]; exact hk, h.new⟩
theorem FolP.go {l : List Nat} (h256 : ∀ i, l.getD i 0 < 256) {m s u v : Nat} {done : List Nat} (h : FolP l m s u done) {k : Nat} (hk : suc l m k = true) (f : FolP l k (u ||| 2 ^ k) v (bitL (l.getD k 0))) : FolP l m s v (done ++ [k]) := by
  have huv : ∀ x, u.testBit x = true → v.testBit x = true := fun x hx => f.sub x (by rw [or_bit, hx]; rfl)
  have hkv : v.testBit k = true := f.sub k (by rw [or_bit, decide_eq_true rfl, Bool.or_true])
  refine ⟨f.lt, fun x hx => huv x (h.sub x hx), fun x hx => ?_, fun x hx => ?_⟩
  · rcases List.mem_append.1 hx with hx | hx
    · exact huv x (h.succ x hx)
    · rw [List.mem_singleton.1 hx]; exact hkv
  · rcases f.new x hx with hx | ⟨h1, h2⟩
    · rw [or_bit, Bool.or_eq_true] at hx
      rcases hx with hx | hx
      · rcases h.new x hx with hx | ⟨h1, h2⟩
        · exact .inl hx
        · exact .inr ⟨h1, fun y hy => huv y (h2 y hy)⟩
      · have := of_decide_eq_true hx
        subst this
        exact .inr ⟨.one hk, fun y hy => f.succ y ((mem_bitL (h256 _)).2 hy)⟩
    · exact .inr ⟨(Tr.one (R := fun a b => suc l a b = true) hk).trans h1, h2⟩
theorem FolP.all {l : List Nat} (h256 : ∀ i, l.getD i 0 < 256) {m v : Nat} (f : FolP l m 0 v (bitL (l.getD m 0))) (x : Nat) : v.testBit x = true ↔ Tr (fun a b => suc l a b = true) m x := by
  have h0 : ∀ y, (0 : Nat).testBit y = true → False := fun y h => by simp at h
  constructor
  · intro h
    rcases f.new x h with h | h
    · exact (h0 _ h).elim
    · exact h.1
  · intro h
    induction h with
    | one h => exact f.succ _ ((mem_bitL (h256 _)).2 h)
    | step _ h ih =>
      rcases f.new _ ih with h1 | h1
      · exact (h0 _ h1).elim
      · exact h1.2 _ h
/-- What is left recursive. -/
def leftL (l : List Nat) (n : Nat) : List Nat := (List.range n).filter fun i => wars (suc l) n i i
def leftM (g : Gr) : List Nat := leftL (begM g) g.names.length
theorem leftL_snoc (l : List Nat) (n i : Nat) : (List.range (i + 1)).filter (fun i => wars (suc l) n i i) = (List.range i).filter (fun i => wars (suc l) n i i) ++ (if wars (suc l) n i i = true then [i] else []) := by
  rw [List.range_succ, List.filter_append, List.filter_cons, List.filter_nil]
theorem leftL_le (l : List Nat) (n i : Nat) : ((List.range i).filter (fun i => wars (suc l) n i i)).length ≤ i := by
  have := List.length_filter_le (fun i => wars (suc l) n i i) (List.range i)
  rwa [List.length_range] at this
/-- A right side begins with nonterminals. -/
theorem byS_bit {n : Nat} (nul : List Bool) : ∀ r : List Int, (∀ s, s ∈ r → s < 16 + (n : Int)) → ∀ j, (byS nul r).testBit j = true → j < n := by
  intro r
  induction r with
  | nil => intro _ j h; rw [byS] at h; simp at h
  | cons x r ih =>
    intro h j hj
    rw [byS] at hj
    by_cases h16 : x < 16
    · rw [if_pos h16] at hj; simp at hj
    · rw [if_neg h16, Nat.testBit_or, Nat.testBit_two_pow, Bool.or_eq_true] at hj
      have h1 := h x (.head _)
      rcases hj with hj | hj
      · have := of_decide_eq_true hj; omega
      · by_cases hb : bget nul x = true
        · rw [if_pos hb] at hj; exact ih (fun s hs => h s (.tail _ hs)) j hj
        · rw [if_neg hb] at hj; simp at hj
theorem stepB_bit {nul : List Bool} {l : List Nat} {p : Pr} {i j : Nat} : suc (stepB nul l p) i j = true ↔ suc l i j = true ∨ (i < l.length ∧ (p.1 - 16).toNat = i ∧ (byS nul p.2).testBit j = true) := by
  rw [suc, suc, stepB, List.getD, List.getElem?_set]
  by_cases he : (p.1 - 16).toNat = i
  · rw [if_pos he]
    by_cases hl : (p.1 - 16).toNat < l.length
    · rw [if_pos hl, he]
      rw [he] at hl
      simp [hl, Nat.testBit_or]
    · rw [if_neg hl]
      rw [he] at hl
      have e : l.getD i 0 = 0 := by rw [List.getD, List.getElem?_eq_none (by omega)]; rfl
      rw [e]
      simp only [Option.getD_none, Nat.zero_testBit, Bool.false_eq_true, false_or, false_iff, not_and]
      intro h; omega
  · rw [if_neg he]
    simp [he, List.getD]
theorem begF_bit {nul : List Bool} {n : Nat} {ps : List Pr} {i j : Nat} : suc (begF nul n ps) i j = true ↔ i < n ∧ ∃ p, p ∈ ps ∧ (p.1 - 16).toNat = i ∧ (byS nul p.2).testBit j = true := by
  have key : ∀ (ps : List Pr) (l : List Nat), suc (ps.foldl (stepB nul) l) i j = true ↔ suc l i j = true ∨ (i < l.length ∧ ∃ p, p ∈ ps ∧ (p.1 - 16).toNat = i ∧ (byS nul p.2).testBit j = true) := by
    intro ps
    induction ps with
    | nil => intro l; simp
    | cons p ps ih =>
      intro l
      rw [List.foldl_cons, ih, stepB_bit]
      have hl : (stepB nul l p).length = l.length := by rw [stepB, List.length_set]
      rw [hl]
      constructor
      · rintro ((h | ⟨h1, h2, h3⟩) | ⟨h1, q, hq, h2⟩)
        · exact .inl h
        · exact .inr ⟨h1, p, .head _, h2, h3⟩
        · exact .inr ⟨h1, q, .tail _ hq, h2⟩
      · rintro (h | ⟨h1, q, hq, h2⟩)
        · exact .inl (.inl h)
        · rcases List.mem_cons.1 hq with rfl | hq
          · exact .inl (.inr ⟨h1, h2.1, h2.2⟩)
          · exact .inr ⟨h1, q, hq, h2⟩
  rw [begF, key, List.length_replicate]
  have h0 : suc (List.replicate n 0) i j = false := by
    rw [suc, List.getD, List.getElem?_replicate]
    by_cases h : i < n
    · rw [if_pos h]; simp
    · rw [if_neg h]; simp
  rw [h0]; simp
theorem begM_bit {g : Gr} {i j : Nat} : suc (begM g) i j = true ↔ i < g.names.length ∧ ∃ p, p ∈ g.prods ∧ (p.1 - 16).toNat = i ∧ (byS (nullM g) p.2).testBit j = true := begF_bit
theorem begM_lt {g : Gr} (hv : Valid g) (i : Nat) : (begM g).getD i 0 < 256 := begF_lt (fun _ hp => byS_lt' hv hp) i
theorem begM_len (g : Gr) : (begM g).length = g.names.length := begF_len _ _ _
theorem begM_in {g : Gr} (hv : Valid g) {i j : Nat} (h : suc (begM g) i j = true) : j < g.names.length := by
  obtain ⟨_, p, hp, _, h⟩ := begM_bit.1 h
  exact byS_bit (nullM g) p.2 (hv.wf.syms p hp) j h
theorem leftM_iff {g : Gr} (hv : Valid g) {i : Nat} : i ∈ leftM g ↔ i < g.names.length ∧ Tr (fun a b => suc (begM g) a b = true) i i := by
  rw [leftM, leftL, List.mem_filter, List.mem_range, wars_tr (fun a b h => begM_in hv h)]
end Go.Proofs.Ytaoinojdijbhaaa
set_option linter.unusedSimpArgs false
set_option linter.unusedVariables false
set_option maxHeartbeats 2000000
set_option maxRecDepth 20000
namespace Go.Proofs.Ytaoinojdijbhaaa
open Go.RowKit
abbrev SB (b s : Nat) : Res := .blk b (.cells #[.int .u8 s] 74 (0, 0))
abbrev DB (b : Nat) (p : Option Addr) (n c : Nat) : Res := .blk b (.cells #[.slice p n c] 72 (0, 0))
abbrev FB (b3 b6 b7 : Nat) : Res := .blk b7 (.cells #[.func (.func 104) #[] #[.pointer (some ⟨b3, 0, none⟩), .pointer (some ⟨b6, 0, none⟩), .pointer (some ⟨b7, 0, none⟩)]] 112 (0, 0))
theorem follow_call (l : List Nat) (n : Nat) (hln : l.length = n) (h256 : ∀ i, l.getD i 0 < 256) (hin : ∀ i j, suc l i j = true → j < n) (hn8 : n ≤ 8) (p : Option Addr) (b3 b6 b7 c : Nat) (L : List Res) : ∀ (d : Nat) (E : Env) (s m : Nat), 8 - (bitL s).length < d → s < 256 → m < n → SlE E 1 p n (sets l) →
    CallS Try.prog 104 #[.int .i64 m, .pointer (some ⟨b3, 0, none⟩), .pointer (some ⟨b6, 0, none⟩), .pointer (some ⟨b7, 0, none⟩)] E (SB b6 s :: DB b3 p n c :: FB b3 b6 b7 :: L) (fun r E' L' => ∃ v, r = .tuple #[] ∧ FolP l m s v (bitL (l.getD m 0)) ∧ L' = SB b6 v :: DB b3 p n c :: FB b3 b6 b7 :: L) := by
  intro d
  induction d with
  | zero => intro E s m hd; omega
  | succ d ih =>
  intro E s m hd hs hm hsl
  have hmt := sets_at (l := l) (i := m) (by omega)
  have hm256 := h256 m
  generalize hq : l.getD m 0 = q at hmt hm256 ⊢
  refine CallS.intro (l := [_, _, _, _]) _ Try.func104 rfl Try.ntmps104 rfl ?_
  refine G_seq (G_region ?_)
  refine G_val (V_load rfl rfl (Cell.own1 (.tail _ (.head _)))) rfl rfl (.none rfl) ?_
  refine G_val (V_move rfl rfl) rfl rfl (.none rfl) ?_
  refine G_val (V_idxAddr rfl rfl rfl (SlE.rd (by assumption)) (by omega) (by omega)) rfl rfl (.none rfl) ?_
  refine G_val (V_loadS rfl rfl (SlE.rd (by assumption)) (by assumption) (by simp)) rfl rfl (.none rfl) ?_
  refine G_call (k := 70) (.mk rfl rfl rfl rfl) rfl rfl (.none rfl) (list_call _ _ _ (by assumption)) ?_
  rintro r1 E2 L3 hE4 ⟨z5, ⟨z6, ⟨rfl, ⟨Z7, rfl⟩⟩⟩⟩
  replace hsl := hsl.mono hE4
  refine G_val (V_lenS rfl rfl) rfl rfl (.none rfl) ?_
  refine G_val (V_move rfl rfl) rfl rfl (.none rfl) ?_
  refine G_end (X_then (G_block ?_))
  have hb8 := bitL_le q
  have hbn := natsI_len (bitL q)
  have hsq : SlE E2 1 z5 (bitL q).length (i64s (natsI (bitL q))) := by assumption
  refine G_loop (α := Nat × Env × Nat) (fun x => [(0, .int .i64 m), (1, .pointer (some ⟨b3, 0, none⟩)), (2, .pointer (some ⟨b6, 0, none⟩)), (3, .pointer (some ⟨b7, 0, none⟩)), (11, .slice z5 (bitL q).length z6), (12, .int .i64 (bitL q).length), (13, .int .i64 x.1)]) (fun x => x.2.1) (fun x => SB b6 x.2.2 :: DB b3 p n c :: FB b3 b6 b7 :: L)
    (fun x => E2.Le x.2.1 ∧ x.1 ≤ (bitL q).length ∧ FolP l m s x.2.2 ((bitL q).take x.1)) (fun x => (bitL q).length - x.1) (0, E2, s) ⟨.refl _, Nat.zero_le _, FolP.nil hs⟩ ⟨rfl, rfl, rfl, rfl, rfl, rfl, rfl, trivial⟩ rfl rfl ?_
  rintro ⟨i, E1, u⟩ ⟨hE1, hi, hf⟩
  simp only at hE1 hi hf ⊢
  replace hsq := hsq.mono hE1
  replace hsl := hsl.mono hE1
  have hu := hf.lt
  by_cases hlt : i < (bitL q).length
  · have hx := i64s_at (l := natsI (bitL q)) (i := i) (by omega)
    have hxk : (natsI (bitL q))[i]'(by omega) = (((bitL q)[i] : Nat) : Int) := by simp [natsI]
    rw [hxk] at hx
    have hmem := List.getElem_mem hlt
    have htk := List.take_succ_eq_append_getElem hlt
    generalize hk : (bitL q)[i] = k at hx hmem htk
    have hsk : suc l m k = true := by rw [suc, hq]; exact (mem_bitL hm256).1 hmem
    have hkn := hin _ _ hsk
    cases huk : u.testBit k with
    | true =>
      refine G_seq (G_region ?_)
      refine G_val (V_lss rfl rfl rfl) rfl rfl (.none rfl) ?_
      refine G_end (X_then (G_seq ?_))
      refine G_cond_t rfl (decide_eq_true (by omega)) ?_
      refine G_skip (X_then (G_seq (G_block (G_seq (G_region ?_)))))
      refine G_val (V_idxAddr rfl rfl rfl (SlE.rd (by assumption)) (by omega) (by omega)) rfl rfl (.none rfl) ?_
      refine G_val (V_loadS rfl rfl (SlE.rd (by assumption)) (by assumption) (by simp)) rfl rfl (.none rfl) ?_
      refine G_val (V_assign rfl rfl) rfl rfl (.none rfl) ?_
      refine G_end (X_then (G_seq (G_region ?_)))
      refine G_val (V_load rfl rfl (Cell.own1 (.head _))) rfl rfl (.none rfl) ?_
      refine G_val (V_move rfl rfl) rfl rfl (.none rfl) ?_
      refine G_callv (k := 91) (.mk rfl rfl rfl rfl) rfl rfl (.none rfl) (has_call _ _ _ _ (by assumption) (by omega)) ?_
      refine G_val (V_not rfl rfl) rfl rfl (.none rfl) ?_
      refine G_end (X_then ?_)
      refine G_cond_f rfl (by simp [*]; done) ?_
      refine G_skip (X_block (X_then (G_region ?_)))
      refine G_val (V_add_i64 rfl rfl rfl (by omega) (by omega)) rfl rfl (.none rfl) ?_
      refine G_val (V_move rfl rfl) rfl rfl (.none rfl) ?_
      refine G_end (X_then ?_)
      exact G_again (i + 1, E1, u) ⟨hE1, hlt, by rw [htk]; exact hf.old huk⟩ (by simp only; omega) ⟨rfl, rfl, rfl, rfl, rfl, rfl, rfl, trivial⟩ rfl rfl
    | false =>
      have hcm := cnt_mono hf.sub
      have hcn := cnt_more hu (show k < 8 by omega) huk
      have hc8 := bitL_le (u ||| 2 ^ k)
      obtain ⟨o1, o2⟩ := or_at hu (show k < 8 by omega)
      refine G_seq (G_region ?_)
      refine G_val (V_lss rfl rfl rfl) rfl rfl (.none rfl) ?_
      refine G_end (X_then (G_seq ?_))
      refine G_cond_t rfl (decide_eq_true (by omega)) ?_
      refine G_skip (X_then (G_seq (G_block (G_seq (G_region ?_)))))
      refine G_val (V_idxAddr rfl rfl rfl (SlE.rd (by assumption)) (by omega) (by omega)) rfl rfl (.none rfl) ?_
      refine G_val (V_loadS rfl rfl (SlE.rd (by assumption)) (by assumption) (by simp)) rfl rfl (.none rfl) ?_
      refine G_val (V_assign rfl rfl) rfl rfl (.none rfl) ?_
      refine G_end (X_then (G_seq (G_region ?_)))
      refine G_val (V_load rfl rfl (Cell.own1 (.head _))) rfl rfl (.none rfl) ?_
      refine G_val (V_move rfl rfl) rfl rfl (.none rfl) ?_
      refine G_callv (k := 91) (.mk rfl rfl rfl rfl) rfl rfl (.none rfl) (has_call _ _ _ _ (by assumption) (by omega)) ?_
      refine G_val (V_not rfl rfl) rfl rfl (.none rfl) ?_
      refine G_end (X_then ?_)
      refine G_cond_t rfl (by simp [*]; done) ?_
      refine G_seq ?_
      (refine G_drawT 4 mixed (by kernel_rfl) ?_; dsimp only [List.take, List.drop])
      refine Q_val (V_load rfl rfl (Cell.own1 (.head _))) rfl rfl (.none rfl) ?_
      refine Q_val (V_move rfl rfl) rfl rfl (.none rfl) ?_
      refine Q_val (V_shl rfl rfl rfl (by omega)) rfl rfl (.none rfl) ?_
      refine Q_val (V_or rfl rfl rfl) rfl rfl (.none rfl) ?_
      refine Q_endT ?_
      refine G_store1 rfl rfl rfl rfl rfl rfl (.none rfl) (.head _ _ _) ?_
      refine G_end (X_then (G_region ?_))
      refine G_val (V_load rfl rfl (Cell.own1 (.tail _ (.tail _ (.head _))))) rfl rfl (.none rfl) ?_
      refine G_val (V_move rfl rfl) rfl rfl (.none rfl) ?_
      rw [o1]
      refine G_call (k := 104) (.mk rfl rfl rfl rfl) rfl rfl (.none rfl) (ih E1 (u ||| 2 ^ k) k (by omega) o2 hkn hsl) ?_
      rintro r E3 L3 hE3 ⟨v, rfl, hfv, rfl⟩
      refine G_end (X_block (X_then (G_region ?_)))
      refine G_val (V_add_i64 rfl rfl rfl (by omega) (by omega)) rfl rfl (.none rfl) ?_
      refine G_val (V_move rfl rfl) rfl rfl (.none rfl) ?_
      refine G_end (X_then ?_)
      exact G_again (i + 1, E3, v) ⟨hE1.trans hE3, hlt, by rw [htk]; exact hf.go h256 hsk hfv⟩ (by simp only; omega) ⟨rfl, rfl, rfl, rfl, rfl, rfl, rfl, trivial⟩ rfl rfl
  · rw [List.take_of_length_le (by omega)] at hf
    refine G_seq (G_region ?_)
    refine G_val (V_lss rfl rfl rfl) rfl rfl (.none rfl) ?_
    refine G_end (X_then (G_seq ?_))
    refine G_cond_f rfl (decide_eq_false (by omega)) ?_
    refine G_exit (X_then_exit (X_then_exit (X_block_hit ?_)))
    refine G_leaveS_n (.keep _ (.keep _ (.keep _ (.nil _)))) (by exact (.nil)) rfl ?_ ?_
    · exact (hE4.trans hE1)
    exact ⟨_, ⟨(by kernel_rfl), ⟨(by assumption), rfl⟩⟩⟩
theorem left_call (E : Env) (L : List Res) (gv : Value) (g : Gr) (hg : GrE E gv g) (hl : Light g) (hc : gcheck g = 0) :
    CallS Try.prog 68 #[gv] E L (fun r E' L' => ∃ p c, r = .slice p (leftM g).length c ∧ SlE E' 1 p (leftM g).length (i64s (natsI (leftM g))) ∧ L' = L) := by
  have hg0 := hg
  obtain ⟨tp, tc, np', nc', pp, pc, rfl, ht, hnm, ⟨rows, hrows, hps, hre⟩, k1, k2, k3⟩ := hg
  have q1 := hl.t; have q2 := hl.n; have q3 := hl.p
  have hv := valid_of hc
  have hnn := hv.names
  have hbl := begM_len g
  refine CallS.intro (l := [_]) _ Try.func68 rfl Try.ntmps68 rfl ?_
  have h256 := begM_lt hv
  have hin := fun i j (h : suc (begM g) i j = true) => begM_in hv h
  refine G_seq (G_region ?_)
  (refine G_boxA rfl rfl rfl rfl (.none rfl) ?_; intro b1)
  refine G_val (V_assign rfl rfl) rfl rfl (.none rfl) ?_
  refine G_end (X_then (G_seq (G_region ?_)))
  refine G_val (V_loadA rfl rfl (Cells.own (.head _)) rfl) rfl rfl (.none rfl) ?_
  refine G_call (k := 69) (.mk rfl rfl rfl rfl) rfl rfl (.none rfl) (begins_call _ _ _ _ (by assumption) (by assumption) (by assumption)) ?_
  rintro r1 E2 L3 hE4 ⟨z5, ⟨rfl, ⟨Z6, rfl⟩⟩⟩
  replace hg0 := hg0.mono hE4
  replace ht := ht.mono hE4
  replace hnm := hnm.mono hE4
  replace hps := hps.mono hE4
  (refine G_alloc rfl rfl rfl (.none rfl) ?_; intro b3)
  refine G_store1 rfl rfl rfl rfl rfl rfl (.none rfl) (.head _ _ _) ?_
  refine G_end (X_then (G_seq (G_region ?_)))
  refine G_val (V_assign rfl rfl) rfl rfl (.none rfl) ?_
  refine G_end (X_then (G_seq (G_seq (G_region ?_))))
  refine G_val (V_load rfl rfl (Cell.own1 (.head _))) rfl rfl (.none rfl) ?_
  refine G_val (V_lenS rfl rfl) rfl rfl (.none rfl) ?_
  refine G_val (V_move rfl rfl) rfl rfl (.none rfl) ?_
  refine G_end (X_then (G_block ?_))
  have hsl : SlE E2 1 (some ⟨z5, 0, none⟩) g.names.length (sets (begM g)) := by assumption
  refine G.nilSl 3 1 ?_
  refine G_loop (α := Nat × Env × Option Addr × Nat) (fun x => [(3, .pointer (some ⟨b3, 0, none⟩)), (4, .slice x.2.2.1 ((List.range x.1).filter fun i => wars (suc (begM g)) g.names.length i i).length x.2.2.2), (11, .int .i64 g.names.length), (12, .int .i64 x.1)]) (fun x => x.2.1)
    (fun x => .sl 3 1 x.2.2.1 ((List.range x.1).filter fun i => wars (suc (begM g)) g.names.length i i).length x.2.2.2 (i64s (natsI ((List.range x.1).filter fun i => wars (suc (begM g)) g.names.length i i))) :: DB b3 (some ⟨z5, 0, none⟩) g.names.length g.names.length :: GB b1 g tp tc np' nc' pp pc :: L)
    (fun x => E2.Le x.2.1 ∧ x.1 ≤ g.names.length) (fun x => g.names.length - x.1) (0, E2, none, 0) ⟨.refl _, Nat.zero_le _⟩ ⟨rfl, rfl, rfl, rfl, trivial⟩ rfl rfl ?_
  rintro ⟨i, E1, a, c⟩ ⟨hE1, hi⟩
  simp only at hE1 hi ⊢
  replace hsl := hsl.mono hE1
  have hle := leftL_le (begM g) g.names.length i
  by_cases hlt : i < g.names.length
  · have hsn := leftL_snoc (begM g) g.names.length i
    generalize hout : (List.range i).filter (fun i => wars (suc (begM g)) g.names.length i i) = out at hle hsn ⊢
    have hol : (i64s (natsI out)).length = out.length := by rw [i64s, List.length_map, natsI_len]
    refine G_seq (G_region ?_)
    refine G_val (V_lss rfl rfl rfl) rfl rfl (.none rfl) ?_
    refine G_end (X_then (G_seq ?_))
    refine G_cond_t rfl (decide_eq_true (by omega)) ?_
    refine G_skip (X_then (G_seq (G_block (G_seq (G_region ?_)))))
    refine G_val (V_move rfl rfl) rfl rfl (.none rfl) ?_
    refine G_val (V_assign rfl rfl) rfl rfl (.none rfl) ?_
    refine G_end (X_then (G_seq (G_region ?_)))
    (refine G_alloc rfl rfl rfl (.none rfl) ?_; intro b6)
    refine G_store1 rfl rfl rfl rfl rfl rfl (.none rfl) (.head _ _ _) ?_
    refine G_end (X_then (G_seq (G_region ?_)))
    (refine G_alloc rfl rfl rfl (.none rfl) ?_; intro b7)
    refine G_end (X_then (G_seq (G_region ?_)))
    refine G_val (V_makeFunc rfl rfl rfl) rfl rfl (.none rfl) ?_
    refine G_store1 rfl rfl rfl rfl rfl rfl (.none rfl) (.head _ _ _) ?_
    refine G_end (X_then (G_seq (G_region ?_)))
    refine G_val (V_load rfl rfl (Cell.own1 (.head _))) rfl rfl (.none rfl) ?_
    refine G_val (V_move rfl rfl) rfl rfl (.none rfl) ?_
    refine G.front (.tail _ (.tail _ (.tail _ (.head _ _)))) ?_
    refine G.front (.tail _ (.tail _ (.head _ _))) ?_
    refine G_call (k := 104) (.mk rfl rfl rfl rfl) rfl rfl (.none rfl) (follow_call (begM g) g.names.length hbl h256 hin hnn.2 (some ⟨z5, 0, none⟩) b3 b6 b7 g.names.length _ 9 E1 0 i (by omega) (by omega) hlt hsl) ?_
    rintro r E3 L3 hE3 ⟨v, rfl, hfv, rfl⟩
    have hvi := hfv.all h256 i
    have hvt := hfv.lt
    rw [← wars_tr hin] at hvi
    cases hb : v.testBit i with
    | true =>
      rw [hvi.1 hb, if_pos rfl] at hsn
      refine G_end (X_then (G_seq (G_region ?_)))
      refine G_val (V_load rfl rfl (Cell.own1 (.head _))) rfl rfl (.none rfl) ?_
      refine G_val (V_move rfl rfl) rfl rfl (.none rfl) ?_
      refine G_callv (k := 91) (.mk rfl rfl rfl rfl) rfl rfl (.none rfl) (has_call _ _ _ _ (by assumption) (by omega)) ?_
      refine G_end (X_then ?_)
      refine G_cond_t rfl (by assumption) ?_
      refine G_region ?_
      refine G_val (V_move rfl rfl) rfl rfl (.none rfl) ?_
      refine G_val (V_move rfl rfl) rfl rfl (.none rfl) ?_
      (refine G_lit1 rfl rfl rfl rfl rfl (.none rfl) ?_; intro b24)
      (refine G_append rfl rfl rfl (Rd.lit (.head _) rfl) (by simp [Value.oneCell']) (by omega) (by omega) rfl rfl (.none rfl) (fun _ _ => (.tail _ (.tail _ (.tail _ (.tail _ (.head _ _ _)))))) ?_; intro a25 c25; refine G.rm (.head _ _) ?_)
      refine G_val (V_assign rfl rfl) rfl rfl (.none rfl) ?_
      refine G_end (X_block (X_then (G_region ?_)))
      refine G_val (V_add_i64 rfl rfl rfl (by omega) (by omega)) rfl rfl (.none rfl) ?_
      refine G_val (V_move rfl rfl) rfl rfl (.none rfl) ?_
      refine G_end (X_then ?_)
      refine G.front (.tail _ (.tail _ (.tail _ (.head _ _)))) ?_
      refine G.front (.tail _ (.head _ _)) ?_
      refine G.drop (G.rm (.tail _ (.tail _ (.head _ _))) ?_)
      refine G_again (i + 1, _, _, _) ⟨hE1.trans hE3, hlt⟩ (by simp only; omega) ⟨rfl, by rw [hsn, List.length_append]; rfl, rfl, rfl, trivial⟩ rfl (by rw [hsn, List.length_append, natsI_snoc, i64s_snoc]; rfl)
    | false =>
      have hw : wars (suc (begM g)) g.names.length i i = false := by
        cases hww : wars (suc (begM g)) g.names.length i i with
        | false => rfl
        | true => rw [hvi.2 hww] at hb; cases hb
      rw [hw, if_neg (by decide), List.append_nil] at hsn
      refine G_end (X_then (G_seq (G_region ?_)))
      refine G_val (V_load rfl rfl (Cell.own1 (.head _))) rfl rfl (.none rfl) ?_
      refine G_val (V_move rfl rfl) rfl rfl (.none rfl) ?_
      refine G_callv (k := 91) (.mk rfl rfl rfl rfl) rfl rfl (.none rfl) (has_call _ _ _ _ (by assumption) (by omega)) ?_
      refine G_end (X_then ?_)
      refine G_cond_f rfl (by assumption) ?_
      refine G_skip (X_block (X_then (G_region ?_)))
      refine G_val (V_add_i64 rfl rfl rfl (by omega) (by omega)) rfl rfl (.none rfl) ?_
      refine G_val (V_move rfl rfl) rfl rfl (.none rfl) ?_
      refine G_end (X_then ?_)
      refine G.front (.tail _ (.tail _ (.tail _ (.head _ _)))) ?_
      refine G.front (.tail _ (.head _ _)) ?_
      refine G.drop (G.rm (.tail _ (.tail _ (.head _ _))) ?_)
      refine G_again (i + 1, _, _, _) ⟨hE1.trans hE3, hlt⟩ (by simp only; omega) ⟨rfl, by rw [hsn]; rfl, rfl, rfl, trivial⟩ rfl (by rw [hsn])
  · have hin2 : i = g.names.length := by omega
    subst hin2
    have hlm : (List.range g.names.length).filter (fun i => wars (suc (begM g)) g.names.length i i) = leftM g := rfl
    rw [hlm] at hle ⊢
    refine G.freezeSl (.head _ _) ?_
    intro E4 hE4 hs4 hc4
    have hE0 : E.Le E1 := Env.Le.trans (by assumption) hE1
    refine G_seq (G_region ?_)
    refine G_val (V_lss rfl rfl rfl) rfl rfl (.none rfl) ?_
    refine G_end (X_then (G_seq ?_))
    refine G_cond_f rfl (decide_eq_false (by omega)) ?_
    refine G_exit (X_then_exit (X_then_exit (X_block_hit (X_then (G_seq (G_region ?_))))))
    refine G_val (V_move rfl rfl) rfl rfl (.none rfl) ?_
    refine G_val (V_assign rfl rfl) rfl rfl (.none rfl) ?_
    refine G_end (X_then (G_ret ?_))
    refine G_leave 2 (.cons (.tmp rfl) .nil) rfl (hE0.trans hE4) ⟨_, _, rfl, hs4, rfl⟩
end Go.Proofs.Ytaoinojdijbhaaa
set_option linter.unusedSimpArgs false
set_option linter.unusedVariables false
set_option maxHeartbeats 2000000
set_option maxRecDepth 20000
namespace Go.Proofs.Ytaoinojdijbhaaa
open Go.RowKit
/-! Lists of lists of numbers. -/
abbrev LRow := Option Addr × Nat × List Int
def lrow (r : LRow) : Value := .slice r.1 r.2.2.length r.2.1
def lrows (rs : List LRow) : List Value := rs.map lrow
def LsE (E : Env) (rs : List LRow) : Prop := ∀ r, r ∈ rs → SlE E 1 r.1 r.2.2.length (i64s r.2.2)
theorem LsE.mono {E E' : Env} {rs : List LRow} (h : LsE E rs) (hE : E.Le E') : LsE E' rs := fun r hr => (h r hr).mono hE
theorem LsE.nil {E : Env} : LsE E [] := fun _ h => by cases h
theorem LsE.cons {E : Env} {r : LRow} {rs : List LRow} (h : SlE E 1 r.1 r.2.2.length (i64s r.2.2)) (hs : LsE E rs) : LsE E (r :: rs) := fun x hx => by
  rcases List.mem_cons.1 hx with h1 | h1
  · rw [h1]; exact h
  · exact hs x h1
theorem LsE.snoc {E : Env} {r : LRow} {rs : List LRow} (hs : LsE E rs) (h : SlE E 1 r.1 r.2.2.length (i64s r.2.2)) : LsE E (rs ++ [r]) := fun x hx => by
  rcases List.mem_append.1 hx with h1 | h1
  · exact hs x h1
  · rw [List.mem_singleton.1 h1]; exact h
theorem lrows_len (rs : List LRow) : (lrows rs).length = rs.length := List.length_map _
theorem lrows_at {rs : List LRow} {i : Nat} (h : i < rs.length) : (lrows rs)[i]? = some (.slice rs[i].1 rs[i].2.2.length rs[i].2.1) := by simp [lrows, lrow, h]
theorem lrows_snoc (rs : List LRow) (r : LRow) : lrows (rs ++ [r]) = lrows rs ++ [.slice r.1 r.2.2.length r.2.1] := by simp [lrows, lrow]
def begL (g : Gr) : List (List Int) := (begM g).map fun s => natsI (bitL s)
section
variable (E : Env) (L : List Res)
theorem Has_call (p : Option Addr) (k c : Nat) (xs : List Int) (hx : SlE E 1 p k (i64s xs)) (hk : k ≤ 9223372036854775806) (m : Int) :
    CallV Try.prog 17 #[.slice p k c, .int .i64 m] E L (.bool (decide (m ∈ xs))) := by
  have e := hx.nI
  subst e
  refine CallS.toV (CallS.intro (l := [_, _]) _ Try.func17 rfl Try.ntmps17 rfl ?_)
  refine G_seq (G_region ?_)
  refine G_val (V_assign rfl rfl) rfl rfl (.none rfl) ?_
  refine G_end (X_then (G_seq (G_seq (G_region ?_))))
  refine G_val (V_assign rfl rfl) rfl rfl (.none rfl) ?_
  refine G_end (X_then (G_block ?_))
  refine G_loop (α := Nat) (fun i => [(0, .slice p xs.length c), (1, .int .i64 m), (5, .int .i64 i)]) (fun _ => E) (fun _ => L)
    (fun i => i ≤ xs.length ∧ ∀ x, x ∈ xs.take i → x ≠ m) (fun i => xs.length - i) 0 ⟨Nat.zero_le _, fun x h => by cases h⟩ ⟨rfl, rfl, rfl, trivial⟩ rfl rfl ?_
  rintro i ⟨hi, hno⟩
  by_cases hlt : i < xs.length
  · have hxi := i64s_at hlt
    by_cases he : xs[i] = m
    · have hm : m ∈ xs := by rw [← he]; exact List.getElem_mem hlt
      rw [decide_eq_true hm]
      refine G_seq (G_seq (G_region ?_))
      refine G_val (V_move rfl rfl) rfl rfl (.none rfl) ?_
      refine G_val (V_move rfl rfl) rfl rfl (.none rfl) ?_
      refine G_val (V_lenS rfl rfl) rfl rfl (.none rfl) ?_
      refine G_val (V_lss rfl rfl rfl) rfl rfl (.none rfl) ?_
      refine G_end (X_then ?_)
      refine G_cond_t rfl (decide_eq_true (by omega)) ?_
      refine G_skip (X_then (G_seq (G_block (G_seq (G_region ?_)))))
      refine G_val (V_move rfl rfl) rfl rfl (.none rfl) ?_
      refine G_val (V_move rfl rfl) rfl rfl (.none rfl) ?_
      refine G_val (V_idxAddr rfl rfl rfl (SlE.rd (by assumption)) (by omega) (by omega)) rfl rfl (.none rfl) ?_
      refine G_val (V_loadS rfl rfl (SlE.rd (by assumption)) (by assumption) (by simp)) rfl rfl (.none rfl) ?_
      refine G_val (V_move rfl rfl) rfl rfl (.none rfl) ?_
      refine G_val (V_eql rfl rfl rfl) rfl rfl (.none rfl) ?_
      refine G_end (X_then ?_)
      refine G_cond_t rfl (decide_eq_true (by omega)) ?_
      refine G_seq (G_region ?_)
      refine G_val (V_assign rfl rfl) rfl rfl (.none rfl) ?_
      refine G_end (X_then (G_ret (X_block_ret (X_then_ret (X_then_ret (X_block_ret (X_then_ret ?_)))))))
      refine G_leaveS (.nil _) (by exact (.cons (.tmp rfl) (.nil))) rfl ?_ ?_
      · exact (.refl _)
      exact ⟨(by kernel_rfl), rfl⟩
    · refine G_seq ?_
      refine G_seq (G_region ?_)
      refine G_val (V_move rfl rfl) rfl rfl (.none rfl) ?_
      refine G_val (V_move rfl rfl) rfl rfl (.none rfl) ?_
      refine G_val (V_lenS rfl rfl) rfl rfl (.none rfl) ?_
      refine G_val (V_lss rfl rfl rfl) rfl rfl (.none rfl) ?_
      refine G_end (X_then ?_)
      refine G_cond_t rfl (decide_eq_true (by omega)) ?_
      refine G_skip (X_then (G_seq (G_block (G_seq (G_region ?_)))))
      refine G_val (V_move rfl rfl) rfl rfl (.none rfl) ?_
      refine G_val (V_move rfl rfl) rfl rfl (.none rfl) ?_
      refine G_val (V_idxAddr rfl rfl rfl (SlE.rd (by assumption)) (by omega) (by omega)) rfl rfl (.none rfl) ?_
      refine G_val (V_loadS rfl rfl (SlE.rd (by assumption)) (by assumption) (by simp)) rfl rfl (.none rfl) ?_
      refine G_val (V_move rfl rfl) rfl rfl (.none rfl) ?_
      refine G_val (V_eql rfl rfl rfl) rfl rfl (.none rfl) ?_
      refine G_end (X_then ?_)
      refine G_cond_f rfl (decide_eq_false (by omega)) ?_
      refine G_skip (X_block (X_then (G_region ?_)))
      refine G_val (V_move rfl rfl) rfl rfl (.none rfl) ?_
      refine G_val (V_add_i64 rfl rfl rfl (by omega) (by omega)) rfl rfl (.none rfl) ?_
      refine G_val (V_assign rfl rfl) rfl rfl (.none rfl) ?_
      refine G_end (X_then ?_)
      exact G_again (i + 1) ⟨hlt, fun x h => by
        rw [List.take_succ_eq_append_getElem hlt] at h
        rcases List.mem_append.1 h with h | h
        · exact hno x h
        · rw [List.mem_singleton.1 h]; exact he⟩ (by omega) ⟨rfl, rfl, rfl, trivial⟩ rfl rfl
  · rw [List.take_of_length_le (by omega)] at hno
    rw [decide_eq_false (fun h => hno m h rfl)]
    refine G_seq (G_seq (G_region ?_))
    refine G_val (V_move rfl rfl) rfl rfl (.none rfl) ?_
    refine G_val (V_move rfl rfl) rfl rfl (.none rfl) ?_
    refine G_val (V_lenS rfl rfl) rfl rfl (.none rfl) ?_
    refine G_val (V_lss rfl rfl rfl) rfl rfl (.none rfl) ?_
    refine G_end (X_then ?_)
    refine G_cond_f rfl (decide_eq_false (by omega)) ?_
    refine G_exit (X_then_exit (X_then_exit (X_block_hit (X_then (G_seq (G_region ?_))))))
    refine G_val (V_assign rfl rfl) rfl rfl (.none rfl) ?_
    refine G_end (X_then (G_ret ?_))
    refine G_leaveS (.nil _) (by exact (.cons (.tmp rfl) (.nil))) rfl ?_ ?_
    · exact (.refl _)
    exact ⟨(by kernel_rfl), rfl⟩
theorem SameLists_call (p q : Option Addr) (n m c d : Nat) (xs ys : List LRow) (hx : SlE E 1 p n (lrows xs)) (hy : SlE E 1 q m (lrows ys)) (hxe : LsE E xs) (hye : LsE E ys) (hn : n ≤ 9223372036854775806) (hm : m ≤ 9223372036854775806)
    (hxl : ∀ r, r ∈ xs → r.2.2.length ≤ 9223372036854775806) (hyl : ∀ r, r ∈ ys → r.2.2.length ≤ 9223372036854775806) :
    CallV Try.prog 23 #[.slice p n c, .slice q m d] E L (.bool (decide (xs.map (·.2.2) = ys.map (·.2.2)))) := by
  have e1 : n = xs.length := by have := hx.1; simp [lrows] at this; omega
  have e2 : m = ys.length := by have := hy.1; simp [lrows] at this; omega
  subst e1 e2
  refine CallS.toV (CallS.intro (l := [_, _]) _ Try.func23 rfl Try.ntmps23 rfl ?_)
  by_cases hl : xs.length = ys.length
  · refine G_seq ?_
    refine G_region ?_
    refine G_val (V_assign rfl rfl) rfl rfl (.none rfl) ?_
    refine G_end (X_then (G_seq (G_seq (G_region ?_))))
    refine G_val (V_move rfl rfl) rfl rfl (.none rfl) ?_
    refine G_val (V_lenS rfl rfl) rfl rfl (.none rfl) ?_
    refine G_val (V_move rfl rfl) rfl rfl (.none rfl) ?_
    refine G_val (V_lenS rfl rfl) rfl rfl (.none rfl) ?_
    refine G_val (V_neq rfl rfl rfl) rfl rfl (.none rfl) ?_
    refine G_end (X_then ?_)
    refine G_cond_f rfl (decide_eq_false (by omega)) ?_
    refine G_skip (X_then (G_seq (G_seq (G_region ?_))))
    refine G_val (V_assign rfl rfl) rfl rfl (.none rfl) ?_
    refine G_end (X_then (G_block ?_))
    refine G_loop (α := Nat) (fun i => [(0, .slice p xs.length c), (1, .slice q ys.length d), (5, .int .i64 i)]) (fun _ => E) (fun _ => L)
      (fun i => i ≤ xs.length ∧ (xs.take i).map (·.2.2) = (ys.take i).map (·.2.2)) (fun i => xs.length - i) 0 ⟨Nat.zero_le _, rfl⟩ ⟨rfl, rfl, rfl, trivial⟩ rfl rfl ?_
    rintro i ⟨hi, hsame⟩
    by_cases hlt : i < xs.length
    · have hlt2 : i < ys.length := by omega
      have h1 := lrows_at hlt
      have h2 := lrows_at hlt2
      have s1 := hxe _ (List.getElem_mem hlt)
      have s2 := hye _ (List.getElem_mem hlt2)
      have l1 := hxl _ (List.getElem_mem hlt)
      have l2 := hyl _ (List.getElem_mem hlt2)
      by_cases he : xs[i].2.2 = ys[i].2.2
      · have hd : decide (xs[i].2.2 = ys[i].2.2) = true := decide_eq_true he
        refine G_seq (G_seq (G_region ?_))
        refine G_val (V_move rfl rfl) rfl rfl (.none rfl) ?_
        refine G_val (V_move rfl rfl) rfl rfl (.none rfl) ?_
        refine G_val (V_lenS rfl rfl) rfl rfl (.none rfl) ?_
        refine G_val (V_lss rfl rfl rfl) rfl rfl (.none rfl) ?_
        refine G_end (X_then ?_)
        refine G_cond_t rfl (decide_eq_true (by omega)) ?_
        refine G_skip (X_then (G_seq (G_block (G_seq ?_))))
        refine G_draw mixed (by kernel_rfl) ?_
        refine Q_val (V_move rfl rfl) rfl rfl (.none rfl) ?_
        refine Q_val (V_move rfl rfl) rfl rfl (.none rfl) ?_
        refine Q_val (V_idxAddr rfl rfl rfl (SlE.rd (by assumption)) (by omega) (by omega)) rfl rfl (.none rfl) ?_
        refine Q_val (V_loadS rfl rfl (SlE.rd (by assumption)) (by assumption) (by simp)) rfl rfl (.none rfl) ?_
        refine Q_val (V_move rfl rfl) rfl rfl (.none rfl) ?_
        refine Q_val (V_move rfl rfl) rfl rfl (.none rfl) ?_
        refine Q_val (V_idxAddr rfl rfl rfl (SlE.rd (by assumption)) (by omega) (by omega)) rfl rfl (.none rfl) ?_
        refine Q_val (V_loadS rfl rfl (SlE.rd (by assumption)) (by assumption) (by simp)) rfl rfl (.none rfl) ?_
        refine Q_callv (k := 27) (.mk rfl rfl rfl rfl) rfl rfl (.none rfl) (SameInts_call' _ _ _ _ _ _ _ _ _ _ (by assumption) (by assumption) (by assumption) (by assumption)) ?_
        refine Q_val (V_not rfl rfl) rfl rfl (.none rfl) ?_
        refine Q_end ?_
        refine X_then ?_
        refine G_cond_f rfl (by simp [*]; done) ?_
        refine G_skip (X_block (X_then (G_region ?_)))
        refine G_val (V_move rfl rfl) rfl rfl (.none rfl) ?_
        refine G_val (V_add_i64 rfl rfl rfl (by omega) (by omega)) rfl rfl (.none rfl) ?_
        refine G_val (V_assign rfl rfl) rfl rfl (.none rfl) ?_
        refine G_end (X_then ?_)
        exact G_again (i + 1) ⟨hlt, by
          rw [List.take_succ_eq_append_getElem hlt, List.take_succ_eq_append_getElem hlt2, List.map_append, List.map_append, hsame]
          simp [he]⟩ (by omega) ⟨rfl, rfl, rfl, trivial⟩ rfl rfl
      · have hd : decide (xs[i].2.2 = ys[i].2.2) = false := decide_eq_false he
        have hne : xs.map (·.2.2) ≠ ys.map (·.2.2) := fun h => he (by
          have := congrArg (fun l => l[i]?) h
          simpa [hlt, hlt2] using this)
        rw [decide_eq_false hne]
        refine G_seq (G_seq (G_region ?_))
        refine G_val (V_move rfl rfl) rfl rfl (.none rfl) ?_
        refine G_val (V_move rfl rfl) rfl rfl (.none rfl) ?_
        refine G_val (V_lenS rfl rfl) rfl rfl (.none rfl) ?_
        refine G_val (V_lss rfl rfl rfl) rfl rfl (.none rfl) ?_
        refine G_end (X_then ?_)
        refine G_cond_t rfl (decide_eq_true (by omega)) ?_
        refine G_skip (X_then (G_seq (G_block (G_seq ?_))))
        refine G_draw mixed (by kernel_rfl) ?_
        refine Q_val (V_move rfl rfl) rfl rfl (.none rfl) ?_
        refine Q_val (V_move rfl rfl) rfl rfl (.none rfl) ?_
        refine Q_val (V_idxAddr rfl rfl rfl (SlE.rd (by assumption)) (by omega) (by omega)) rfl rfl (.none rfl) ?_
        refine Q_val (V_loadS rfl rfl (SlE.rd (by assumption)) (by assumption) (by simp)) rfl rfl (.none rfl) ?_
        refine Q_val (V_move rfl rfl) rfl rfl (.none rfl) ?_
        refine Q_val (V_move rfl rfl) rfl rfl (.none rfl) ?_
        refine Q_val (V_idxAddr rfl rfl rfl (SlE.rd (by assumption)) (by omega) (by omega)) rfl rfl (.none rfl) ?_
        refine Q_val (V_loadS rfl rfl (SlE.rd (by assumption)) (by assumption) (by simp)) rfl rfl (.none rfl) ?_
        refine Q_callv (k := 27) (.mk rfl rfl rfl rfl) rfl rfl (.none rfl) (SameInts_call' _ _ _ _ _ _ _ _ _ _ (by assumption) (by assumption) (by assumption) (by assumption)) ?_
        refine Q_val (V_not rfl rfl) rfl rfl (.none rfl) ?_
        refine Q_end ?_
        refine X_then ?_
        refine G_cond_t rfl (by simp [*]; done) ?_
        refine G_seq (G_region ?_)
        refine G_val (V_assign rfl rfl) rfl rfl (.none rfl) ?_
        refine G_end (X_then (G_ret (X_block_ret (X_then_ret (X_then_ret (X_block_ret (X_then_ret ?_)))))))
        refine G_leaveS (.nil _) (by exact (.cons (.tmp rfl) (.nil))) rfl ?_ ?_
        · exact (.refl _)
        exact ⟨(by kernel_rfl), rfl⟩
    · rw [List.take_of_length_le (by omega), List.take_of_length_le (by omega)] at hsame
      rw [decide_eq_true hsame]
      refine G_seq (G_seq (G_region ?_))
      refine G_val (V_move rfl rfl) rfl rfl (.none rfl) ?_
      refine G_val (V_move rfl rfl) rfl rfl (.none rfl) ?_
      refine G_val (V_lenS rfl rfl) rfl rfl (.none rfl) ?_
      refine G_val (V_lss rfl rfl rfl) rfl rfl (.none rfl) ?_
      refine G_end (X_then ?_)
      refine G_cond_f rfl (decide_eq_false (by omega)) ?_
      refine G_exit (X_then_exit (X_then_exit (X_block_hit (X_then (G_seq (G_region ?_))))))
      refine G_val (V_assign rfl rfl) rfl rfl (.none rfl) ?_
      refine G_end (X_then (G_ret ?_))
      refine G_leaveS (.nil _) (by exact (.cons (.tmp rfl) (.nil))) rfl ?_ ?_
      · exact (.refl _)
      exact ⟨(by kernel_rfl), rfl⟩
  · have hne : xs.map (·.2.2) ≠ ys.map (·.2.2) := fun h => hl (by
      have := congrArg List.length h
      simpa using this)
    rw [decide_eq_false hne]
    refine G_seq (G_region ?_)
    refine G_val (V_assign rfl rfl) rfl rfl (.none rfl) ?_
    refine G_end (X_then (G_seq (G_seq (G_region ?_))))
    refine G_val (V_move rfl rfl) rfl rfl (.none rfl) ?_
    refine G_val (V_lenS rfl rfl) rfl rfl (.none rfl) ?_
    refine G_val (V_move rfl rfl) rfl rfl (.none rfl) ?_
    refine G_val (V_lenS rfl rfl) rfl rfl (.none rfl) ?_
    refine G_val (V_neq rfl rfl rfl) rfl rfl (.none rfl) ?_
    refine G_end (X_then ?_)
    refine G_cond_t rfl (decide_eq_true (by omega)) ?_
    refine G_seq (G_region ?_)
    refine G_val (V_assign rfl rfl) rfl rfl (.none rfl) ?_
    refine G_end (X_then (G_ret (X_then_ret ?_)))
    refine G_leaveS (.nil _) (by exact (.cons (.tmp rfl) (.nil))) rfl ?_ ?_
    · exact (.refl _)
    exact ⟨(by kernel_rfl), rfl⟩
end
end Go.Proofs.Ytaoinojdijbhaaa
set_option linter.unusedSimpArgs false
set_option linter.unusedVariables false
set_option maxHeartbeats 2000000
set_option maxRecDepth 20000
namespace Go.Proofs.Ytaoinojdijbhaaa
open Go.RowKit
theorem begL_len (g : Gr) : (begL g).length = g.names.length := by rw [begL, List.length_map, begM_len]
theorem leftM_le (g : Gr) : (leftM g).length ≤ g.names.length := leftL_le _ _ _
section
variable (E : Env) (L : List Res)
theorem Left_call (gv : Value) (g : Gr) (hg : GrE E gv g) (hl : Light g) : CallS Try.prog 15 #[gv] E L (fun r E' L' => ∃ p c, r = .tuple #[.slice p (okL g (leftM g)).length c, .int .i64 (gcheck g)] ∧ SlE E' 1 p (okL g (leftM g)).length (i64s (natsI (okL g (leftM g)))) ∧ L' = L) := by
  have hg0 := hg
  obtain ⟨tp, tc, np, nc, pp, pc, rfl, ht, hn, ⟨rows, hrows, hps, hre⟩, k1, k2, k3⟩ := hg
  refine CallS.intro (l := [_]) _ Try.func15 rfl Try.ntmps15 rfl ?_
  by_cases hv : gcheck g = 0
  · have q2 := hl.n
    rw [okL_pos hv, hv]
    refine G_seq (G_region ?_)
    (refine G_boxA rfl rfl rfl rfl (.none rfl) ?_; intro b1)
    refine G_val (V_assign rfl rfl) rfl rfl (.none rfl) ?_
    refine G_val (V_assign rfl rfl) rfl rfl (.none rfl) ?_
    refine G_end (X_then (G_seq (G_seq (G_region ?_))))
    refine G_val (V_loadA rfl rfl (Cells.own (.head _)) rfl) rfl rfl (.none rfl) ?_
    refine G_callv (k := 67) (.mk rfl rfl rfl rfl) rfl rfl (.none rfl) (GCheck_call _ _ _ _ (by assumption) (by assumption)) ?_
    refine G_val (V_assign rfl rfl) rfl rfl (.none rfl) ?_
    refine G_end (X_then (G_seq (G_region ?_)))
    refine G_val (V_move rfl rfl) rfl rfl (.none rfl) ?_
    refine G_val (V_neq rfl rfl rfl) rfl rfl (.none rfl) ?_
    refine G_end (X_then ?_)
    refine G_cond_f rfl (decide_eq_false (by omega)) ?_
    refine G_skip (X_then (G_seq (G_region ?_)))
    refine G_val (V_loadA rfl rfl (Cells.own (.head _)) rfl) rfl rfl (.none rfl) ?_
    refine G_call (k := 68) (.mk rfl rfl rfl rfl) rfl rfl (.none rfl) (left_call _ _ _ _ (by assumption) (by assumption) (by assumption)) ?_
    rintro r1 E2 L3 hE4 ⟨z5, ⟨z6, ⟨rfl, ⟨Z7, rfl⟩⟩⟩⟩
    replace hg0 := hg0.mono hE4
    replace ht := ht.mono hE4
    replace hn := hn.mono hE4
    replace hps := hps.mono hE4
    refine G_val (V_assign rfl rfl) rfl rfl (.none rfl) ?_
    refine G_val (V_assign rfl rfl) rfl rfl (.none rfl) ?_
    refine G_end (X_then (G_ret ?_))
    refine G_leaveS (.drop _ (.nil _)) (by exact (.cons (.tmp rfl) (.cons (.tmp rfl) (.nil)))) rfl ?_ ?_
    · exact hE4
    exact ⟨_, ⟨_, ⟨rfl, ⟨(by assumption), rfl⟩⟩⟩⟩
  · rw [okL_neg hv]
    have hnil := @SlE.nil E 1
    refine G_seq (G_region ?_)
    (refine G_boxA rfl rfl rfl rfl (.none rfl) ?_; intro b1)
    refine G_val (V_assign rfl rfl) rfl rfl (.none rfl) ?_
    refine G_val (V_assign rfl rfl) rfl rfl (.none rfl) ?_
    refine G_end (X_then (G_seq (G_seq (G_region ?_))))
    refine G_val (V_loadA rfl rfl (Cells.own (.head _)) rfl) rfl rfl (.none rfl) ?_
    refine G_callv (k := 67) (.mk rfl rfl rfl rfl) rfl rfl (.none rfl) (GCheck_call _ _ _ _ (by assumption) (by assumption)) ?_
    refine G_val (V_assign rfl rfl) rfl rfl (.none rfl) ?_
    refine G_end (X_then (G_seq (G_region ?_)))
    refine G_val (V_move rfl rfl) rfl rfl (.none rfl) ?_
    refine G_val (V_neq rfl rfl rfl) rfl rfl (.none rfl) ?_
    refine G_end (X_then ?_)
    refine G_cond_t rfl (decide_eq_true (by omega)) ?_
    refine G_seq (G_region ?_)
    refine G_val (V_move rfl rfl) rfl rfl (.none rfl) ?_
    refine G_val (V_assign rfl rfl) rfl rfl (.none rfl) ?_
    refine G_val (V_assign rfl rfl) rfl rfl (.none rfl) ?_
    refine G_end (X_then (G_ret (X_then_ret ?_)))
    refine G_leaveS (.drop _ (.nil _)) (by exact (.cons (.tmp rfl) (.cons (.tmp rfl) (.nil)))) rfl ?_ ?_
    · exact (.refl _)
    exact ⟨_, ⟨_, ⟨rfl, ⟨(by assumption), rfl⟩⟩⟩⟩
/-- The error of left recursion, and the first nonterminal. -/
def rcheck (g : Gr) : Int := if gcheck g = 0 then (match leftM g with | [] => 0 | _ :: _ => 17) else gcheck g
def rfirst (g : Gr) : Int := if gcheck g = 0 then (match leftM g with | [] => 0 | n :: _ => (n : Int)) else 0
theorem RCheck_call (gv : Value) (g : Gr) (hg : GrE E gv g) (hl : Light g) : CallS Try.prog 28 #[gv] E L (fun r E' L' => r = .tuple #[.int .i64 (rcheck g), .int .i64 (rfirst g)] ∧ L' = L) := by
  have hg0 := hg
  obtain ⟨tp, tc, np, nc, pp, pc, rfl, ht, hn, ⟨rows, hrows, hps, hre⟩, k1, k2, k3⟩ := hg
  have q2 := hl.n
  have hll := leftM_le g
  refine CallS.intro (l := [_]) _ Try.func28 rfl Try.ntmps28 rfl ?_
  by_cases hv : gcheck g = 0
  · cases hle : leftM g with
    | nil =>
      rw [rcheck, rfirst, if_pos hv, if_pos hv, hle]
      have hnil : (okL g (leftM g)).length = 0 := by rw [okL_pos hv, hle]; rfl
      refine G_seq (G_region ?_)
      (refine G_boxA rfl rfl rfl rfl (.none rfl) ?_; intro b1)
      refine G_val (V_assign rfl rfl) rfl rfl (.none rfl) ?_
      refine G_val (V_assign rfl rfl) rfl rfl (.none rfl) ?_
      refine G_end (X_then (G_seq (G_region ?_)))
      refine G_val (V_loadA rfl rfl (Cells.own (.head _)) rfl) rfl rfl (.none rfl) ?_
      refine G_call (k := 15) (.mk rfl rfl rfl rfl) rfl rfl (.none rfl) (Left_call _ _ _ _ (by assumption) (by assumption)) ?_
      rintro r1 E2 L3 hE4 ⟨z5, ⟨z6, ⟨rfl, ⟨Z7, rfl⟩⟩⟩⟩
      replace hg0 := hg0.mono hE4
      replace ht := ht.mono hE4
      replace hn := hn.mono hE4
      replace hps := hps.mono hE4
      refine G_val (V_move rfl rfl) rfl rfl (.none rfl) ?_
      refine G_val (V_extract rfl rfl rfl) rfl rfl (.none rfl) ?_
      refine G_val (V_extract rfl rfl rfl) rfl rfl (.none rfl) ?_
      refine G_val (V_assign rfl rfl) rfl rfl (.none rfl) ?_
      refine G_val (V_assign rfl rfl) rfl rfl (.none rfl) ?_
      refine G_end (X_then (G_seq (G_seq (G_region ?_))))
      refine G_val (V_move rfl rfl) rfl rfl (.none rfl) ?_
      refine G_val (V_eql rfl rfl rfl) rfl rfl (.none rfl) ?_
      refine G_val (V_move rfl rfl) rfl rfl (.none rfl) ?_
      refine G.bool_t 13 rfl (decide_eq_true (by omega)) ?_
      refine G_val (V_move rfl rfl) rfl rfl (.yes rfl rfl rfl rfl) ?_
      refine G_val (V_lenS rfl rfl) rfl rfl (.yes rfl rfl rfl rfl) ?_
      refine G_val (V_gtr rfl rfl rfl) rfl rfl (.yes rfl rfl rfl rfl) ?_
      refine G_val (V_pick_t rfl rfl rfl) rfl rfl (.none rfl) ?_
      refine G_end (X_then ?_)
      refine G_cond_f rfl (decide_eq_false (by omega)) ?_
      refine G_skip (X_then (G_seq (G_region ?_)))
      refine G_val (V_move rfl rfl) rfl rfl (.none rfl) ?_
      refine G_val (V_assign rfl rfl) rfl rfl (.none rfl) ?_
      refine G_val (V_assign rfl rfl) rfl rfl (.none rfl) ?_
      refine G_end (X_then (G_ret ?_))
      refine G_leaveS (.drop _ (.nil _)) (by exact (.cons (.tmp rfl) (.cons (.tmp rfl) (.nil)))) rfl ?_ ?_
      · exact hE4
      exact ⟨(by (simp [resVal, *]; done)), (by rfl)⟩
    | cons n r =>
      rw [rcheck, rfirst, if_pos hv, if_pos hv, hle]
      have hlen : (okL g (leftM g)).length = r.length + 1 := by rw [okL_pos hv, hle]; rfl
      have hat : (i64s (natsI (okL g (leftM g))))[0]? = some (.int .i64 (n : Int)) := by rw [okL_pos hv, hle]; rfl
      rw [hle, List.length_cons] at hll
      refine G_seq (G_region ?_)
      (refine G_boxA rfl rfl rfl rfl (.none rfl) ?_; intro b1)
      refine G_val (V_assign rfl rfl) rfl rfl (.none rfl) ?_
      refine G_val (V_assign rfl rfl) rfl rfl (.none rfl) ?_
      refine G_end (X_then (G_seq (G_region ?_)))
      refine G_val (V_loadA rfl rfl (Cells.own (.head _)) rfl) rfl rfl (.none rfl) ?_
      refine G_call (k := 15) (.mk rfl rfl rfl rfl) rfl rfl (.none rfl) (Left_call _ _ _ _ (by assumption) (by assumption)) ?_
      rintro r1 E2 L3 hE4 ⟨z5, ⟨z6, ⟨rfl, ⟨Z7, rfl⟩⟩⟩⟩
      replace hg0 := hg0.mono hE4
      replace ht := ht.mono hE4
      replace hn := hn.mono hE4
      replace hps := hps.mono hE4
      refine G_val (V_move rfl rfl) rfl rfl (.none rfl) ?_
      refine G_val (V_extract rfl rfl rfl) rfl rfl (.none rfl) ?_
      refine G_val (V_extract rfl rfl rfl) rfl rfl (.none rfl) ?_
      refine G_val (V_assign rfl rfl) rfl rfl (.none rfl) ?_
      refine G_val (V_assign rfl rfl) rfl rfl (.none rfl) ?_
      refine G_end (X_then (G_seq (G_seq (G_region ?_))))
      refine G_val (V_move rfl rfl) rfl rfl (.none rfl) ?_
      refine G_val (V_eql rfl rfl rfl) rfl rfl (.none rfl) ?_
      refine G_val (V_move rfl rfl) rfl rfl (.none rfl) ?_
      refine G.bool_t 13 rfl (decide_eq_true (by omega)) ?_
      refine G_val (V_move rfl rfl) rfl rfl (.yes rfl rfl rfl rfl) ?_
      refine G_val (V_lenS rfl rfl) rfl rfl (.yes rfl rfl rfl rfl) ?_
      refine G_val (V_gtr rfl rfl rfl) rfl rfl (.yes rfl rfl rfl rfl) ?_
      refine G_val (V_pick_t rfl rfl rfl) rfl rfl (.none rfl) ?_
      refine G_end (X_then ?_)
      refine G_cond_t rfl (decide_eq_true (by omega)) ?_
      refine G_seq ?_
      refine G_draw mixed (by kernel_rfl) ?_
      refine Q_val (V_move rfl rfl) rfl rfl (.none rfl) ?_
      refine Q_val (V_idxAddr rfl rfl rfl (SlE.rd (by assumption)) (by omega) (by omega)) rfl rfl (.none rfl) ?_
      refine Q_val (V_loadS rfl rfl (SlE.rd (by assumption)) (by assumption) (by simp)) rfl rfl (.none rfl) ?_
      refine Q_val (V_assign rfl rfl) rfl rfl (.none rfl) ?_
      refine Q_val (V_assign rfl rfl) rfl rfl (.none rfl) ?_
      refine Q_end ?_
      refine X_then (G_ret (X_then_ret ?_))
      refine G_leaveS (.drop _ (.nil _)) (by exact (.cons (.tmp rfl) (.cons (.tmp rfl) (.nil)))) rfl ?_ ?_
      · exact hE4
      exact ⟨rfl, rfl⟩
  · rw [rcheck, rfirst, if_neg hv, if_neg hv]
    refine G_seq (G_region ?_)
    (refine G_boxA rfl rfl rfl rfl (.none rfl) ?_; intro b1)
    refine G_val (V_assign rfl rfl) rfl rfl (.none rfl) ?_
    refine G_val (V_assign rfl rfl) rfl rfl (.none rfl) ?_
    refine G_end (X_then (G_seq (G_region ?_)))
    refine G_val (V_loadA rfl rfl (Cells.own (.head _)) rfl) rfl rfl (.none rfl) ?_
    refine G_call (k := 15) (.mk rfl rfl rfl rfl) rfl rfl (.none rfl) (Left_call _ _ _ _ (by assumption) (by assumption)) ?_
    rintro r1 E2 L3 hE4 ⟨z5, ⟨z6, ⟨rfl, ⟨Z7, rfl⟩⟩⟩⟩
    replace hg0 := hg0.mono hE4
    replace ht := ht.mono hE4
    replace hn := hn.mono hE4
    replace hps := hps.mono hE4
    refine G_val (V_move rfl rfl) rfl rfl (.none rfl) ?_
    refine G_val (V_extract rfl rfl rfl) rfl rfl (.none rfl) ?_
    refine G_val (V_extract rfl rfl rfl) rfl rfl (.none rfl) ?_
    refine G_val (V_assign rfl rfl) rfl rfl (.none rfl) ?_
    refine G_val (V_assign rfl rfl) rfl rfl (.none rfl) ?_
    refine G_end (X_then (G_seq (G_seq (G_region ?_))))
    refine G_val (V_move rfl rfl) rfl rfl (.none rfl) ?_
    refine G_val (V_eql rfl rfl rfl) rfl rfl (.none rfl) ?_
    refine G_val (V_move rfl rfl) rfl rfl (.none rfl) ?_
    refine G.bool_f 13 rfl (decide_eq_false (by omega)) ?_
    refine G_stay (.no rfl rfl rfl rfl) rfl rfl ?_
    refine G_stay (.no rfl rfl rfl rfl) rfl rfl ?_
    refine G_stay (.no rfl rfl rfl rfl) rfl rfl ?_
    refine G_val (V_pick_f rfl rfl rfl) rfl rfl (.none rfl) ?_
    refine G_end (X_then ?_)
    refine G_cond_f rfl rfl ?_
    refine G_skip (X_then (G_seq (G_region ?_)))
    refine G_val (V_move rfl rfl) rfl rfl (.none rfl) ?_
    refine G_val (V_assign rfl rfl) rfl rfl (.none rfl) ?_
    refine G_val (V_assign rfl rfl) rfl rfl (.none rfl) ?_
    refine G_end (X_then (G_ret ?_))
    refine G_leaveS (.drop _ (.nil _)) (by exact (.cons (.tmp rfl) (.cons (.tmp rfl) (.nil)))) rfl ?_ ?_
    · exact hE4
    exact ⟨rfl, rfl⟩
theorem Left_call' (gv : Value) (g : Gr) (hg : GrE E gv g) (hl : Light g) (hc : gcheck g = 0) : CallS Try.prog 15 #[gv] E L (fun r E' L' => ∃ p c, r = .tuple #[.slice p (leftM g).length c, .int .i64 0] ∧ SlE E' 1 p (leftM g).length (i64s (natsI (leftM g))) ∧ L' = L) := by
  have h := Left_call E L gv g hg hl
  rwa [okL_pos hc, hc] at h
theorem By_call (gv : Value) (g : Gr) (hg : GrE E gv g) (hl : Light g) (hc : gcheck g = 0) (p : Nat) (hp : p < g.prods.length) : CallS Try.prog 24 #[gv, .int .i64 p] E L (fun r E' L' => ∃ q c, r = .tuple #[.slice q (bitL (byS (nullM g) (g.prods.getD p (0, [])).2)).length c, .int .i64 0] ∧ SlE E' 1 q (bitL (byS (nullM g) (g.prods.getD p (0, [])).2)).length (i64s (natsI (bitL (byS (nullM g) (g.prods.getD p (0, [])).2)))) ∧ L' = L) := by
  have hg0 := hg
  obtain ⟨tp, tc, np, nc, pp, pc, rfl, ht, hn, ⟨rows, hrows, hps, hre⟩, k1, k2, k3⟩ := hg
  have q1 := hl.t; have q2 := hl.n; have q3 := hl.p
  have hv := valid_of hc
  have h256 : byS (nullM g) (g.prods.getD p (0, [])).2 < 256 := byS_lt' hv (by rw [List.getD, List.getElem?_eq_getElem hp]; exact List.getElem_mem hp)
  refine CallS.intro (l := [_, _]) _ Try.func24 rfl Try.ntmps24 rfl ?_
  refine G_seq (G_region ?_)
  (refine G_boxA rfl rfl rfl rfl (.none rfl) ?_; intro b2)
  refine G_val (V_assign rfl rfl) rfl rfl (.none rfl) ?_
  refine G_val (V_assign rfl rfl) rfl rfl (.none rfl) ?_
  refine G_end (X_then (G_seq (G_seq (G_region ?_))))
  refine G_val (V_loadA rfl rfl (Cells.own (.head _)) rfl) rfl rfl (.none rfl) ?_
  refine G_callv (k := 67) (.mk rfl rfl rfl rfl) rfl rfl (.none rfl) (GCheck_call _ _ _ _ (by assumption) (by assumption)) ?_
  refine G_val (V_assign rfl rfl) rfl rfl (.none rfl) ?_
  refine G_end (X_then (G_seq (G_region ?_)))
  refine G_val (V_move rfl rfl) rfl rfl (.none rfl) ?_
  refine G_val (V_neq rfl rfl rfl) rfl rfl (.none rfl) ?_
  refine G_end (X_then ?_)
  refine G_cond_f rfl (decide_eq_false (by omega)) ?_
  refine G_skip (X_then (G_seq (G_seq (G_region ?_))))
  refine G_val (V_move rfl rfl) rfl rfl (.none rfl) ?_
  refine G_val (V_lss rfl rfl rfl) rfl rfl (.none rfl) ?_
  refine G_val (V_move rfl rfl) rfl rfl (.none rfl) ?_
  refine G.bool_f 16 rfl (decide_eq_false (by omega)) ?_
  refine G_val (V_move rfl rfl) rfl rfl (.yes rfl rfl rfl rfl) ?_
  refine G_val (V_fieldAddr rfl rfl (by decide)) rfl rfl (.yes rfl rfl rfl rfl) ?_
  refine G_val (V_load rfl rfl (Cell.own (.head _) rfl)) rfl rfl (.yes rfl rfl rfl rfl) ?_
  refine G_val (V_lenS rfl rfl) rfl rfl (.yes rfl rfl rfl rfl) ?_
  refine G_val (V_geq rfl rfl rfl) rfl rfl (.yes rfl rfl rfl rfl) ?_
  refine G_val (V_pick_f rfl rfl rfl) rfl rfl (.none rfl) ?_
  refine G_end (X_then ?_)
  refine G_cond_f rfl (decide_eq_false (by omega)) ?_
  refine G_skip (X_then (G_seq (G_region ?_)))
  refine G_val (V_loadA rfl rfl (Cells.own (.head _)) rfl) rfl rfl (.none rfl) ?_
  refine G_call (k := 38) (.mk rfl rfl rfl rfl) rfl rfl (.none rfl) (Nullable_call' _ _ _ _ (by assumption) (by assumption) (by assumption)) ?_
  rintro r1 E2 L3 hE4 ⟨z5, ⟨z6, ⟨rfl, ⟨Z7, rfl⟩⟩⟩⟩
  replace hg0 := hg0.mono hE4
  replace ht := ht.mono hE4
  replace hn := hn.mono hE4
  replace hps := hps.mono hE4
  refine G_val (V_move rfl rfl) rfl rfl (.none rfl) ?_
  refine G_val (V_extract rfl rfl rfl) rfl rfl (.none rfl) ?_
  refine G_val (V_extract rfl rfl rfl) rfl rfl (.none rfl) ?_
  refine G_val (V_assign rfl rfl) rfl rfl (.none rfl) ?_
  refine G_val (V_assign rfl rfl) rfl rfl (.none rfl) ?_
  refine G_end (X_then (G_seq (G_region ?_)))
  refine G_val (V_loadA rfl rfl (Cells.own (.head _)) rfl) rfl rfl (.none rfl) ?_
  refine G_val (V_move rfl rfl) rfl rfl (.none rfl) ?_
  refine G_val (V_move rfl rfl) rfl rfl (.none rfl) ?_
  refine G_callv (k := 76) (.mk rfl rfl rfl rfl) rfl rfl (.none rfl) (by_call _ _ _ _ (by assumption) (by assumption) (by assumption) _ _ (by assumption) _ (by assumption)) ?_
  refine G_call (k := 70) (.mk rfl rfl rfl rfl) rfl rfl (.none rfl) (list_call _ _ _ (by assumption)) ?_
  rintro r8 E9 L10 hE11 ⟨z12, ⟨z13, ⟨rfl, ⟨Z14, rfl⟩⟩⟩⟩
  replace Z7 := Z7.mono hE11
  replace hg0 := hg0.mono hE11
  replace ht := ht.mono hE11
  replace hn := hn.mono hE11
  replace hps := hps.mono hE11
  refine G_val (V_assign rfl rfl) rfl rfl (.none rfl) ?_
  refine G_val (V_assign rfl rfl) rfl rfl (.none rfl) ?_
  refine G_end (X_then (G_ret ?_))
  refine G_leaveS (.drop _ (.nil _)) (by exact (.cons (.tmp rfl) (.cons (.tmp rfl) (.nil)))) rfl ?_ ?_
  · exact (hE4.trans hE11)
  exact ⟨_, ⟨_, ⟨rfl, ⟨(by assumption), rfl⟩⟩⟩⟩
theorem RBegins_call (gv : Value) (g : Gr) (hg : GrE E gv g) (hl : Light g) (hc : gcheck g = 0) : CallS Try.prog 16 #[gv] E L (fun r E' L' => ∃ p c rows, r = .tuple #[.slice p g.names.length c, .int .i64 0] ∧ SlE E' 1 p g.names.length (lrows rows) ∧ LsE E' rows ∧ rows.map (·.2.2) = begL g ∧ L' = L) := by
  have hg0 := hg
  obtain ⟨tp, tc, np, nc, pp, pc, rfl, ht, hn, ⟨rows, hrows, hps, hre⟩, k1, k2, k3⟩ := hg
  have q1 := hl.t; have q2 := hl.n; have q3 := hl.p
  have hv := valid_of hc
  have h256 := begM_lt hv
  have hbl := begM_len g
  refine CallS.intro (l := [_]) _ Try.func16 rfl Try.ntmps16 rfl ?_
  refine G_seq (G_region ?_)
  (refine G_boxA rfl rfl rfl rfl (.none rfl) ?_; intro b1)
  refine G_val (V_assign rfl rfl) rfl rfl (.none rfl) ?_
  refine G_val (V_assign rfl rfl) rfl rfl (.none rfl) ?_
  refine G_end (X_then (G_seq (G_seq (G_region ?_))))
  refine G_val (V_loadA rfl rfl (Cells.own (.head _)) rfl) rfl rfl (.none rfl) ?_
  refine G_callv (k := 67) (.mk rfl rfl rfl rfl) rfl rfl (.none rfl) (GCheck_call _ _ _ _ (by assumption) (by assumption)) ?_
  refine G_val (V_assign rfl rfl) rfl rfl (.none rfl) ?_
  refine G_end (X_then (G_seq (G_region ?_)))
  refine G_val (V_move rfl rfl) rfl rfl (.none rfl) ?_
  refine G_val (V_neq rfl rfl rfl) rfl rfl (.none rfl) ?_
  refine G_end (X_then ?_)
  refine G_cond_f rfl (decide_eq_false (by omega)) ?_
  refine G_skip (X_then (G_seq (G_region ?_)))
  refine G_val (V_assign rfl rfl) rfl rfl (.none rfl) ?_
  refine G_end (X_then (G_seq (G_seq (G_region ?_))))
  refine G_val (V_loadA rfl rfl (Cells.own (.head _)) rfl) rfl rfl (.none rfl) ?_
  refine G_call (k := 69) (.mk rfl rfl rfl rfl) rfl rfl (.none rfl) (begins_call _ _ _ _ (by assumption) (by assumption) (by assumption)) ?_
  rintro r1 E2 L3 hE4 ⟨z5, ⟨rfl, ⟨Z6, rfl⟩⟩⟩
  replace hg0 := hg0.mono hE4
  replace ht := ht.mono hE4
  replace hn := hn.mono hE4
  replace hps := hps.mono hE4
  refine G_val (V_lenS rfl rfl) rfl rfl (.none rfl) ?_
  refine G_val (V_move rfl rfl) rfl rfl (.none rfl) ?_
  refine G_end (X_then (G_block ?_))
  have hsl : SlE E2 1 (some ⟨z5, 0, none⟩) g.names.length (sets (begM g)) := by assumption
  refine G.nilSl 22 1 ?_
  refine G_loop (α := Nat × Env × Option Addr × Nat × List LRow) (fun x => [(5, .slice x.2.2.1 x.1 x.2.2.2.1), (14, .slice (some ⟨z5, 0, none⟩) g.names.length g.names.length), (15, .int .i64 g.names.length), (16, .int .i64 x.1)]) (fun x => x.2.1)
    (fun x => .sl 22 1 x.2.2.1 x.1 x.2.2.2.1 (lrows x.2.2.2.2) :: GB b1 g tp tc np nc pp pc :: L)
    (fun x => E2.Le x.2.1 ∧ x.1 ≤ g.names.length ∧ LsE x.2.1 x.2.2.2.2 ∧ x.2.2.2.2.map (·.2.2) = (begL g).take x.1) (fun x => g.names.length - x.1) (0, E2, none, 0, []) ⟨.refl _, Nat.zero_le _, LsE.nil, rfl⟩ ⟨rfl, rfl, rfl, rfl, trivial⟩ rfl rfl ?_
  rintro ⟨i, E1, a, c, rs⟩ ⟨hE1, hi, hrs, hm⟩
  simp only at hE1 hi hrs hm ⊢
  replace hsl := hsl.mono hE1
  have hgl := begL_len g
  have hrl : rs.length = i := by have := congrArg List.length hm; simp only [List.length_map, List.length_take] at this; omega
  have hll := lrows_len rs
  by_cases hlt : i < g.names.length
  · have hat := sets_at (l := begM g) (i := i) (by omega)
    have hi256 := h256 i
    have htk := List.take_succ_eq_append_getElem (show i < (begL g).length by omega)
    have hgi : (begL g)[i]'(by omega) = natsI (bitL ((begM g).getD i 0)) := by simp [begL, List.getD, show i < (begM g).length by omega]
    rw [hgi] at htk
    have hb8 := bitL_le ((begM g).getD i 0)
    generalize hq : (begM g).getD i 0 = q at *
    refine G_seq (G_region ?_)
    refine G_val (V_lss rfl rfl rfl) rfl rfl (.none rfl) ?_
    refine G_end (X_then (G_seq ?_))
    refine G_cond_t rfl (decide_eq_true (by omega)) ?_
    refine G_skip (X_then (G_seq (G_block (G_seq (G_region ?_)))))
    refine G_val (V_idxAddr rfl rfl rfl (SlE.rd (by assumption)) (by omega) (by omega)) rfl rfl (.none rfl) ?_
    refine G_val (V_loadS rfl rfl (SlE.rd (by assumption)) (by assumption) (by simp)) rfl rfl (.none rfl) ?_
    refine G_val (V_assign rfl rfl) rfl rfl (.none rfl) ?_
    refine G_end (X_then (G_region ?_))
    refine G_val (V_move rfl rfl) rfl rfl (.none rfl) ?_
    refine G_val (V_move rfl rfl) rfl rfl (.none rfl) ?_
    refine G_call (k := 70) (.mk rfl rfl rfl rfl) rfl rfl (.none rfl) (list_call _ _ _ (by assumption)) ?_
    rintro r1 E3 L4 hE5 ⟨z6, ⟨z7, ⟨rfl, ⟨Z8, rfl⟩⟩⟩⟩
    replace hsl := hsl.mono hE5
    (refine G_lit1 rfl rfl rfl rfl rfl (.none rfl) ?_; intro b23)
    (refine G_append rfl rfl rfl (Rd.lit (.head _) rfl) (by simp [Value.oneCell']) (by omega) (by omega) rfl rfl (.none rfl) (fun _ _ => (.tail _ (.head _ _ _))) ?_; intro a24 c24; refine G.rm (.head _ _) ?_)
    refine G_val (V_assign rfl rfl) rfl rfl (.none rfl) ?_
    refine G_end (X_block (X_then (G_region ?_)))
    refine G_val (V_add_i64 rfl rfl rfl (by omega) (by omega)) rfl rfl (.none rfl) ?_
    refine G_val (V_move rfl rfl) rfl rfl (.none rfl) ?_
    refine G_end (X_then ?_)
    have hs3 : SlE E3 1 z6 (bitL q).length (i64s (natsI (bitL q))) := by assumption
    have hE3 : E1.Le E3 := by assumption
    refine G_again (i + 1, E3, _, _, rs ++ [(z6, z7, natsI (bitL q))]) ⟨hE1.trans hE3, hlt, (hrs.mono hE3).snoc (by simp only; rw [natsI_len]; exact hs3), by rw [List.map_append, hm, htk]; rfl⟩ (by simp only; omega) ⟨rfl, rfl, rfl, rfl, trivial⟩ rfl (by rw [lrows_snoc, natsI_len])
  · rw [List.take_of_length_le (by omega)] at hm
    have hin : i = g.names.length := by omega
    subst hin
    refine G.freezeSl (.head _ _) ?_
    intro E4 hE4 hs4 hc4
    have hE0 : E.Le E1 := Env.Le.trans (by assumption) hE1
    replace hrs := hrs.mono hE4
    refine G_seq (G_region ?_)
    refine G_val (V_lss rfl rfl rfl) rfl rfl (.none rfl) ?_
    refine G_end (X_then (G_seq ?_))
    refine G_cond_f rfl (decide_eq_false (by omega)) ?_
    refine G_exit (X_then_exit (X_then_exit (X_block_hit (X_then (G_seq (G_region ?_))))))
    refine G_val (V_move rfl rfl) rfl rfl (.none rfl) ?_
    refine G_val (V_assign rfl rfl) rfl rfl (.none rfl) ?_
    refine G_val (V_assign rfl rfl) rfl rfl (.none rfl) ?_
    refine G_end (X_then (G_ret ?_))
    exact G_leave 1 (.cons (.tmp rfl) (.cons (.tmp rfl) .nil)) rfl (hE0.trans hE4) ⟨_, _, rs, rfl, hs4, hrs, hm, rfl⟩
end
end Go.Proofs.Ytaoinojdijbhaaa
set_option linter.unusedSimpArgs false
set_option linter.unusedVariables false
set_option maxHeartbeats 2000000
set_option maxRecDepth 20000
namespace Go.Proofs.Ytaoinojdijbhaaa
open Go.RowKit
def shown11 (ps : List Pr) : Gr := ⟨1, [[97], [98], [99]], [110, 108], [[83], [65], [66]], 16, ps⟩
abbrev oneG : Gr := shown11 [(16, [17, 0]), (17, [18, 1]), (18, []), (18, [2])]
abbrev twoG : Gr := shown11 [(16, [17, 0]), (17, [18, 16]), (18, []), (18, [2])]
abbrev threeG : Gr := shown11 [(16, [0, 16]), (16, [16]), (17, [0]), (18, [1])]
section
variable (E : Env) (L : List Res)
theorem prod11_call (l : Int) (a : Option Addr) (n c : Nat) : CallV Try.prog 97 #[.int .i64 l, .slice a n c] E L (.agg #[.int .i64 l, .slice a n c]) := by
  refine CallS.toV (CallS.intro (l := [_, _]) _ Try.func97 rfl Try.ntmps97 rfl ?_)
  refine G_seq (G_region ?_)
  (refine G_alloc rfl rfl rfl (.none rfl) ?_; intro b4)
  refine G_end (X_then (G_seq (G_region ?_)))
  refine G_val (V_move rfl rfl) rfl rfl (.none rfl) ?_
  refine G_val (V_move rfl rfl) rfl rfl (.none rfl) ?_
  refine G_val (V_build rfl rfl (by simp [fillV, setLs, setL, Value.cells]; rfl)) rfl rfl (.none rfl) ?_
  refine G_storeA rfl rfl rfl rfl (by simp [Value.oneCell']) rfl (.none rfl) (.head _ _ _) rfl ?_
  refine G_end (X_then (G_ret ?_))
  refine G_leaveS (.drop _ (.nil _)) (by exact (.cons (.cellA rfl (Cells.own (.head _)) rfl) (.nil))) rfl ?_ ?_
  · exact (.refl _)
  exact ⟨rfl, rfl⟩
theorem grammar11_own (pp : Option Addr) (n pc : Nat) : CallS Try.prog 96 #[.slice pp n pc] E L (fun r E' L' => ∃ b3 b4, r = .agg #[.int .i64 1, .slice (some ⟨b3, 0, none⟩) 3 3, .string (S [110, 108]), .slice (some ⟨b4, 0, none⟩) 3 3, .int .i64 16, .slice pp n pc] ∧ E = E' ∧
    L' = .blk b4 (.cells #[.string (S [83]), .string (S [65]), .string (S [66])] 9 (0, 0)) :: .blk b3 (.cells #[.string (S [97]), .string (S [98]), .string (S [99])] 9 (0, 0)) :: L) := by
  refine CallS.intro (l := [_]) _ Try.func96 rfl Try.ntmps96 rfl ?_
  refine G_seq (G_region ?_)
  (refine G_alloc rfl rfl rfl (.none rfl) ?_; intro b2)
  refine G_end (X_then (G_seq (G_region ?_)))
  (refine G_lit rfl rfl (by decide) (by simp [fillS, zeros, setLs, setL, Value.cells, List.range, List.range.loop]; rfl) rfl rfl (.none rfl) ?_; intro b3)
  (refine G_lit rfl rfl (by decide) (by simp [fillS, zeros, setLs, setL, Value.cells, List.range, List.range.loop]; rfl) rfl rfl (.none rfl) ?_; intro b4)
  refine G_val (V_move rfl rfl) rfl rfl (.none rfl) ?_
  refine G_val (V_build rfl rfl (by simp [fillV, setLs, setL, Value.cells]; rfl)) rfl rfl (.none rfl) ?_
  refine G_storeA rfl rfl rfl rfl (by simp [Value.oneCell']) rfl (.none rfl) (.tail _ (.tail _ (.head _ _ _))) rfl ?_
  refine G_end (X_then (G_ret ?_))
  refine G_leaveS (.keep _ (.keep _ (.drop _ (.nil _)))) (by exact (.cons (.cellA rfl (Cells.own (.tail _ (.tail _ (.head _)))) rfl) (.nil))) rfl ?_ ?_
  · exact (.refl _)
  exact ⟨_, ⟨_, ⟨rfl, ⟨rfl, rfl⟩⟩⟩⟩
theorem grammar11_own' (pp : Option Addr) (n pc : Nat) (ps : List Pr) (h : PsE E pp n ps) (hc : n ≤ pc) : CallS Try.prog 96 #[.slice pp n pc] E L (fun r E' L' => GrE E' r (shown11 ps) ∧ L' = L) :=
  fun w hw => (grammar11_own E L pp n pc w hw).mono fun _ _ ⟨r, E', L', he, hE, hs, b3, b4, hr, _, hL⟩ => by
    subst hL hr
    obtain ⟨E2, hE2, hs2, hok2⟩ := hs.freeze
    obtain ⟨E3, hE3, hs3, hok3⟩ := hs2.freeze
    have e1 := h.len
    subst e1
    refine ⟨_, E3, L, he, (hE.trans hE2).trans hE3, hs3, ?_, rfl⟩
    exact GrE.mk (g := shown11 ps) (SlE.lit (l := strs [[97], [98], [99]]) hok3 rfl) ((SlE.lit (l := strs [[83], [65], [66]]) hok2 rfl).mono hE3) (h.mono ((hE.trans hE2).trans hE3)) (Nat.le_refl _) (Nat.le_refl _) hc
theorem one_call : CallS Try.prog 61 #[] E L (fun r E' L' => GrE E' r oneG ∧ L' = L) := by
  refine CallS.intro (l := []) _ Try.func61 rfl Try.ntmps61 rfl ?_
  refine G_seq (G_region ?_)
  (refine G_alloc rfl rfl rfl (.none rfl) ?_; intro b0)
  refine G_end (X_then (G_seq (G_region ?_)))
  (refine G_litZ rfl rfl (by decide) (by simp [fillS, zeros, setLs, setL, Value.cells, List.range, List.range.loop]; rfl) (by rfl) rfl rfl (.none rfl) ?_; intro b1 E1 hE1 hs1)
  refine G_callv (k := 97) (.mk rfl rfl rfl rfl) rfl rfl (.none rfl) (prod11_call _ _ _ _ _ _) ?_
  (refine G_litZ rfl rfl (by decide) (by simp [fillS, zeros, setLs, setL, Value.cells, List.range, List.range.loop]; rfl) (by rfl) rfl rfl (.none rfl) ?_; intro b3 E3 hE3 hs3)
  replace hs1 := hs1.mono hE3
  refine G_callv (k := 97) (.mk rfl rfl rfl rfl) rfl rfl (.none rfl) (prod11_call _ _ _ _ _ _) ?_
  refine G_callv (k := 97) (.mk rfl rfl rfl rfl) rfl rfl (.none rfl) (prod11_call _ _ _ _ _ _) ?_
  (refine G_litZ rfl rfl (by decide) (by simp [fillS, zeros, setLs, setL, Value.cells, List.range, List.range.loop]; rfl) (by rfl) rfl rfl (.none rfl) ?_; intro b6 E6 hE6 hs6)
  replace hs3 := hs3.mono hE6
  replace hs1 := hs1.mono hE6
  refine G_callv (k := 97) (.mk rfl rfl rfl rfl) rfl rfl (.none rfl) (prod11_call _ _ _ _ _ _) ?_
  (refine G_litZ rfl rfl (by decide) (by simp [fillS, zeros, setLs, setL, Value.cells, List.range, List.range.loop]; rfl) (by rfl) rfl rfl (.none rfl) ?_; intro b8 E8 hE8 hs8)
  replace hs6 := hs6.mono hE8
  replace hs3 := hs3.mono hE8
  replace hs1 := hs1.mono hE8
  have hps : PsE E8 (some ⟨b8, 0, none⟩) 4 [(16, [17, 0]), (17, [18, 1]), (18, []), (18, [2])] := by
    refine ⟨[(some ⟨b1, 0, none⟩, 2, (16, [17, 0])), (some ⟨b3, 0, none⟩, 2, (17, [18, 1])), (none, 0, (18, [])), (some ⟨b6, 0, none⟩, 1, (18, [2]))], rfl, hs8, fun r hr => ?_⟩
    simp only [List.mem_cons, List.not_mem_nil, or_false] at hr
    rcases hr with rfl | rfl | rfl | rfl <;> first | assumption | exact SlE.nil
  refine G_call (k := 96) (.mk rfl rfl rfl rfl) rfl rfl (.none rfl) (grammar11_own' _ _ _ _ _ _ (by assumption) (by omega)) ?_
  rintro r1 E2 L3 hE4 ⟨Z5, rfl⟩
  replace hs8 := hs8.mono hE4
  replace hs6 := hs6.mono hE4
  replace hs3 := hs3.mono hE4
  replace hs1 := hs1.mono hE4
  replace hps := hps.mono hE4
  have hgr : GrE E2 r1 oneG := by assumption
  have hg0 := hgr
  obtain ⟨tp, tc, np, nc, pp, pc, rfl, _⟩ := hgr
  refine G_storeA rfl rfl rfl rfl (by simp [Value.oneCell']) rfl (.none rfl) (.head _ _ _) rfl ?_
  refine G_end (X_then (G_ret ?_))
  refine G_leaveS (.drop _ (.nil _)) (by exact (.cons (.cellA rfl (Cells.own (.head _)) rfl) (.nil))) rfl ?_ ?_
  · exact ((((hE1.trans hE3).trans hE6).trans hE8).trans hE4)
  exact ⟨(by assumption), rfl⟩
theorem two_call : CallS Try.prog 62 #[] E L (fun r E' L' => GrE E' r twoG ∧ L' = L) := by
  refine CallS.intro (l := []) _ Try.func62 rfl Try.ntmps62 rfl ?_
  refine G_seq (G_region ?_)
  (refine G_alloc rfl rfl rfl (.none rfl) ?_; intro b0)
  refine G_end (X_then (G_seq (G_region ?_)))
  (refine G_litZ rfl rfl (by decide) (by simp [fillS, zeros, setLs, setL, Value.cells, List.range, List.range.loop]; rfl) (by rfl) rfl rfl (.none rfl) ?_; intro b1 E1 hE1 hs1)
  refine G_callv (k := 97) (.mk rfl rfl rfl rfl) rfl rfl (.none rfl) (prod11_call _ _ _ _ _ _) ?_
  (refine G_litZ rfl rfl (by decide) (by simp [fillS, zeros, setLs, setL, Value.cells, List.range, List.range.loop]; rfl) (by rfl) rfl rfl (.none rfl) ?_; intro b3 E3 hE3 hs3)
  replace hs1 := hs1.mono hE3
  refine G_callv (k := 97) (.mk rfl rfl rfl rfl) rfl rfl (.none rfl) (prod11_call _ _ _ _ _ _) ?_
  refine G_callv (k := 97) (.mk rfl rfl rfl rfl) rfl rfl (.none rfl) (prod11_call _ _ _ _ _ _) ?_
  (refine G_litZ rfl rfl (by decide) (by simp [fillS, zeros, setLs, setL, Value.cells, List.range, List.range.loop]; rfl) (by rfl) rfl rfl (.none rfl) ?_; intro b6 E6 hE6 hs6)
  replace hs3 := hs3.mono hE6
  replace hs1 := hs1.mono hE6
  refine G_callv (k := 97) (.mk rfl rfl rfl rfl) rfl rfl (.none rfl) (prod11_call _ _ _ _ _ _) ?_
  (refine G_litZ rfl rfl (by decide) (by simp [fillS, zeros, setLs, setL, Value.cells, List.range, List.range.loop]; rfl) (by rfl) rfl rfl (.none rfl) ?_; intro b8 E8 hE8 hs8)
  replace hs6 := hs6.mono hE8
  replace hs3 := hs3.mono hE8
  replace hs1 := hs1.mono hE8
  have hps : PsE E8 (some ⟨b8, 0, none⟩) 4 [(16, [17, 0]), (17, [18, 16]), (18, []), (18, [2])] := by
    refine ⟨[(some ⟨b1, 0, none⟩, 2, (16, [17, 0])), (some ⟨b3, 0, none⟩, 2, (17, [18, 16])), (none, 0, (18, [])), (some ⟨b6, 0, none⟩, 1, (18, [2]))], rfl, hs8, fun r hr => ?_⟩
    simp only [List.mem_cons, List.not_mem_nil, or_false] at hr
    rcases hr with rfl | rfl | rfl | rfl <;> first | assumption | exact SlE.nil
  refine G_call (k := 96) (.mk rfl rfl rfl rfl) rfl rfl (.none rfl) (grammar11_own' _ _ _ _ _ _ (by assumption) (by omega)) ?_
  rintro r1 E2 L3 hE4 ⟨Z5, rfl⟩
  replace hs8 := hs8.mono hE4
  replace hs6 := hs6.mono hE4
  replace hs3 := hs3.mono hE4
  replace hs1 := hs1.mono hE4
  replace hps := hps.mono hE4
  have hgr : GrE E2 r1 twoG := by assumption
  have hg0 := hgr
  obtain ⟨tp, tc, np, nc, pp, pc, rfl, _⟩ := hgr
  refine G_storeA rfl rfl rfl rfl (by simp [Value.oneCell']) rfl (.none rfl) (.head _ _ _) rfl ?_
  refine G_end (X_then (G_ret ?_))
  refine G_leaveS (.drop _ (.nil _)) (by exact (.cons (.cellA rfl (Cells.own (.head _)) rfl) (.nil))) rfl ?_ ?_
  · exact ((((hE1.trans hE3).trans hE6).trans hE8).trans hE4)
  exact ⟨(by assumption), rfl⟩
theorem three_call : CallS Try.prog 65 #[] E L (fun r E' L' => GrE E' r threeG ∧ L' = L) := by
  refine CallS.intro (l := []) _ Try.func65 rfl Try.ntmps65 rfl ?_
  refine G_seq (G_region ?_)
  (refine G_alloc rfl rfl rfl (.none rfl) ?_; intro b0)
  refine G_end (X_then (G_seq (G_region ?_)))
  (refine G_litZ rfl rfl (by decide) (by simp [fillS, zeros, setLs, setL, Value.cells, List.range, List.range.loop]; rfl) (by rfl) rfl rfl (.none rfl) ?_; intro b1 E1 hE1 hs1)
  refine G_callv (k := 97) (.mk rfl rfl rfl rfl) rfl rfl (.none rfl) (prod11_call _ _ _ _ _ _) ?_
  (refine G_litZ rfl rfl (by decide) (by simp [fillS, zeros, setLs, setL, Value.cells, List.range, List.range.loop]; rfl) (by rfl) rfl rfl (.none rfl) ?_; intro b3 E3 hE3 hs3)
  replace hs1 := hs1.mono hE3
  refine G_callv (k := 97) (.mk rfl rfl rfl rfl) rfl rfl (.none rfl) (prod11_call _ _ _ _ _ _) ?_
  (refine G_litZ rfl rfl (by decide) (by simp [fillS, zeros, setLs, setL, Value.cells, List.range, List.range.loop]; rfl) (by rfl) rfl rfl (.none rfl) ?_; intro b5 E5 hE5 hs5)
  replace hs3 := hs3.mono hE5
  replace hs1 := hs1.mono hE5
  refine G_callv (k := 97) (.mk rfl rfl rfl rfl) rfl rfl (.none rfl) (prod11_call _ _ _ _ _ _) ?_
  (refine G_litZ rfl rfl (by decide) (by simp [fillS, zeros, setLs, setL, Value.cells, List.range, List.range.loop]; rfl) (by rfl) rfl rfl (.none rfl) ?_; intro b7 E7 hE7 hs7)
  replace hs5 := hs5.mono hE7
  replace hs3 := hs3.mono hE7
  replace hs1 := hs1.mono hE7
  refine G_callv (k := 97) (.mk rfl rfl rfl rfl) rfl rfl (.none rfl) (prod11_call _ _ _ _ _ _) ?_
  (refine G_litZ rfl rfl (by decide) (by simp [fillS, zeros, setLs, setL, Value.cells, List.range, List.range.loop]; rfl) (by rfl) rfl rfl (.none rfl) ?_; intro b9 E9 hE9 hs9)
  replace hs7 := hs7.mono hE9
  replace hs5 := hs5.mono hE9
  replace hs3 := hs3.mono hE9
  replace hs1 := hs1.mono hE9
  have hps : PsE E9 (some ⟨b9, 0, none⟩) 4 [(16, [0, 16]), (16, [16]), (17, [0]), (18, [1])] := by
    refine ⟨[(some ⟨b1, 0, none⟩, 2, (16, [0, 16])), (some ⟨b3, 0, none⟩, 1, (16, [16])), (some ⟨b5, 0, none⟩, 1, (17, [0])), (some ⟨b7, 0, none⟩, 1, (18, [1]))], rfl, hs9, fun r hr => ?_⟩
    simp only [List.mem_cons, List.not_mem_nil, or_false] at hr
    rcases hr with rfl | rfl | rfl | rfl <;> first | assumption | exact SlE.nil
  refine G_call (k := 96) (.mk rfl rfl rfl rfl) rfl rfl (.none rfl) (grammar11_own' _ _ _ _ _ _ (by assumption) (by omega)) ?_
  rintro r1 E2 L3 hE4 ⟨Z5, rfl⟩
  replace hs9 := hs9.mono hE4
  replace hs7 := hs7.mono hE4
  replace hs5 := hs5.mono hE4
  replace hs3 := hs3.mono hE4
  replace hs1 := hs1.mono hE4
  replace hps := hps.mono hE4
  have hgr : GrE E2 r1 threeG := by assumption
  have hg0 := hgr
  obtain ⟨tp, tc, np, nc, pp, pc, rfl, _⟩ := hgr
  refine G_storeA rfl rfl rfl rfl (by simp [Value.oneCell']) rfl (.none rfl) (.head _ _ _) rfl ?_
  refine G_end (X_then (G_ret ?_))
  refine G_leaveS (.drop _ (.nil _)) (by exact (.cons (.cellA rfl (Cells.own (.head _)) rfl) (.nil))) rfl ?_ ?_
  · exact (((((hE1.trans hE3).trans hE5).trans hE7).trans hE9).trans hE4)
  exact ⟨(by assumption), rfl⟩
end
theorem oneL : Light oneG := lightB_iff.1 (by decide)
theorem twoL : Light twoG := lightB_iff.1 (by decide)
theorem threeL : Light threeG := lightB_iff.1 (by decide)
theorem oneC : gcheck oneG = 0 := by kernel_rfl
theorem twoC : gcheck twoG = 0 := by kernel_rfl
theorem threeC : gcheck threeG = 0 := by kernel_rfl
theorem one_beg : begL oneG = [[1], [2], []] := by kernel_rfl
theorem two_rcheck : rcheck twoG = 17 := by kernel_rfl
theorem two_rfirst : rfirst twoG = 0 := by kernel_rfl
theorem begL_small {g : Gr} {rs : List LRow} (h : rs.map (·.2.2) = begL g) : ∀ r, r ∈ rs → r.2.2.length ≤ 8 := fun r hr => by
  have h1 : r.2.2 ∈ rs.map (·.2.2) := List.mem_map.2 ⟨r, hr, rfl⟩
  rw [h, begL] at h1
  obtain ⟨s, _, hs⟩ := List.mem_map.1 h1
  rw [← hs, natsI_len]
  exact bitL_le s
section
variable (E : Env) (L : List Res)
theorem begins11_call (gv : Value) (g : Gr) (hg : GrE E gv g) (hl : Light g) (hc : gcheck g = 0) (p : Option Addr) (n c : Nat) (ws : List LRow) (hw : SlE E 1 p n (lrows ws)) (hwe : LsE E ws) (hn : n ≤ 9223372036854775806) (hws : ∀ r, r ∈ ws → r.2.2.length ≤ 9223372036854775806) :
    CallS Try.prog 63 #[gv, .slice p n c] E L (fun r E' L' => r = .bool (decide (begL g = ws.map (·.2.2))) ∧ L' = L) := by
  have hg0 := hg
  obtain ⟨tp, tc, np, nc, pp, pc, rfl, ht, hnm, ⟨rows, hrows, hps, hre⟩, k1, k2, k3⟩ := hg
  have q2 := hl.n
  refine CallS.intro (l := [_, _]) _ Try.func63 rfl Try.ntmps63 rfl ?_
  refine G_seq (G_region ?_)
  (refine G_boxA rfl rfl rfl rfl (.none rfl) ?_; intro b2)
  refine G_val (V_assign rfl rfl) rfl rfl (.none rfl) ?_
  refine G_end (X_then (G_seq (G_region ?_)))
  refine G_val (V_loadA rfl rfl (Cells.own (.head _)) rfl) rfl rfl (.none rfl) ?_
  refine G_call (k := 16) (.mk rfl rfl rfl rfl) rfl rfl (.none rfl) (RBegins_call _ _ _ _ (by assumption) (by assumption) (by assumption)) ?_
  rintro r1 E2 L3 hE4 ⟨z5, ⟨z6, ⟨z7, ⟨rfl, ⟨Z8, ⟨Z9, ⟨Z10, rfl⟩⟩⟩⟩⟩⟩⟩
  replace hw := hw.mono hE4
  replace hg0 := hg0.mono hE4
  replace ht := ht.mono hE4
  replace hnm := hnm.mono hE4
  replace hps := hps.mono hE4
  refine G_val (V_move rfl rfl) rfl rfl (.none rfl) ?_
  refine G_val (V_extract rfl rfl rfl) rfl rfl (.none rfl) ?_
  refine G_val (V_extract rfl rfl rfl) rfl rfl (.none rfl) ?_
  refine G_val (V_assign rfl rfl) rfl rfl (.none rfl) ?_
  refine G_val (V_assign rfl rfl) rfl rfl (.none rfl) ?_
  refine G_end (X_then (G_seq (G_region ?_)))
  refine G_val (V_move rfl rfl) rfl rfl (.none rfl) ?_
  refine G_val (V_eql rfl rfl rfl) rfl rfl (.none rfl) ?_
  refine G_val (V_move rfl rfl) rfl rfl (.none rfl) ?_
  refine G.bool_t 14 rfl (by kernel_rfl) ?_
  refine G_val (V_move rfl rfl) rfl rfl (.yes rfl rfl rfl rfl) ?_
  refine G_val (V_move rfl rfl) rfl rfl (.yes rfl rfl rfl rfl) ?_
  have hz : z7.map (·.2.2) = begL g := by assumption
  have hze : LsE E2 z7 := by assumption
  replace hwe := hwe.mono (show E.Le E2 by assumption)
  have hsm : ∀ r, r ∈ z7 → r.2.2.length ≤ 9223372036854775806 := fun r hr => Nat.le_trans (begL_small hz r hr) (by decide)
  rw [← hz]
  refine G_callv (k := 23) (.mk rfl rfl rfl rfl) rfl rfl (.yes rfl rfl rfl rfl) (SameLists_call _ _ _ _ _ _ _ _ _ _ (by assumption) (by assumption) (by assumption) (by assumption) (by omega) (by assumption) (by assumption) (by assumption)) ?_
  refine G_val (V_pick_t rfl rfl rfl) rfl rfl (.none rfl) ?_
  refine G_val (V_assign rfl rfl) rfl rfl (.none rfl) ?_
  refine G_end (X_then (G_ret ?_))
  refine G_leaveS (.drop _ (.nil _)) (by exact (.cons (.tmp rfl) (.nil))) rfl ?_ ?_
  · exact hE4
  exact ⟨rfl, rfl⟩
theorem awake11_call : CallS Try.prog 20 #[] E L (fun r E' L' => r = .bool true ∧ L' = L) := by
  refine CallS.intro (l := []) _ Try.func20 rfl Try.ntmps20 rfl ?_
  have l1 := oneL
  have l2 := twoL
  have c1 := oneC
  have c2 := twoC
  have e1 := one_beg
  have e2 := two_rcheck
  have e3 := two_rfirst
  refine G_seq (G_region ?_)
  refine G_val (V_assign rfl rfl) rfl rfl (.none rfl) ?_
  refine G_end (X_then (G_seq (G_region ?_)))
  refine G_call (k := 62) (.mk rfl rfl rfl rfl) rfl rfl (.none rfl) (two_call _ _) ?_
  rintro r1 E2 L3 hE4 ⟨Z5, rfl⟩
  refine G_call (k := 28) (.mk rfl rfl rfl rfl) rfl rfl (.none rfl) (RCheck_call _ _ _ _ (by assumption) (by assumption)) ?_
  rintro r6 E7 L8 hE9 ⟨rfl, rfl⟩
  replace Z5 := Z5.mono hE9
  refine G_val (V_move rfl rfl) rfl rfl (.none rfl) ?_
  refine G_val (V_extract rfl rfl rfl) rfl rfl (.none rfl) ?_
  refine G_val (V_extract rfl rfl rfl) rfl rfl (.none rfl) ?_
  refine G_val (V_assign rfl rfl) rfl rfl (.none rfl) ?_
  refine G_val (V_assign rfl rfl) rfl rfl (.none rfl) ?_
  refine G_end (X_then (G_seq (G_region ?_)))
  refine G_call (k := 61) (.mk rfl rfl rfl rfl) rfl rfl (.none rfl) (one_call _ _) ?_
  rintro r10 E11 L12 hE13 ⟨Z14, rfl⟩
  replace Z5 := Z5.mono hE13
  (refine G_lit1 rfl rfl rfl rfl rfl (.none rfl) ?_; intro b9)
  (refine G_lit1 rfl rfl rfl rfl rfl (.none rfl) ?_; intro b10)
  (refine G_litZ rfl rfl (by decide) (by simp [fillS, zeros, setLs, setL, Value.cells, List.range, List.range.loop]; rfl) (by rfl) rfl rfl (.none rfl) ?_; intro b11 E11 hE11 hs11)
  replace Z14 := Z14.mono hE11
  replace Z5 := Z5.mono hE11
  refine G.freeze (.head _ _) ?_
  intro E12 hE12 hk10
  refine G.freeze (.head _ _) ?_
  intro E13 hE13 hk9
  have hw : SlE E13 1 (some ⟨b11, 0, none⟩) 3 (lrows [(some ⟨b9, 0, none⟩, 1, [1]), (some ⟨b10, 0, none⟩, 1, [2]), (none, 0, [])]) := (hs11.mono hE12).mono hE13
  have hwe : LsE E13 [(some ⟨b9, 0, none⟩, 1, [1]), (some ⟨b10, 0, none⟩, 1, [2]), (none, 0, [])] := .cons (SlE.lit (l := i64s [1]) hk9 rfl) (.cons ((SlE.lit (l := i64s [2]) hk10 rfl).mono hE13) (.cons SlE.nil .nil))
  have hws : ∀ r, r ∈ [((some ⟨b9, 0, none⟩ : Option Addr), 1, ([1] : List Int)), (some ⟨b10, 0, none⟩, 1, [2]), (none, 0, [])] → r.2.2.length ≤ 9223372036854775806 := fun r hr => by
    simp only [List.mem_cons, List.not_mem_nil, or_false] at hr
    rcases hr with rfl | rfl | rfl <;> exact Nat.le_of_ble_eq_true rfl
  have hgr : GrE E13 r10 oneG := ((by assumption : GrE E11 r10 oneG).mono hE12).mono hE13
  have hEE : E.Le E13 := (Env.Le.trans (by repeat (first | assumption | refine Env.Le.trans (by assumption) ?_)) hE12).trans hE13
  have hd : decide (begL oneG = [[1], [2], []]) = true := decide_eq_true one_beg
  refine G_call (k := 63) (.mk rfl rfl rfl rfl) rfl rfl (.none rfl) (begins11_call _ _ _ _ (by assumption) (by assumption) (by assumption) _ _ _ _ (by assumption) (by assumption) (by omega) (by assumption)) ?_
  rintro r2 E3 L4 hE5 ⟨rfl, rfl⟩
  replace hw := hw.mono hE5
  replace hgr := hgr.mono hE5
  refine G_val (V_move rfl rfl) rfl rfl (.none rfl) ?_
  refine G.bool_t 13 rfl (decide_eq_true (by assumption)) ?_
  refine G_val (V_move rfl rfl) rfl rfl (.yes rfl rfl rfl rfl) ?_
  refine G_val (V_eql rfl rfl rfl) rfl rfl (.yes rfl rfl rfl rfl) ?_
  refine G_val (V_pick_t rfl rfl rfl) rfl rfl (.none rfl) ?_
  refine G_val (V_move rfl rfl) rfl rfl (.none rfl) ?_
  refine G.bool_t 17 rfl (by kernel_rfl) ?_
  refine G_val (V_move rfl rfl) rfl rfl (.yes rfl rfl rfl rfl) ?_
  refine G_val (V_eql rfl rfl rfl) rfl rfl (.yes rfl rfl rfl rfl) ?_
  refine G_val (V_pick_t rfl rfl rfl) rfl rfl (.none rfl) ?_
  refine G_val (V_assign rfl rfl) rfl rfl (.none rfl) ?_
  refine G_end (X_then (G_ret ?_))
  rw [show decide (rfirst twoG = 0) = true from decide_eq_true e3]
  exact G_leave 0 (.cons (.tmp rfl) .nil) rfl (hEE.trans (by assumption)) ⟨rfl, rfl⟩
end
end Go.Proofs.Ytaoinojdijbhaaa
namespace Go.Proofs.Ytaoinojdijbhaaa
open Go.RowKit
theorem getD_set (h : List Nat) (n v i : Nat) : (h.set n v).getD i 0 = if n = i ∧ n < h.length then v else h.getD i 0 := by
  rw [List.getD, List.getElem?_set]
  by_cases he : n = i
  · by_cases hl : n < h.length
    · rw [if_pos he, if_pos hl, if_pos ⟨he, hl⟩]; rfl
    · rw [if_pos he, if_neg hl, if_neg (fun h => hl h.2)]
      subst he
      rw [List.getD, List.getElem?_eq_none (by omega)]
  · rw [if_neg he, if_neg (fun h => he h.1)]; rfl
theorem nats_set (h : List Nat) (i v : Nat) : (i64s (natsI h)).set i (.int .i64 (v : Int)) = i64s (natsI (h.set i v)) := by simp [i64s, natsI, List.map_set]
theorem nats_at {h : List Nat} {i : Nat} (hi : i < h.length) : (i64s (natsI h))[i]? = some (.int .i64 (h.getD i 0 : Nat)) := by simp [i64s, natsI, hi]
theorem nats_zero (n : Nat) : List.replicate n (Value.int .i64 0) = i64s (natsI (List.replicate n 0)) := by simp [i64s, natsI]
theorem nats_len (h : List Nat) : (i64s (natsI h)).length = h.length := by rw [i64s, List.length_map, natsI_len]
end Go.Proofs.Ytaoinojdijbhaaa
namespace Go.Proofs.Ytaoinojdijbhaaa
open Go.RowKit
/-! Tables of own rows. -/
abbrev rowBlk (b : Nat) (r : List Bool) : Res := .blk b (.cells (bools r).toArray 4 (0, 0))
def rowsL : List Nat → List (List Bool) → List Res
  | b :: bs, r :: rs => rowBlk b r :: rowsL bs rs
  | _, _ => []
def ptrs (n : Nat) (bs : List Nat) : List Value := bs.map fun b => .slice (some ⟨b, 0, none⟩) n n
theorem ptrs_at {n : Nat} {bs : List Nat} {i : Nat} (h : i < bs.length) : (ptrs n bs)[i]? = some (.slice (some ⟨bs[i], 0, none⟩) n n) := by simp [ptrs, h]
theorem rows_one : ∀ (bs : List Nat) (rs : List (List Bool)) (i : Nat) (h1 : i < bs.length) (h2 : i < rs.length), ∃ M, (rowsL bs rs).Perm (rowBlk bs[i] rs[i] :: M) ∧ ∀ r', (rowBlk bs[i] r' :: M).Perm (rowsL bs (rs.set i r')) := by
  intro bs
  induction bs with
  | nil => intro rs i h1; cases h1
  | cons b bs ih =>
    intro rs i h1 h2
    cases rs with
    | nil => cases h2
    | cons r rs =>
      cases i with
      | zero => exact ⟨rowsL bs rs, .refl _, fun r' => .refl _⟩
      | succ i =>
        obtain ⟨M, p1, p2⟩ := ih rs i (by simpa using h1) (by simpa using h2)
        exact ⟨rowBlk b r :: M, (p1.cons _).trans (.swap ..), fun r' => (List.Perm.swap ..).trans ((p2 r').cons _)⟩
theorem rows_two : ∀ (bs : List Nat) (rs : List (List Bool)) (i k : Nat) (h1 : i < bs.length) (h2 : i < rs.length) (k1 : k < bs.length) (k2 : k < rs.length), i ≠ k →
    ∃ M, (rowsL bs rs).Perm (rowBlk bs[i] rs[i] :: rowBlk bs[k] rs[k] :: M) ∧ ∀ r', (rowBlk bs[i] r' :: rowBlk bs[k] rs[k] :: M).Perm (rowsL bs (rs.set i r')) := by
  intro bs
  induction bs with
  | nil => intro rs i k h1; cases h1
  | cons b bs ih =>
    intro rs i k h1 h2 k1 k2 hne
    cases rs with
    | nil => cases h2
    | cons r rs =>
      cases i with
      | zero =>
        cases k with
        | zero => exact absurd rfl hne
        | succ k =>
          obtain ⟨M, p1, _⟩ := rows_one bs rs k (by simpa using k1) (by simpa using k2)
          exact ⟨M, p1.cons _, fun r' => p1.symm.cons _⟩
      | succ i =>
        cases k with
        | zero =>
          obtain ⟨M, p1, p2⟩ := rows_one bs rs i (by simpa using h1) (by simpa using h2)
          exact ⟨M, (p1.cons _).trans (.swap ..), fun r' => (List.Perm.swap ..).trans ((p2 r').cons _)⟩
        | succ k =>
          obtain ⟨M, p1, p2⟩ := ih rs i k (by simpa using h1) (by simpa using h2) (by simpa using k1) (by simpa using k2) (by omega)
          refine ⟨rowBlk b r :: M, (p1.cons _).trans ?_, fun r' => List.Perm.trans ?_ ((p2 r').cons _)⟩
          · exact (List.Perm.swap ..).trans ((List.Perm.swap ..).cons _)
          · exact ((List.Perm.swap ..).cons _).trans (.swap ..)
theorem rowsL_snoc : ∀ (bs : List Nat) (rs : List (List Bool)) (b : Nat) (r : List Bool), bs.length = rs.length → rowsL (bs ++ [b]) (rs ++ [r]) = rowsL bs rs ++ [rowBlk b r] := by
  intro bs
  induction bs with
  | nil => intro rs b r h; cases rs with
    | nil => rfl
    | cons => cases h
  | cons b0 bs ih =>
    intro rs b r h
    cases rs with
    | nil => cases h
    | cons r0 rs => simp only [List.cons_append, rowsL]; rw [ih rs b r (by simpa using h)]
/-- Rows of a function. -/
def rowF (n : Nat) (f : Nat → Bool) : List Bool := (List.range n).map f
def tabF (n : Nat) (T : Nat → Nat → Bool) : List (List Bool) := (List.range n).map fun i => rowF n (T i)
theorem rowF_len (n : Nat) (f : Nat → Bool) : (rowF n f).length = n := by simp [rowF]
theorem tabF_len (n : Nat) (T : Nat → Nat → Bool) : (tabF n T).length = n := by simp [tabF]
theorem rowF_at {n : Nat} {f : Nat → Bool} {i : Nat} (h : i < n) : (bools (rowF n f))[i]? = some (.bool (f i)) := by simp [bools, rowF, h]
theorem brow_len (n : Nat) (f : Nat → Bool) : (bools (rowF n f)).length = n := by simp [bools, rowF]
theorem tabF_at {n : Nat} {T : Nat → Nat → Bool} {i : Nat} (h : i < n) : (tabF n T)[i]'(by rw [tabF_len]; exact h) = rowF n (T i) := by simp [tabF]
theorem rowF_set {n : Nat} {f : Nat → Bool} {i : Nat} {b : Bool} : (bools (rowF n f)).set i (.bool b) = bools (rowF n fun j => if j = i then b else f j) := by
  refine List.ext_getElem (by simp [bools, rowF]) fun j h1 h2 => ?_
  simp only [bools, rowF, List.map_map, List.getElem_set, List.getElem_map, List.getElem_range, Function.comp]
  by_cases he : i = j
  · rw [if_pos he, if_pos he.symm]
  · rw [if_neg he, if_neg (Ne.symm he)]
theorem tabF_set {n : Nat} {T : Nat → Nat → Bool} {i : Nat} {f : Nat → Bool} : (tabF n T).set i (rowF n f) = tabF n fun a => if a = i then f else T a := by
  refine List.ext_getElem (by simp [tabF]) fun j h1 h2 => ?_
  simp only [tabF, List.getElem_set, List.getElem_map, List.getElem_range]
  by_cases he : i = j
  · rw [if_pos he, if_pos he.symm]
  · rw [if_neg he, if_neg (Ne.symm he)]
theorem rowF_ext {n : Nat} {f f' : Nat → Bool} (h : ∀ j, j < n → f j = f' j) : rowF n f = rowF n f' := List.map_congr_left fun j hj => h j (List.mem_range.1 hj)
theorem tabF_ext {n : Nat} {T T' : Nat → Nat → Bool} (h : ∀ i j, i < n → j < n → T i j = T' i j) : tabF n T = tabF n T' := List.map_congr_left fun i hi => rowF_ext fun j hj => h i j (List.mem_range.1 hi) hj
theorem rowF_false (n : Nat) : List.replicate n (Value.bool false) = bools (rowF n fun _ => false) := by
  refine List.ext_getElem (by simp [bools, rowF]) fun j h1 h2 => by simp [bools, rowF]
theorem tabF_snoc (n : Nat) (T : Nat → Nat → Bool) (i : Nat) : ((List.range (i + 1)).map fun a => rowF n (T a)) = ((List.range i).map fun a => rowF n (T a)) ++ [rowF n (T i)] := by
  rw [List.range_succ, List.map_append]; rfl
/-- Numbers of what is true. -/
def numB (n : Nat) (f : Nat → Bool) : List Nat := (List.range n).filter f
theorem numB_snoc (f : Nat → Bool) (i : Nat) : numB (i + 1) f = numB i f ++ (if f i = true then [i] else []) := by
  rw [numB, numB, List.range_succ, List.filter_append, List.filter_cons, List.filter_nil]
theorem numB_le (n : Nat) (f : Nat → Bool) : (numB n f).length ≤ n := by
  have := List.length_filter_le f (List.range n)
  rwa [List.length_range] at this
theorem numB_bits {n s : Nat} (hn : n ≤ 8) (h : ∀ j, s.testBit j = true → j < n) : numB n (fun j => s.testBit j) = bitL s := by
  rw [numB, bitL]
  obtain ⟨m, hm⟩ : ∃ m, 8 = n + m := ⟨8 - n, by omega⟩
  rw [hm]
  clear hm
  clear hn
  induction m with
  | zero => rfl
  | succ m ih =>
    rw [show n + (m + 1) = (n + m) + 1 by omega, List.range_succ, List.filter_append, ← ih, List.filter_cons, List.filter_nil]
    rw [if_neg (fun hc => by have := h _ hc; omega), List.append_nil]
end Go.Proofs.Ytaoinojdijbhaaa
set_option linter.unusedSimpArgs false
set_option linter.unusedVariables false
set_option maxHeartbeats 2000000
set_option maxRecDepth 20000
namespace Go.Proofs.Ytaoinojdijbhaaa
open Go.RowKit
section
variable (E : Env) (L : List Res)
theorem numbers_call (p : Option Addr) (n c : Nat) (f : Nat → Bool) (hx : SlE E 1 p n (bools (rowF n f))) (hn : n ≤ 1000) :
    CallS Try.prog 75 #[.slice p n c] E L (fun r E' L' => ∃ q d, r = .slice q (numB n f).length d ∧ SlE E' 1 q (numB n f).length (i64s (natsI (numB n f))) ∧ L' = L) := by
  refine CallS.intro (l := [_]) _ Try.func75 rfl Try.ntmps75 rfl ?_
  refine G_seq (G_region ?_)
  refine G_val (V_assign rfl rfl) rfl rfl (.none rfl) ?_
  refine G_end (X_then (G_seq (G_region ?_)))
  refine G_val (V_assign rfl rfl) rfl rfl (.none rfl) ?_
  refine G_end (X_then (G_seq (G_seq (G_region ?_))))
  refine G_val (V_assign rfl rfl) rfl rfl (.none rfl) ?_
  refine G_end (X_then (G_block ?_))
  refine G.nilSl 3 1 ?_
  refine G_loop (α := Nat × Option Addr × Nat) (fun x => [(0, .slice p n c), (3, .slice x.2.1 (numB x.1 f).length x.2.2), (4, .int .i64 x.1)]) (fun _ => E)
    (fun x => .sl 3 1 x.2.1 (numB x.1 f).length x.2.2 (i64s (natsI (numB x.1 f))) :: L) (fun x => x.1 ≤ n) (fun x => n - x.1) (0, none, 0) (Nat.zero_le _) ⟨rfl, rfl, rfl, trivial⟩ rfl rfl ?_
  rintro ⟨i, a, d⟩ hi
  simp only at hi ⊢
  have hle := numB_le i f
  have hsn := numB_snoc f i
  have hol : (i64s (natsI (numB i f))).length = (numB i f).length := nats_len _
  by_cases hlt : i < n
  · have hat := rowF_at (f := f) hlt
    cases hf : f i with
    | true =>
      rw [hf, if_pos rfl] at hsn
      rw [hf] at hat
      refine G_seq (G_seq (G_region ?_))
      refine G_val (V_move rfl rfl) rfl rfl (.none rfl) ?_
      refine G_val (V_move rfl rfl) rfl rfl (.none rfl) ?_
      refine G_val (V_lenS rfl rfl) rfl rfl (.none rfl) ?_
      refine G_val (V_lss rfl rfl rfl) rfl rfl (.none rfl) ?_
      refine G_end (X_then ?_)
      refine G_cond_t rfl (decide_eq_true (by omega)) ?_
      refine G_skip (X_then (G_seq (G_block (G_seq (G_region ?_)))))
      refine G_val (V_move rfl rfl) rfl rfl (.none rfl) ?_
      refine G_val (V_move rfl rfl) rfl rfl (.none rfl) ?_
      refine G_val (V_idxAddr rfl rfl rfl (SlE.rd (by assumption)) (by omega) (by omega)) rfl rfl (.none rfl) ?_
      refine G_val (V_loadS rfl rfl (SlE.rd (by assumption)) (by assumption) (by simp)) rfl rfl (.none rfl) ?_
      refine G_end (X_then ?_)
      refine G_cond_t rfl rfl ?_
      refine G_region ?_
      refine G_val (V_move rfl rfl) rfl rfl (.none rfl) ?_
      refine G_val (V_move rfl rfl) rfl rfl (.none rfl) ?_
      (refine G_lit1 rfl rfl rfl rfl rfl (.none rfl) ?_; intro b17)
      (refine G_append rfl rfl rfl (Rd.lit (.head _) rfl) (by simp [Value.oneCell']) (by omega) (by omega) rfl rfl (.none rfl) (fun _ _ => (.tail _ (.head _ _ _))) ?_; intro a18 c18; refine G.rm (.head _ _) ?_)
      refine G_val (V_assign rfl rfl) rfl rfl (.none rfl) ?_
      refine G_end (X_block (X_then (G_region ?_)))
      refine G_val (V_move rfl rfl) rfl rfl (.none rfl) ?_
      refine G_val (V_add_i64 rfl rfl rfl (by omega) (by omega)) rfl rfl (.none rfl) ?_
      refine G_val (V_assign rfl rfl) rfl rfl (.none rfl) ?_
      refine G_end (X_then ?_)
      exact G_again (i + 1, _, _) hlt (by simp only; omega) ⟨rfl, by rw [hsn, List.length_append]; rfl, rfl, trivial⟩ rfl (by rw [hsn, List.length_append, natsI_snoc, i64s_snoc]; rfl)
    | false =>
      rw [hf, if_neg (by decide), List.append_nil] at hsn
      rw [hf] at hat
      refine G_seq (G_seq (G_region ?_))
      refine G_val (V_move rfl rfl) rfl rfl (.none rfl) ?_
      refine G_val (V_move rfl rfl) rfl rfl (.none rfl) ?_
      refine G_val (V_lenS rfl rfl) rfl rfl (.none rfl) ?_
      refine G_val (V_lss rfl rfl rfl) rfl rfl (.none rfl) ?_
      refine G_end (X_then ?_)
      refine G_cond_t rfl (decide_eq_true (by omega)) ?_
      refine G_skip (X_then (G_seq (G_block (G_seq (G_region ?_)))))
      refine G_val (V_move rfl rfl) rfl rfl (.none rfl) ?_
      refine G_val (V_move rfl rfl) rfl rfl (.none rfl) ?_
      refine G_val (V_idxAddr rfl rfl rfl (SlE.rd (by assumption)) (by omega) (by omega)) rfl rfl (.none rfl) ?_
      refine G_val (V_loadS rfl rfl (SlE.rd (by assumption)) (by assumption) (by simp)) rfl rfl (.none rfl) ?_
      refine G_end (X_then ?_)
      refine G_cond_f rfl rfl ?_
      refine G_skip (X_block (X_then (G_region ?_)))
      refine G_val (V_move rfl rfl) rfl rfl (.none rfl) ?_
      refine G_val (V_add_i64 rfl rfl rfl (by omega) (by omega)) rfl rfl (.none rfl) ?_
      refine G_val (V_assign rfl rfl) rfl rfl (.none rfl) ?_
      refine G_end (X_then ?_)
      exact G_again (i + 1, _, _) hlt (by simp only; omega) ⟨rfl, by rw [hsn]; rfl, rfl, trivial⟩ rfl (by rw [hsn])
  · have hin : i = n := by omega
    subst hin
    refine G.freezeSl (.head _ _) ?_
    intro E4 hE4 hs4 hc4
    refine G_seq (G_seq (G_region ?_))
    refine G_val (V_move rfl rfl) rfl rfl (.none rfl) ?_
    refine G_val (V_move rfl rfl) rfl rfl (.none rfl) ?_
    refine G_val (V_lenS rfl rfl) rfl rfl (.none rfl) ?_
    refine G_val (V_lss rfl rfl rfl) rfl rfl (.none rfl) ?_
    refine G_end (X_then ?_)
    refine G_cond_f rfl (decide_eq_false (by omega)) ?_
    refine G_exit (X_then_exit (X_then_exit (X_block_hit (X_then (G_seq (G_region ?_))))))
    refine G_val (V_move rfl rfl) rfl rfl (.none rfl) ?_
    refine G_val (V_assign rfl rfl) rfl rfl (.none rfl) ?_
    refine G_end (X_then (G_ret ?_))
    refine G_leaveS (.nil _) (by exact (.cons (.tmp rfl) (.nil))) rfl ?_ ?_
    · exact hE4
    exact ⟨_, ⟨_, ⟨rfl, ⟨(by assumption), rfl⟩⟩⟩⟩
theorem rby_call (gv : Value) (g : Gr) (hg : GrE E gv g) (hl : Light g) (hc : gcheck g = 0) (np : Option Addr) (nc : Nat) (hn : SlE E 1 np g.names.length (bools (nullM g))) (p : Nat) (hp : p < g.prods.length) :
    CallS Try.prog 77 #[gv, .int .i64 p, .slice np g.names.length nc] E L (fun r E' L' => ∃ b c, r = .slice b g.names.length c ∧ SlE E' 1 b g.names.length (bools (rowF g.names.length fun j => (byS (nullM g) (g.prods.getD p (0, [])).2).testBit j)) ∧ L' = L) := by
  have hg0 := hg
  obtain ⟨tp, tc, np', nc', pp, pc, rfl, ht, hnm, ⟨rows, hrows, hps, hre⟩, k1, k2, k3⟩ := hg
  have hlen : g.prods.length = rows.length := by rw [← hrows]; simp
  have q1 := hl.t; have q2 := hl.n; have q3 := hl.p
  have hv := valid_of hc
  have hpl : p < rows.length := by omega
  have hyr := prows_right (List.getElem?_eq_getElem hpl)
  have hre1 := hre.get (List.getElem?_eq_getElem hpl)
  have hpp : rows[p].2.2 ∈ g.prods := by rw [← hrows]; exact List.mem_map.2 ⟨rows[p], List.getElem_mem hpl, rfl⟩
  have hpd : g.prods.getD p (0, []) = rows[p].2.2 := by rw [← hrows]; simp [List.getD, hpl]
  have h8 := hv.right _ hpp
  have hsy := hv.wf.syms _ hpp
  have hnn := hv.names
  have hnl : (nullM g).length = g.names.length := nullM_len hv
  rw [hpd]
  refine CallS.intro (l := [_, _, _]) _ Try.func77 rfl Try.ntmps77 rfl ?_
  refine G_seq (G_region ?_)
  (refine G_boxA rfl rfl rfl rfl (.none rfl) ?_; intro b3)
  refine G_val (V_assign rfl rfl) rfl rfl (.none rfl) ?_
  refine G_end (X_then (G_seq (G_region ?_)))
  refine G_val (V_fieldAddr rfl rfl (by decide)) rfl rfl (.none rfl) ?_
  refine G_val (V_load rfl rfl (Cell.own (.head _) rfl)) rfl rfl (.none rfl) ?_
  refine G_val (V_lenS rfl rfl) rfl rfl (.none rfl) ?_
  (refine G_makeSlice rfl rfl rfl (by omega) (by omega) (by omega) rfl rfl (.none rfl) ?_; intro b13)
  refine G_val (V_assign rfl rfl) rfl rfl (.none rfl) ?_
  refine G_end (X_then (G_seq (G_region ?_)))
  refine G_val (V_fieldAddr rfl rfl (by decide)) rfl rfl (.none rfl) ?_
  refine G_val (V_load rfl rfl (Cell.own (.tail _ (.head _)) rfl)) rfl rfl (.none rfl) ?_
  refine G_val (V_move rfl rfl) rfl rfl (.none rfl) ?_
  refine G_val (V_idxAddr rfl rfl rfl (SlE.rd (by assumption)) (by omega) (by omega)) rfl rfl (.none rfl) ?_
  refine G_val (V_fieldAddrE rfl rfl (by assumption) (by omega) (by decide)) rfl rfl (.none rfl) ?_
  refine G_val (V_loadS rfl rfl (SlE.rd (by assumption)) (by assumption) (by simp)) rfl rfl (.none rfl) ?_
  refine G_val (V_assign rfl rfl) rfl rfl (.none rfl) ?_
  refine G_end (X_then (G_seq (G_seq (G_region ?_))))
  refine G_val (V_assign rfl rfl) rfl rfl (.none rfl) ?_
  refine G_end (X_then (G_block ?_))
  simp only [Int.toNat_natCast]
  rw [rowF_false]
  refine G_loop (α := Nat × Nat) (fun x => [(1, .int .i64 p), (2, .slice np g.names.length nc), (3, .pointer (some ⟨b3, 0, none⟩)), (7, .slice (some ⟨b13, 0, none⟩) g.names.length g.names.length), (8, .slice rows[p].1 rows[p].2.2.2.length rows[p].2.1), (9, .int .i64 x.1)]) (fun _ => E)
    (fun x => .blk b13 (.cells (bools (rowF g.names.length fun j => x.2.testBit j)).toArray 4 (0, 0)) :: GB b3 g tp tc np' nc' pp pc :: L)
    (fun x => x.1 ≤ rows[p].2.2.2.length ∧ x.2 < 256 ∧ byS (nullM g) rows[p].2.2.2 = x.2 ||| byS (nullM g) (rows[p].2.2.2.drop x.1)) (fun x => rows[p].2.2.2.length - x.1) (0, 0) ⟨Nat.zero_le _, Nat.le_of_ble_eq_true rfl, by simp⟩ ⟨rfl, rfl, rfl, rfl, rfl, rfl, trivial⟩ rfl (by simp only [Nat.zero_testBit]) ?_
  rintro ⟨k, u⟩ ⟨hk, hu, hb⟩
  simp only at hk hu hb ⊢
  have hbl := brow_len g.names.length (fun j => u.testBit j)
  by_cases hlt : k < rows[p].2.2.2.length
  · have hx := i64s_at hlt
    have hsk := hsy _ (List.getElem_mem hlt)
    have hd := byS_drop (nul := nullM g) hlt
    by_cases h16 : rows[p].2.2.2[k] < 16
    · rw [if_pos h16] at hd
      rw [hd, Nat.or_zero] at hb
      rw [hb]
      refine G.freezeB (.head _ _) (k := g.names.length) (sz := 1) (by rw [hbl, Nat.mul_one]) ?_
      intro E3 hE3 hsl
      replace hre1 := hre1.mono hE3
      refine G_seq (G_seq (G_region ?_))
      refine G_val (V_move rfl rfl) rfl rfl (.none rfl) ?_
      refine G_val (V_move rfl rfl) rfl rfl (.none rfl) ?_
      refine G_val (V_lenS rfl rfl) rfl rfl (.none rfl) ?_
      refine G_val (V_lss rfl rfl rfl) rfl rfl (.none rfl) ?_
      refine G_end (X_then ?_)
      refine G_cond_t rfl (decide_eq_true (by omega)) ?_
      refine G_skip (X_then (G_seq (G_block (G_seq (G_seq (G_region ?_))))))
      refine G_val (V_move rfl rfl) rfl rfl (.none rfl) ?_
      refine G_val (V_move rfl rfl) rfl rfl (.none rfl) ?_
      refine G_val (V_idxAddr rfl rfl rfl (SlE.rd (by assumption)) (by omega) (by omega)) rfl rfl (.none rfl) ?_
      refine G_val (V_loadS rfl rfl (SlE.rd (by assumption)) (by assumption) (by simp)) rfl rfl (.none rfl) ?_
      refine G_val (V_lss rfl rfl rfl) rfl rfl (.none rfl) ?_
      refine G_end (X_then ?_)
      refine G_cond_t rfl (decide_eq_true (by omega)) ?_
      refine G_seq (G_region ?_)
      refine G_val (V_move rfl rfl) rfl rfl (.none rfl) ?_
      refine G_val (V_assign rfl rfl) rfl rfl (.none rfl) ?_
      refine G_end (X_then (G_ret (X_then_ret (X_block_ret (X_then_ret (X_then_ret (X_block_ret (X_then_ret ?_))))))))
      refine G_leaveS (.drop _ (.nil _)) (by exact (.cons (.tmp rfl) (.nil))) rfl ?_ ?_
      · exact hE3
      exact ⟨_, ⟨_, ⟨rfl, ⟨(by assumption), rfl⟩⟩⟩⟩
    · rw [if_neg h16] at hd
      obtain ⟨o1, o2⟩ := or_at hu (show (rows[p].2.2.2[k] - 16).toNat < 8 by omega)
      have hst : (bools (rowF g.names.length fun j => u.testBit j)).set (rows[p].2.2.2[k] - 16).toNat (.bool true) = bools (rowF g.names.length fun j => (u ||| 2 ^ (rows[p].2.2.2[k] - 16).toNat).testBit j) := by
        rw [rowF_set]
        refine congrArg bools (rowF_ext fun j _ => ?_)
        rw [or_bit]
        by_cases he : j = (rows[p].2.2.2[k] - 16).toNat
        · rw [if_pos he, he]; simp
        · rw [if_neg he, decide_eq_false (Ne.symm he), Bool.or_false]
      refine G_seq (G_seq (G_region ?_))
      refine G_val (V_move rfl rfl) rfl rfl (.none rfl) ?_
      refine G_val (V_move rfl rfl) rfl rfl (.none rfl) ?_
      refine G_val (V_lenS rfl rfl) rfl rfl (.none rfl) ?_
      refine G_val (V_lss rfl rfl rfl) rfl rfl (.none rfl) ?_
      refine G_end (X_then ?_)
      refine G_cond_t rfl (decide_eq_true (by omega)) ?_
      refine G_skip (X_then (G_seq (G_block (G_seq (G_seq (G_region ?_))))))
      refine G_val (V_move rfl rfl) rfl rfl (.none rfl) ?_
      refine G_val (V_move rfl rfl) rfl rfl (.none rfl) ?_
      refine G_val (V_idxAddr rfl rfl rfl (SlE.rd (by assumption)) (by omega) (by omega)) rfl rfl (.none rfl) ?_
      refine G_val (V_loadS rfl rfl (SlE.rd (by assumption)) (by assumption) (by simp)) rfl rfl (.none rfl) ?_
      refine G_val (V_lss rfl rfl rfl) rfl rfl (.none rfl) ?_
      refine G_end (X_then ?_)
      refine G_cond_f rfl (decide_eq_false (by omega)) ?_
      refine G_skip (X_then (G_seq (G_region ?_)))
      refine G_val (V_move rfl rfl) rfl rfl (.none rfl) ?_
      refine G_val (V_move rfl rfl) rfl rfl (.none rfl) ?_
      refine G_val (V_move rfl rfl) rfl rfl (.none rfl) ?_
      refine G_val (V_idxAddr rfl rfl rfl (SlE.rd (by assumption)) (by omega) (by omega)) rfl rfl (.none rfl) ?_
      refine G_val (V_loadS rfl rfl (SlE.rd (by assumption)) (by assumption) (by simp)) rfl rfl (.none rfl) ?_
      refine G_val (V_sub_i64 rfl rfl rfl (by omega) (by omega)) rfl rfl (.none rfl) ?_
      refine G_val (V_idxB1 rfl rfl rfl (by omega) (by omega)) rfl rfl (.none rfl) ?_
      refine G_storeB rfl rfl rfl rfl rfl rfl (.none rfl) (.head _ _ _) (by omega) ?_
      refine G_end (X_then (G_seq (G_region ?_)))
      refine G_val (V_move rfl rfl) rfl rfl (.none rfl) ?_
      refine G_val (V_move rfl rfl) rfl rfl (.none rfl) ?_
      refine G_val (V_move rfl rfl) rfl rfl (.none rfl) ?_
      refine G_val (V_idxAddr rfl rfl rfl (SlE.rd (by assumption)) (by omega) (by omega)) rfl rfl (.none rfl) ?_
      refine G_val (V_loadS rfl rfl (SlE.rd (by assumption)) (by assumption) (by simp)) rfl rfl (.none rfl) ?_
      refine G_val (V_sub_i64 rfl rfl rfl (by omega) (by omega)) rfl rfl (.none rfl) ?_
      refine G_val (V_idxAddr rfl rfl rfl (SlE.rd (by assumption)) (by omega) (by omega)) rfl rfl (.none rfl) ?_
      have hnb : (bools (nullM g))[(rows[p].2.2.2[k] - 16).toNat]? = some (.bool (bget (nullM g) rows[p].2.2.2[k])) := by
        have h : (rows[p].2.2.2[k] - 16).toNat < (nullM g).length := by omega
        simp [bools, bget, h]
      rw [hst]
      cases hnu : bget (nullM g) rows[p].2.2.2[k] with
      | true =>
        rw [hnu, if_pos rfl] at hd
        rw [hnu] at hnb
        refine G_val (V_loadS rfl rfl (SlE.rd (by assumption)) (by assumption) (by simp)) rfl rfl (.none rfl) ?_
        refine G_val (V_not rfl rfl) rfl rfl (.none rfl) ?_
        refine G_end (X_then ?_)
        refine G_cond_f rfl (by kernel_rfl) ?_
        refine G_skip (X_block (X_then (G_region ?_)))
        refine G_val (V_move rfl rfl) rfl rfl (.none rfl) ?_
        refine G_val (V_add_i64 rfl rfl rfl (by omega) (by omega)) rfl rfl (.none rfl) ?_
        refine G_val (V_assign rfl rfl) rfl rfl (.none rfl) ?_
        refine G_end (X_then ?_)
        exact G_again (k + 1, u ||| 2 ^ (rows[p].2.2.2[k] - 16).toNat) ⟨hlt, o2, by rw [hb, hd, Nat.or_assoc]⟩ (by simp only; omega) ⟨rfl, rfl, rfl, rfl, rfl, rfl, trivial⟩ rfl rfl
      | false =>
        rw [hnu, if_neg (by decide), Nat.or_zero] at hd
        rw [hnu] at hnb
        rw [hd] at hb
        rw [hb]
        refine G.freezeB (.head _ _) (k := g.names.length) (sz := 1) (by rw [brow_len, Nat.mul_one]) ?_
        intro E3 hE3 hsl
        replace hn := hn.mono hE3
        refine G_val (V_loadS rfl rfl (SlE.rd (by assumption)) (by assumption) (by simp)) rfl rfl (.none rfl) ?_
        refine G_val (V_not rfl rfl) rfl rfl (.none rfl) ?_
        refine G_end (X_then ?_)
        refine G_cond_t rfl (by kernel_rfl) ?_
        refine G_seq (G_region ?_)
        refine G_val (V_move rfl rfl) rfl rfl (.none rfl) ?_
        refine G_val (V_assign rfl rfl) rfl rfl (.none rfl) ?_
        refine G_end (X_then (G_ret (X_block_ret (X_then_ret (X_then_ret (X_block_ret (X_then_ret ?_)))))))
        refine G_leaveS (.drop _ (.nil _)) (by exact (.cons (.tmp rfl) (.nil))) rfl ?_ ?_
        · exact hE3
        exact ⟨_, ⟨_, ⟨rfl, ⟨(by assumption), rfl⟩⟩⟩⟩
  · rw [List.drop_of_length_le (by omega)] at hb
    have hb2 : byS (nullM g) rows[p].2.2.2 = u := by rw [hb]; simp [byS]
    rw [hb2]
    refine G.freezeB (.head _ _) (k := g.names.length) (sz := 1) (by rw [hbl, Nat.mul_one]) ?_
    intro E3 hE3 hsl
    refine G_seq (G_seq (G_region ?_))
    refine G_val (V_move rfl rfl) rfl rfl (.none rfl) ?_
    refine G_val (V_move rfl rfl) rfl rfl (.none rfl) ?_
    refine G_val (V_lenS rfl rfl) rfl rfl (.none rfl) ?_
    refine G_val (V_lss rfl rfl rfl) rfl rfl (.none rfl) ?_
    refine G_end (X_then ?_)
    refine G_cond_f rfl (decide_eq_false (by omega)) ?_
    refine G_exit (X_then_exit (X_then_exit (X_block_hit (X_then (G_seq (G_region ?_))))))
    refine G_val (V_move rfl rfl) rfl rfl (.none rfl) ?_
    refine G_val (V_assign rfl rfl) rfl rfl (.none rfl) ?_
    refine G_end (X_then (G_ret ?_))
    refine G_leaveS (.drop _ (.nil _)) (by exact (.cons (.tmp rfl) (.nil))) rfl ?_ ?_
    · exact hE3
    exact ⟨_, ⟨_, ⟨rfl, ⟨(by assumption), rfl⟩⟩⟩⟩
end
end Go.Proofs.Ytaoinojdijbhaaa
set_option linter.unusedSimpArgs false
set_option linter.unusedVariables false
set_option maxHeartbeats 2000000
set_option maxRecDepth 20000
namespace Go.Proofs.Ytaoinojdijbhaaa
open Go.RowKit
theorem bools_get {l : List Bool} {s : Int} (h1 : 16 ≤ s) (h2 : s < 16 + (l.length : Int)) : (bools l)[(s - 16).toNat]? = some (.bool (bget l s)) := by
  have h : (s - 16).toNat < l.length := by omega
  simp [bools, bget, h]
theorem take_all {α : Type} {l : List α} {i : Nat} {f : α → Bool} (h : i < l.length) : (l.take (i + 1)).all f = ((l.take i).all f && f l[i]) := by
  rw [List.take_succ_eq_append_getElem h, List.all_append]; simp
section
variable (E : Env) (L : List Res)
theorem indext_call (s : Int) (h : s < 16) : CallV Try.prog 85 #[.int .i64 s] E L (.int .i64 (-1)) := by
  refine CallS.toV (CallS.intro (l := [_]) _ Try.func85 rfl Try.ntmps85 rfl ?_)
  refine G_seq (G_region ?_)
  refine G_val (V_assign rfl rfl) rfl rfl (.none rfl) ?_
  refine G_end (X_then (G_seq (G_seq (G_region ?_))))
  refine G_val (V_move rfl rfl) rfl rfl (.none rfl) ?_
  refine G_val (V_lss rfl rfl rfl) rfl rfl (.none rfl) ?_
  refine G_end (X_then ?_)
  refine G_cond_t rfl (decide_eq_true (by omega)) ?_
  refine G_seq (G_region ?_)
  refine G_val (V_assign rfl rfl) rfl rfl (.none rfl) ?_
  refine G_end (X_then (G_ret (X_then_ret ?_)))
  refine G_leaveS (.nil _) (by exact (.cons (.tmp rfl) (.nil))) rfl ?_ ?_
  · exact (.refl _)
  exact ⟨(by kernel_rfl), rfl⟩
theorem indexn_call (s : Int) (h : 16 ≤ s) (h2 : s ≤ 9223372036854775807) : CallV Try.prog 85 #[.int .i64 s] E L (.int .i64 (s - 16)) := by
  refine CallS.toV (CallS.intro (l := [_]) _ Try.func85 rfl Try.ntmps85 rfl ?_)
  refine G_seq (G_region ?_)
  refine G_val (V_assign rfl rfl) rfl rfl (.none rfl) ?_
  refine G_end (X_then (G_seq (G_seq (G_region ?_))))
  refine G_val (V_move rfl rfl) rfl rfl (.none rfl) ?_
  refine G_val (V_lss rfl rfl rfl) rfl rfl (.none rfl) ?_
  refine G_end (X_then ?_)
  refine G_cond_f rfl (decide_eq_false (by omega)) ?_
  refine G_skip (X_then (G_seq (G_region ?_)))
  refine G_val (V_move rfl rfl) rfl rfl (.none rfl) ?_
  refine G_val (V_sub_i64 rfl rfl rfl (by omega) (by omega)) rfl rfl (.none rfl) ?_
  refine G_val (V_assign rfl rfl) rfl rfl (.none rfl) ?_
  refine G_end (X_then (G_ret ?_))
  refine G_leaveS (.nil _) (by exact (.cons (.tmp rfl) (.nil))) rfl ?_ ?_
  · exact (.refl _)
  exact ⟨rfl, rfl⟩
theorem all_call (rp : Option Addr) (rc : Nat) (r : List Int) (terms : Bool) (p : Option Addr) (n c : Nat) (l : List Bool) (hr : SlE E 1 rp r.length (i64s r)) (hl : Rd E L 1 p n (bools l)) (hn : l.length = n) (hn2 : n ≤ 100) (h12 : r.length ≤ 1000) (hy : ∀ s, s ∈ r → s < 16 + (n : Int)) :
    CallV Try.prog 88 #[.slice rp r.length rc, .bool terms, .slice p n c] E L (.bool (r.all (goodB terms l))) := by
  subst hn
  refine CallS.toV (CallS.intro (l := [_, _, _]) _ Try.func88 rfl Try.ntmps88 rfl ?_)
  refine G_seq (G_region ?_)
  refine G_val (V_assign rfl rfl) rfl rfl (.none rfl) ?_
  refine G_end (X_then (G_seq (G_seq (G_region ?_))))
  refine G_val (V_assign rfl rfl) rfl rfl (.none rfl) ?_
  refine G_end (X_then (G_block ?_))
  refine G_loop (α := Nat) (fun i => [(0, .slice rp r.length rc), (1, .bool terms), (2, .slice p l.length c), (7, .int .i64 i)]) (fun _ => E) (fun _ => L)
    (fun i => i ≤ r.length ∧ (r.take i).all (goodB terms l) = true) (fun i => r.length - i) 0 ⟨Nat.zero_le _, rfl⟩ ⟨rfl, rfl, rfl, rfl, trivial⟩ rfl rfl ?_
  rintro i ⟨hi, hall⟩
  by_cases hlt : i < r.length
  · have hx := i64s_at hlt
    have hs := hy _ (List.getElem_mem hlt)
    have ht := take_all (f := goodB terms l) hlt
    rw [hall, Bool.true_and] at ht
    have hno : goodB terms l r[i] = false → r.all (goodB terms l) = false := fun h => all_not hlt h
    by_cases h16 : r[i] < 16
    · rw [goodB, if_pos h16] at ht hno
      cases terms with
      | true =>
        refine G_seq (G_seq (G_region ?_))
        refine G_val (V_move rfl rfl) rfl rfl (.none rfl) ?_
        refine G_val (V_move rfl rfl) rfl rfl (.none rfl) ?_
        refine G_val (V_lenS rfl rfl) rfl rfl (.none rfl) ?_
        refine G_val (V_lss rfl rfl rfl) rfl rfl (.none rfl) ?_
        refine G_end (X_then ?_)
        refine G_cond_t rfl (decide_eq_true (by omega)) ?_
        refine G_skip (X_then (G_seq (G_block (G_seq (G_region ?_)))))
        refine G_val (V_move rfl rfl) rfl rfl (.none rfl) ?_
        refine G_val (V_move rfl rfl) rfl rfl (.none rfl) ?_
        refine G_val (V_idxAddr rfl rfl rfl (SlE.rd (by assumption)) (by omega) (by omega)) rfl rfl (.none rfl) ?_
        refine G_val (V_loadS rfl rfl (SlE.rd (by assumption)) (by assumption) (by simp)) rfl rfl (.none rfl) ?_
        refine G_callv (k := 85) (.mk rfl rfl rfl rfl) rfl rfl (.none rfl) (indext_call _ _ _ (by assumption)) ?_
        refine G_val (V_assign rfl rfl) rfl rfl (.none rfl) ?_
        refine G_end (X_then (G_seq (G_region ?_)))
        refine G_val (V_move rfl rfl) rfl rfl (.none rfl) ?_
        refine G_val (V_lss rfl rfl rfl) rfl rfl (.none rfl) ?_
        refine G_val (V_move rfl rfl) rfl rfl (.none rfl) ?_
        refine G.bool_t 22 rfl (by kernel_rfl) ?_
        refine G_val (V_move rfl rfl) rfl rfl (.yes rfl rfl rfl rfl) ?_
        refine G_val (V_not rfl rfl) rfl rfl (.yes rfl rfl rfl rfl) ?_
        refine G_val (V_pick_t rfl rfl rfl) rfl rfl (.none rfl) ?_
        refine G_val (V_move rfl rfl) rfl rfl (.none rfl) ?_
        refine G.bool_f 26 rfl (by kernel_rfl) ?_
        refine G_val (V_move rfl rfl) rfl rfl (.yes rfl rfl rfl rfl) ?_
        refine G_val (V_geq rfl rfl rfl) rfl rfl (.yes rfl rfl rfl rfl) ?_
        refine G_val (V_move rfl rfl) rfl rfl (.yes rfl rfl rfl rfl) ?_
        refine G.bool_f 29 rfl (by kernel_rfl) ?_
        refine G_stay (.no rfl rfl rfl rfl) rfl rfl ?_
        refine G_stay (.no rfl rfl rfl rfl) rfl rfl ?_
        refine G_stay (.no rfl rfl rfl rfl) rfl rfl ?_
        refine G_stay (.no rfl rfl rfl rfl) rfl rfl ?_
        refine G_stay (.no rfl rfl rfl rfl) rfl rfl ?_
        refine G_val (V_pick_f rfl rfl rfl) rfl rfl (.yes rfl rfl rfl rfl) ?_
        refine G_val (V_pick_f rfl rfl rfl) rfl rfl (.none rfl) ?_
        refine G_end (X_then ?_)
        refine G_cond_f rfl rfl ?_
        refine G_skip (X_block (X_then (G_region ?_)))
        refine G_val (V_move rfl rfl) rfl rfl (.none rfl) ?_
        refine G_val (V_add_i64 rfl rfl rfl (by omega) (by omega)) rfl rfl (.none rfl) ?_
        refine G_val (V_assign rfl rfl) rfl rfl (.none rfl) ?_
        refine G_end (X_then ?_)
        exact G_again (i + 1) ⟨hlt, ht⟩ (by omega) ⟨rfl, rfl, rfl, rfl, trivial⟩ rfl rfl
      | false =>
        rw [hno rfl]
        refine G_seq (G_seq (G_region ?_))
        refine G_val (V_move rfl rfl) rfl rfl (.none rfl) ?_
        refine G_val (V_move rfl rfl) rfl rfl (.none rfl) ?_
        refine G_val (V_lenS rfl rfl) rfl rfl (.none rfl) ?_
        refine G_val (V_lss rfl rfl rfl) rfl rfl (.none rfl) ?_
        refine G_end (X_then ?_)
        refine G_cond_t rfl (decide_eq_true (by omega)) ?_
        refine G_skip (X_then (G_seq (G_block (G_seq (G_region ?_)))))
        refine G_val (V_move rfl rfl) rfl rfl (.none rfl) ?_
        refine G_val (V_move rfl rfl) rfl rfl (.none rfl) ?_
        refine G_val (V_idxAddr rfl rfl rfl (SlE.rd (by assumption)) (by omega) (by omega)) rfl rfl (.none rfl) ?_
        refine G_val (V_loadS rfl rfl (SlE.rd (by assumption)) (by assumption) (by simp)) rfl rfl (.none rfl) ?_
        refine G_callv (k := 85) (.mk rfl rfl rfl rfl) rfl rfl (.none rfl) (indext_call _ _ _ (by assumption)) ?_
        refine G_val (V_assign rfl rfl) rfl rfl (.none rfl) ?_
        refine G_end (X_then (G_seq (G_region ?_)))
        refine G_val (V_move rfl rfl) rfl rfl (.none rfl) ?_
        refine G_val (V_lss rfl rfl rfl) rfl rfl (.none rfl) ?_
        refine G_val (V_move rfl rfl) rfl rfl (.none rfl) ?_
        refine G.bool_t 22 rfl (by kernel_rfl) ?_
        refine G_val (V_move rfl rfl) rfl rfl (.yes rfl rfl rfl rfl) ?_
        refine G_val (V_not rfl rfl) rfl rfl (.yes rfl rfl rfl rfl) ?_
        refine G_val (V_pick_t rfl rfl rfl) rfl rfl (.none rfl) ?_
        refine G_val (V_move rfl rfl) rfl rfl (.none rfl) ?_
        refine G.bool_t 26 rfl (by kernel_rfl) ?_
        refine G_stay (.no rfl rfl rfl rfl) rfl rfl ?_
        refine G_stay (.no rfl rfl rfl rfl) rfl rfl ?_
        refine G_stay (.no rfl rfl rfl rfl) rfl rfl ?_
        refine G_stay (.un rfl rfl rfl rfl) rfl rfl ?_
        refine G_stay (.un rfl rfl rfl rfl) rfl rfl ?_
        refine G_stay (.un rfl rfl rfl rfl) rfl rfl ?_
        refine G_stay (.un rfl rfl rfl rfl) rfl rfl ?_
        refine G_stay (.un rfl rfl rfl rfl) rfl rfl ?_
        refine G_stay (.no rfl rfl rfl rfl) rfl rfl ?_
        refine G_val (V_pick_t rfl rfl rfl) rfl rfl (.none rfl) ?_
        refine G_end (X_then ?_)
        refine G_cond_t rfl rfl ?_
        refine G_seq (G_region ?_)
        refine G_val (V_assign rfl rfl) rfl rfl (.none rfl) ?_
        refine G_end (X_then (G_ret (X_block_ret (X_then_ret (X_then_ret (X_block_ret (X_then_ret ?_)))))))
        refine G_leaveS (.nil _) (by exact (.cons (.tmp rfl) (.nil))) rfl ?_ ?_
        · exact (.refl _)
        exact ⟨(by kernel_rfl), rfl⟩
    · have hb := bools_get (l := l) (by omega) hs
      rw [goodB, if_neg h16] at ht hno
      cases hv : bget l r[i] with
      | true =>
        refine G_seq (G_seq (G_region ?_))
        refine G_val (V_move rfl rfl) rfl rfl (.none rfl) ?_
        refine G_val (V_move rfl rfl) rfl rfl (.none rfl) ?_
        refine G_val (V_lenS rfl rfl) rfl rfl (.none rfl) ?_
        refine G_val (V_lss rfl rfl rfl) rfl rfl (.none rfl) ?_
        refine G_end (X_then ?_)
        refine G_cond_t rfl (decide_eq_true (by omega)) ?_
        refine G_skip (X_then (G_seq (G_block (G_seq (G_region ?_)))))
        refine G_val (V_move rfl rfl) rfl rfl (.none rfl) ?_
        refine G_val (V_move rfl rfl) rfl rfl (.none rfl) ?_
        refine G_val (V_idxAddr rfl rfl rfl (SlE.rd (by assumption)) (by omega) (by omega)) rfl rfl (.none rfl) ?_
        refine G_val (V_loadS rfl rfl (SlE.rd (by assumption)) (by assumption) (by simp)) rfl rfl (.none rfl) ?_
        refine G_callv (k := 85) (.mk rfl rfl rfl rfl) rfl rfl (.none rfl) (indexn_call _ _ _ (by omega) (by omega)) ?_
        refine G_val (V_assign rfl rfl) rfl rfl (.none rfl) ?_
        refine G_end (X_then (G_seq (G_region ?_)))
        refine G_val (V_move rfl rfl) rfl rfl (.none rfl) ?_
        refine G_val (V_lss rfl rfl rfl) rfl rfl (.none rfl) ?_
        refine G_val (V_move rfl rfl) rfl rfl (.none rfl) ?_
        refine G.bool_f 22 rfl (decide_eq_false (by omega)) ?_
        refine G_stay (.no rfl rfl rfl rfl) rfl rfl ?_
        refine G_stay (.no rfl rfl rfl rfl) rfl rfl ?_
        refine G_val (V_pick_f rfl rfl rfl) rfl rfl (.none rfl) ?_
        refine G_val (V_move rfl rfl) rfl rfl (.none rfl) ?_
        refine G_val (V_move rfl rfl) rfl rfl (.yes rfl rfl rfl rfl) ?_
        refine G_val (V_geq rfl rfl rfl) rfl rfl (.yes rfl rfl rfl rfl) ?_
        refine G_val (V_move rfl rfl) rfl rfl (.yes rfl rfl rfl rfl) ?_
        refine G.bool_t 29 rfl (decide_eq_true (by omega)) ?_
        refine G_val (V_move rfl rfl) rfl rfl (.yes rfl rfl rfl rfl) ?_
        refine G_val (V_move rfl rfl) rfl rfl (.yes rfl rfl rfl rfl) ?_
        refine G_val (V_idxAddr rfl rfl rfl (by assumption) (by omega) (by omega)) rfl rfl (.yes rfl rfl rfl rfl) ?_
        refine G_val (V_loadS rfl rfl (by assumption) (by assumption) (by simp)) rfl rfl (.yes rfl rfl rfl rfl) ?_
        refine G_val (V_not rfl rfl) rfl rfl (.yes rfl rfl rfl rfl) ?_
        refine G_val (V_pick_t rfl rfl rfl) rfl rfl (.yes rfl rfl rfl rfl) ?_
        refine G_val (V_pick_f rfl rfl rfl) rfl rfl (.none rfl) ?_
        refine G_end (X_then ?_)
        refine G_cond_f rfl (by simp [*]; done) ?_
        refine G_skip (X_block (X_then (G_region ?_)))
        refine G_val (V_move rfl rfl) rfl rfl (.none rfl) ?_
        refine G_val (V_add_i64 rfl rfl rfl (by omega) (by omega)) rfl rfl (.none rfl) ?_
        refine G_val (V_assign rfl rfl) rfl rfl (.none rfl) ?_
        refine G_end (X_then ?_)
        exact G_again (i + 1) ⟨hlt, by rw [ht, hv]⟩ (by omega) ⟨rfl, rfl, rfl, rfl, trivial⟩ rfl rfl
      | false =>
        rw [hno hv]
        refine G_seq (G_seq (G_region ?_))
        refine G_val (V_move rfl rfl) rfl rfl (.none rfl) ?_
        refine G_val (V_move rfl rfl) rfl rfl (.none rfl) ?_
        refine G_val (V_lenS rfl rfl) rfl rfl (.none rfl) ?_
        refine G_val (V_lss rfl rfl rfl) rfl rfl (.none rfl) ?_
        refine G_end (X_then ?_)
        refine G_cond_t rfl (decide_eq_true (by omega)) ?_
        refine G_skip (X_then (G_seq (G_block (G_seq (G_region ?_)))))
        refine G_val (V_move rfl rfl) rfl rfl (.none rfl) ?_
        refine G_val (V_move rfl rfl) rfl rfl (.none rfl) ?_
        refine G_val (V_idxAddr rfl rfl rfl (SlE.rd (by assumption)) (by omega) (by omega)) rfl rfl (.none rfl) ?_
        refine G_val (V_loadS rfl rfl (SlE.rd (by assumption)) (by assumption) (by simp)) rfl rfl (.none rfl) ?_
        refine G_callv (k := 85) (.mk rfl rfl rfl rfl) rfl rfl (.none rfl) (indexn_call _ _ _ (by omega) (by omega)) ?_
        refine G_val (V_assign rfl rfl) rfl rfl (.none rfl) ?_
        refine G_end (X_then (G_seq (G_region ?_)))
        refine G_val (V_move rfl rfl) rfl rfl (.none rfl) ?_
        refine G_val (V_lss rfl rfl rfl) rfl rfl (.none rfl) ?_
        refine G_val (V_move rfl rfl) rfl rfl (.none rfl) ?_
        refine G.bool_f 22 rfl (decide_eq_false (by omega)) ?_
        refine G_stay (.no rfl rfl rfl rfl) rfl rfl ?_
        refine G_stay (.no rfl rfl rfl rfl) rfl rfl ?_
        refine G_val (V_pick_f rfl rfl rfl) rfl rfl (.none rfl) ?_
        refine G_val (V_move rfl rfl) rfl rfl (.none rfl) ?_
        refine G_val (V_move rfl rfl) rfl rfl (.yes rfl rfl rfl rfl) ?_
        refine G_val (V_geq rfl rfl rfl) rfl rfl (.yes rfl rfl rfl rfl) ?_
        refine G_val (V_move rfl rfl) rfl rfl (.yes rfl rfl rfl rfl) ?_
        refine G.bool_t 29 rfl (decide_eq_true (by omega)) ?_
        refine G_val (V_move rfl rfl) rfl rfl (.yes rfl rfl rfl rfl) ?_
        refine G_val (V_move rfl rfl) rfl rfl (.yes rfl rfl rfl rfl) ?_
        refine G_val (V_idxAddr rfl rfl rfl (by assumption) (by omega) (by omega)) rfl rfl (.yes rfl rfl rfl rfl) ?_
        refine G_val (V_loadS rfl rfl (by assumption) (by assumption) (by simp)) rfl rfl (.yes rfl rfl rfl rfl) ?_
        refine G_val (V_not rfl rfl) rfl rfl (.yes rfl rfl rfl rfl) ?_
        refine G_val (V_pick_t rfl rfl rfl) rfl rfl (.yes rfl rfl rfl rfl) ?_
        refine G_val (V_pick_f rfl rfl rfl) rfl rfl (.none rfl) ?_
        refine G_end (X_then ?_)
        refine G_cond_t rfl (by simp [*]; done) ?_
        refine G_seq (G_region ?_)
        refine G_val (V_assign rfl rfl) rfl rfl (.none rfl) ?_
        refine G_end (X_then (G_ret (X_block_ret (X_then_ret (X_then_ret (X_block_ret (X_then_ret ?_)))))))
        refine G_leaveS (.nil _) (by exact (.cons (.tmp rfl) (.nil))) rfl ?_ ?_
        · exact (.refl _)
        exact ⟨(by kernel_rfl), rfl⟩
  · have e2 : r.take i = r := List.take_of_length_le (by omega)
    rw [e2] at hall
    rw [hall]
    refine G_seq (G_seq (G_region ?_))
    refine G_val (V_move rfl rfl) rfl rfl (.none rfl) ?_
    refine G_val (V_move rfl rfl) rfl rfl (.none rfl) ?_
    refine G_val (V_lenS rfl rfl) rfl rfl (.none rfl) ?_
    refine G_val (V_lss rfl rfl rfl) rfl rfl (.none rfl) ?_
    refine G_end (X_then ?_)
    refine G_cond_f rfl (decide_eq_false (by omega)) ?_
    refine G_exit (X_then_exit (X_then_exit (X_block_hit (X_then (G_seq (G_region ?_))))))
    refine G_val (V_assign rfl rfl) rfl rfl (.none rfl) ?_
    refine G_end (X_then (G_ret ?_))
    refine G_leaveS (.nil _) (by exact (.cons (.tmp rfl) (.nil))) rfl ?_ ?_
    · exact (.refl _)
    exact ⟨(by kernel_rfl), rfl⟩
end
end Go.Proofs.Ytaoinojdijbhaaa
