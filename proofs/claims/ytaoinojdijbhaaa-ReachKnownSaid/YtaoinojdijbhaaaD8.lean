import Derived.Test.YtaoinojdijbhaaaSep19
import Derived.Test.YtaoinojdijbhaaaSep20
import Derived.Test.YtaoinojdijbhaaaSep21
import Derived.Test.YtaoinojdijbhaaaSep22
import Derived.Test.YtaoinojdijbhaaaSep23
import Derived.Test.YtaoinojdijbhaaaSep24
import Derived.Test.YtaoinojdijbhaaaInst
import Derived.Test.YtaoinojdijbhaaaD5
set_option linter.unusedSimpArgs false
set_option linter.unusedVariables false
set_option maxHeartbeats 2000000
set_option maxRecDepth 20000
namespace Go.Proofs.Ytaoinojdijbhaaa
open Go.RowKit
/-! Numbers that are marked in a map. -/
def yesI (l : List Int) : List (Int × Value) := l.map fun s => (s, .bool true)
theorem yesI_get (l : List Int) (s : Int) : mget (yesI l) s = if s ∈ l then some (.bool true) else none := by
  induction l with
  | nil => rfl
  | cons a l ih =>
    simp only [yesI, List.map_cons, mget, List.mem_cons] at ih ⊢
    by_cases h : s = a
    · simp [h]
    · rw [if_neg h, ih]; simp [h]
theorem yesI_getD (l : List Int) (s : Int) : (mget (yesI l) s).getD (.bool false) = .bool (decide (s ∈ l)) := by
  rw [yesI_get]
  by_cases h : s ∈ l <;> simp [h]
theorem yesI_put (l : List Int) (s : Int) (h : s ∉ l) : mput (yesI l) s (.bool true) = yesI (l ++ [s]) := by
  induction l with
  | nil => rfl
  | cons a l ih =>
    simp only [List.mem_cons, not_or] at h
    have := ih h.2
    simp only [yesI, List.map_cons, List.cons_append, mput, if_neg h.1] at this ⊢
    rw [this]
theorem yesI_len (l : List Int) : (yesI l).length = l.length := List.length_map _
theorem yesI_at {l : List Int} {i : Nat} {p : Int × Value} (h : (yesI l)[i]? = some p) : ∃ s, l[i]? = some s ∧ p = (s, .bool true) := by
  rw [yesI, List.getElem?_map] at h
  obtain ⟨s, h1, h2⟩ := Option.map_eq_some_iff.1 h
  exact ⟨s, h1, h2.symm⟩
def marks (n : Nat) (ks : List Int) : List Bool := (List.range n).map fun i => decide ((16 : Int) + (i : Nat) ∈ ks)
theorem marks_len (n : Nat) (ks : List Int) : (marks n ks).length = n := by simp [marks]
theorem marks_get {n : Nat} {ks : List Int} {s : Int} (h1 : 16 ≤ s) (h2 : s < 16 + n) : bget (marks n ks) s = decide (s ∈ ks) := by
  have h : (s - 16).toNat < n := by omega
  have e : (16 : Int) + ((s - 16).toNat : Nat) = s := by omega
  have e2 : (marks n ks)[(s - 16).toNat]? = some (decide (s ∈ ks)) := by rw [marks, List.getElem?_map, List.getElem?_range h, Option.map_some, e]
  rw [bget, e2]; rfl
theorem marks_put {n : Nat} {ks : List Int} {s : Int} (h1 : 16 ≤ s) : marks n (ks ++ [s]) = (marks n ks).set (s - 16).toNat true := by
  apply List.ext_getElem
  · simp [marks]
  · intro i h3 h4
    rw [List.getElem_set]
    simp only [marks, List.getElem_map, List.getElem_range, List.mem_append, List.mem_singleton]
    by_cases he : (s - 16).toNat = i
    · rw [if_pos he]
      exact decide_eq_true (.inr (by omega))
    · rw [if_neg he]
      have : ¬ (16 : Int) + (i : Nat) = s := by omega
      simp [this]
theorem marks_nil (n : Nat) : marks n [] = startB n := by
  apply List.ext_getElem
  · simp [marks, startB]
  · intro i h1 h2; simp [marks, startB]
theorem marks_congr {n : Nat} {a b : List Int} (h : ∀ s, s ∈ a ↔ s ∈ b) : marks n a = marks n b := by
  simp [marks, h]
theorem bools_set (l : List Bool) (i : Nat) (b : Bool) : (bools l).set i (.bool b) = bools (l.set i b) := by simp [bools, List.map_set]
theorem unseen_lt {l seen : List Nat} {i : Nat} (hi : i ∈ l) (hs : i ∉ seen) : (l.filter fun j => decide (j ∉ seen ++ [i])).length < (l.filter fun j => decide (j ∉ seen)).length := by
  have le : ∀ l : List Nat, (l.filter fun j => decide (j ∉ seen ++ [i])).length ≤ (l.filter fun j => decide (j ∉ seen)).length := by
    intro l
    induction l with
    | nil => exact Nat.le_refl _
    | cons x l ih =>
      simp only [List.filter_cons, List.mem_append, List.mem_singleton, not_or] at ih ⊢
      by_cases h2 : x = i
      · subst h2
        by_cases h1 : x ∈ seen <;> simp [h1] at ih ⊢ <;> omega
      · by_cases h1 : x ∈ seen <;> simp [h1, h2] at ih ⊢ <;> omega
  induction l with
  | nil => cases hi
  | cons x l ih =>
    have hle := le l
    simp only [List.filter_cons, List.mem_append, List.mem_singleton, not_or] at ih hle ⊢
    by_cases h2 : x = i
    · subst h2
      simp [hs] at hle ⊢
      omega
    · have hi' : i ∈ l := by
        rcases List.mem_cons.1 hi with h | h
        · exact absurd h.symm h2
        · exact h
      have := ih hi'
      by_cases h1 : x ∈ seen <;> simp [h1, h2] at this ⊢ <;> omega
section
variable (E : Env) (L : List Res)
theorem reached_call (gv : Value) (g : Gr) (hg : GrE E gv g) (hl : Light g) (a : Int) (hw : Wf g.prods g.names.length) (ha : 16 ≤ a) (ha2 : a < 16 + g.names.length) :
    CallS Try.prog 83 #[gv, .int .i64 a] E L (fun r E' L' => ∃ b, r = .slice (some ⟨b, 0, none⟩) g.names.length g.names.length ∧ SlE E' 1 (some ⟨b, 0, none⟩) g.names.length (bools (reachL g.prods g.names.length a)) ∧ L' = L) := by
  have hg0 := hg
  obtain ⟨tp, tc, np, nc, pp, pc, rfl, ht, hn, ⟨rows, hrows, hps, hre⟩, k1, k2, k3⟩ := hg
  have hlen : g.prods.length = rows.length := by rw [← hrows]; simp
  have q1 := hl.t; have q2 := hl.n; have q3 := hl.p
  refine CallS.intro (l := [_, _]) _ Try.func83 rfl Try.ntmps83 rfl ?_
  refine G_seq (G_region ?_)
  (refine G_boxA rfl rfl rfl rfl (.none rfl) ?_; intro b2)
  refine G_val (V_assign rfl rfl) rfl rfl (.none rfl) ?_
  refine G_end (X_then (G_scope (G_seq (G_region ?_))))
  (refine G_makeMap kI rfl rfl rfl (.none rfl) ?_; intro b12)
  refine G_val (V_move rfl rfl) rfl rfl (.none rfl) ?_
  refine G_mapUpdate kI _ (.inr rfl) rfl rfl rfl rfl (.none rfl) (.head _ _ _) ?_
  refine G_val (V_move rfl rfl) rfl rfl (.none rfl) ?_
  refine G_val (V_assign rfl rfl) rfl rfl (.none rfl) ?_
  refine G_end (X_then (G_seq (G_label (X_then (G_seq (G_block ?_))))))
  refine G_loop (α := List Int) (fun _ => [(2, .pointer (some ⟨b2, 0, none⟩)), (5, .map (some b12))]) (fun _ => E) (fun ks => .blk b12 (mobj kI (yesI ks)) :: GB b2 g tp tc np nc pp pc :: L)
    (fun ks => InvR g.prods g.names.length a (marks g.names.length ks) ∧ a ∈ ks ∧ ∀ s, s ∈ ks → 16 ≤ s ∧ s < 16 + (g.names.length : Int)) (fun ks => meas (tab (marks g.names.length ks))) [a]
    ⟨by rw [← List.nil_append [a], marks_put ha, marks_nil]; exact invR_start hw ha ha2, .head _, fun s hs => by rw [List.mem_singleton.1 hs]; exact ⟨ha, ha2⟩⟩ ⟨rfl, rfl, trivial⟩ rfl rfl ?_
  rintro ks ⟨hi, hak, hks⟩
  refine G_block (G_seq (G_seq (G_region ?_)))
  refine G_val (V_fieldAddr rfl rfl (by decide)) rfl rfl (.none rfl) ?_
  refine G_val (V_load rfl rfl (Cell.own (.tail _ (.head _)) rfl)) rfl rfl (.none rfl) ?_
  refine G_val (V_lenS rfl rfl) rfl rfl (.none rfl) ?_
  refine G_val (V_move rfl rfl) rfl rfl (.none rfl) ?_
  refine G_end (X_then (G_block ?_))
  refine G_loop (α := Nat) (fun i => [(2, .pointer (some ⟨b2, 0, none⟩)), (5, .map (some b12)), (16, .slice pp g.prods.length pc), (17, .int .i64 g.prods.length), (18, .int .i64 i)]) (fun _ => E) (fun _ => .blk b12 (mobj kI (yesI ks)) :: GB b2 g tp tc np nc pp pc :: L)
    (fun i => i ≤ rows.length ∧ ∀ k, k < i → (hk : k < rows.length) → rows[k].2.2.1 ∈ ks → ∀ s, s ∈ rows[k].2.2.2 → 16 ≤ s → s ∈ ks) (fun i => rows.length - i) 0 ⟨Nat.zero_le _, fun k hk => by cases hk⟩ ⟨rfl, rfl, rfl, rfl, rfl, trivial⟩ rfl rfl ?_
  rintro i ⟨hile, hall⟩
  by_cases hlt : i < rows.length
  · have hg1 := List.getElem?_eq_getElem hlt
    have hy := prows_get hg1
    have hre1 := hre.get hg1
    have hp : rows[i].2.2 ∈ g.prods := by rw [← hrows]; exact List.mem_map.2 ⟨rows[i], List.getElem_mem hlt, rfl⟩
    have hl1 := hw.left _ hp
    have h8 := hw.right _ hp
    have hsy := hw.syms _ hp
    refine G_seq (G_region ?_)
    refine G_val (V_lss rfl rfl rfl) rfl rfl (.none rfl) ?_
    refine G_end (X_then (G_seq ?_))
    refine G_cond_t rfl (decide_eq_true (by omega)) ?_
    refine G_skip (X_then (G_seq (G_block (G_seq (G_region ?_)))))
    refine G_val (V_idxAddr rfl rfl rfl (SlE.rd (by assumption)) (by omega) (by omega)) rfl rfl (.none rfl) ?_
    refine G_val (V_loadAS rfl rfl (SlE.rd (by assumption)) (by assumption) (by simp) (by rfl)) rfl rfl (.none rfl) ?_
    (refine G_alloc rfl rfl rfl (.none rfl) ?_; intro b7)
    refine G_storeA rfl rfl rfl rfl (by simp [Value.oneCell']) rfl (.none rfl) (.head _ _ _) rfl ?_
    refine G_end (X_then (G_seq (G_region ?_)))
    refine G_val (V_fieldAddr rfl rfl (by decide)) rfl rfl (.none rfl) ?_
    refine G_val (V_load rfl rfl (Cell.own (.head _) rfl)) rfl rfl (.none rfl) ?_
    refine G_val (V_lenS rfl rfl) rfl rfl (.none rfl) ?_
    refine G_val (V_move rfl rfl) rfl rfl (.none rfl) ?_
    refine G_end (X_then (G_block ?_))
    refine G_loop (α := Nat) (fun j => [(2, .pointer (some ⟨b2, 0, none⟩)), (5, .map (some b12)), (7, .pointer (some ⟨b7, 0, none⟩)), (16, .slice pp g.prods.length pc), (17, .int .i64 g.prods.length), (18, .int .i64 i), (23, .slice rows[i].1 rows[i].2.2.2.length rows[i].2.1), (24, .int .i64 rows[i].2.2.2.length), (25, .int .i64 j)]) (fun _ => E)
      (fun _ => .blk b7 (.cells #[.int .i64 rows[i].2.2.1, .slice rows[i].1 rows[i].2.2.2.length rows[i].2.1] 62 (0, 0)) :: .blk b12 (mobj kI (yesI ks)) :: GB b2 g tp tc np nc pp pc :: L)
      (fun j => j ≤ rows[i].2.2.2.length ∧ ∀ k, k < j → (hk : k < rows[i].2.2.2.length) → rows[i].2.2.1 ∈ ks → 16 ≤ rows[i].2.2.2[k] → rows[i].2.2.2[k] ∈ ks) (fun j => rows[i].2.2.2.length - j) 0 ⟨Nat.zero_le _, fun k hk => by cases hk⟩ ⟨rfl, rfl, rfl, rfl, rfl, rfl, rfl, rfl, rfl, trivial⟩ rfl rfl ?_
    rintro j ⟨hjle, hjall⟩
    by_cases hjlt : j < rows[i].2.2.2.length
    · have hx := i64s_at hjlt
      have again : (rows[i].2.2.1 ∈ ks → 16 ≤ rows[i].2.2.2[j] → rows[i].2.2.2[j] ∈ ks) → ∀ k, k < j + 1 → (hk : k < rows[i].2.2.2.length) → rows[i].2.2.1 ∈ ks → 16 ≤ rows[i].2.2.2[k] → rows[i].2.2.2[k] ∈ ks := by
        intro h k hk hk2
        by_cases he : k = j
        · subst he; exact h
        · exact hjall k (by omega) hk2
      cases hb : decide (rows[i].2.2.1 ∈ ks) with
      | false =>
        refine G_seq (G_region ?_)
        refine G_val (V_lss rfl rfl rfl) rfl rfl (.none rfl) ?_
        refine G_end (X_then (G_seq ?_))
        refine G_cond_t rfl (decide_eq_true (by omega)) ?_
        refine G_skip (X_then (G_seq (G_block (G_seq (G_region ?_)))))
        refine G_val (V_idxAddr rfl rfl rfl (SlE.rd (by assumption)) (by omega) (by omega)) rfl rfl (.none rfl) ?_
        refine G_val (V_loadS rfl rfl (SlE.rd (by assumption)) (by assumption) (by simp)) rfl rfl (.none rfl) ?_
        refine G_val (V_assign rfl rfl) rfl rfl (.none rfl) ?_
        refine G_end (X_then (G_seq (G_region ?_)))
        refine G_val (V_move rfl rfl) rfl rfl (.none rfl) ?_
        refine G_val (V_fieldAddr rfl rfl (by decide)) rfl rfl (.none rfl) ?_
        refine G_val (V_load rfl rfl (Cell.own (.head _) rfl)) rfl rfl (.none rfl) ?_
        refine G_val (V_lookup kI _ rfl rfl rfl (.tail _ (.head _))) rfl rfl (.none rfl) ?_
        refine G_val (V_move rfl rfl) rfl rfl (.none rfl) ?_
        rw [yesI_getD]
        refine G.bool_f 33 rfl (by assumption) ?_
        refine G_stay (.no rfl rfl rfl rfl) rfl rfl ?_
        refine G_stay (.no rfl rfl rfl rfl) rfl rfl ?_
        refine G_val (V_pick_f rfl rfl rfl) rfl rfl (.none rfl) ?_
        refine G_val (V_move rfl rfl) rfl rfl (.none rfl) ?_
        refine G_stay (.no rfl rfl rfl rfl) rfl rfl ?_
        refine G_stay (.no rfl rfl rfl rfl) rfl rfl ?_
        refine G_stay (.no rfl rfl rfl rfl) rfl rfl ?_
        refine G_stay (.no rfl rfl rfl rfl) rfl rfl ?_
        refine G_val (V_pick_f rfl rfl rfl) rfl rfl (.none rfl) ?_
        refine G_end (X_then ?_)
        refine G_cond_f rfl rfl ?_
        refine G_skip (X_block (X_then (G_region ?_)))
        refine G_val (V_add_i64 rfl rfl rfl (by omega) (by omega)) rfl rfl (.none rfl) ?_
        refine G_val (V_move rfl rfl) rfl rfl (.none rfl) ?_
        refine G_end (X_then ?_)
        exact G_again (j + 1) ⟨hjlt, again fun h => absurd h (of_decide_eq_false hb)⟩ (by omega) ⟨rfl, rfl, rfl, rfl, rfl, rfl, rfl, rfl, rfl, trivial⟩ rfl rfl
      | true =>
        by_cases h16 : 16 ≤ rows[i].2.2.2[j]
        · cases hc : decide (rows[i].2.2.2[j] ∈ ks) with
          | true =>
            refine G_seq (G_region ?_)
            refine G_val (V_lss rfl rfl rfl) rfl rfl (.none rfl) ?_
            refine G_end (X_then (G_seq ?_))
            refine G_cond_t rfl (decide_eq_true (by omega)) ?_
            refine G_skip (X_then (G_seq (G_block (G_seq (G_region ?_)))))
            refine G_val (V_idxAddr rfl rfl rfl (SlE.rd (by assumption)) (by omega) (by omega)) rfl rfl (.none rfl) ?_
            refine G_val (V_loadS rfl rfl (SlE.rd (by assumption)) (by assumption) (by simp)) rfl rfl (.none rfl) ?_
            refine G_val (V_assign rfl rfl) rfl rfl (.none rfl) ?_
            refine G_end (X_then (G_seq (G_region ?_)))
            refine G_val (V_move rfl rfl) rfl rfl (.none rfl) ?_
            refine G_val (V_fieldAddr rfl rfl (by decide)) rfl rfl (.none rfl) ?_
            refine G_val (V_load rfl rfl (Cell.own (.head _) rfl)) rfl rfl (.none rfl) ?_
            refine G_val (V_lookup kI _ rfl rfl rfl (.tail _ (.head _))) rfl rfl (.none rfl) ?_
            refine G_val (V_move rfl rfl) rfl rfl (.none rfl) ?_
            rw [yesI_getD]
            refine G.bool_t 33 rfl (by assumption) ?_
            refine G_val (V_move rfl rfl) rfl rfl (.yes rfl rfl rfl rfl) ?_
            refine G_val (V_geq rfl rfl rfl) rfl rfl (.yes rfl rfl rfl rfl) ?_
            refine G_val (V_pick_t rfl rfl rfl) rfl rfl (.none rfl) ?_
            refine G_val (V_move rfl rfl) rfl rfl (.none rfl) ?_
            refine G.bool_t 37 rfl (decide_eq_true (by omega)) ?_
            refine G_val (V_move rfl rfl) rfl rfl (.yes rfl rfl rfl rfl) ?_
            refine G_val (V_move rfl rfl) rfl rfl (.yes rfl rfl rfl rfl) ?_
            refine G_val (V_lookup kI _ rfl rfl rfl (.tail _ (.head _))) rfl rfl (.yes rfl rfl rfl rfl) ?_
            rw [yesI_getD]
            refine G_val (V_not rfl rfl) rfl rfl (.yes rfl rfl rfl rfl) ?_
            refine G_val (V_pick_t rfl rfl rfl) rfl rfl (.none rfl) ?_
            refine G_end (X_then ?_)
            refine G_cond_f rfl (by simp [*]; done) ?_
            refine G_skip (X_block (X_then (G_region ?_)))
            refine G_val (V_add_i64 rfl rfl rfl (by omega) (by omega)) rfl rfl (.none rfl) ?_
            refine G_val (V_move rfl rfl) rfl rfl (.none rfl) ?_
            refine G_end (X_then ?_)
            exact G_again (j + 1) ⟨hjlt, again fun _ _ => of_decide_eq_true hc⟩ (by omega) ⟨rfl, rfl, rfl, rfl, rfl, rfl, rfl, rfl, rfl, trivial⟩ rfl rfl
          | false =>
            refine G_seq (G_region ?_)
            refine G_val (V_lss rfl rfl rfl) rfl rfl (.none rfl) ?_
            refine G_end (X_then (G_seq ?_))
            refine G_cond_t rfl (decide_eq_true (by omega)) ?_
            refine G_skip (X_then (G_seq (G_block (G_seq (G_region ?_)))))
            refine G_val (V_idxAddr rfl rfl rfl (SlE.rd (by assumption)) (by omega) (by omega)) rfl rfl (.none rfl) ?_
            refine G_val (V_loadS rfl rfl (SlE.rd (by assumption)) (by assumption) (by simp)) rfl rfl (.none rfl) ?_
            refine G_val (V_assign rfl rfl) rfl rfl (.none rfl) ?_
            refine G_end (X_then (G_seq (G_region ?_)))
            refine G_val (V_move rfl rfl) rfl rfl (.none rfl) ?_
            refine G_val (V_fieldAddr rfl rfl (by decide)) rfl rfl (.none rfl) ?_
            refine G_val (V_load rfl rfl (Cell.own (.head _) rfl)) rfl rfl (.none rfl) ?_
            refine G_val (V_lookup kI _ rfl rfl rfl (.tail _ (.head _))) rfl rfl (.none rfl) ?_
            refine G_val (V_move rfl rfl) rfl rfl (.none rfl) ?_
            rw [yesI_getD]
            refine G.bool_t 33 rfl (by assumption) ?_
            refine G_val (V_move rfl rfl) rfl rfl (.yes rfl rfl rfl rfl) ?_
            refine G_val (V_geq rfl rfl rfl) rfl rfl (.yes rfl rfl rfl rfl) ?_
            refine G_val (V_pick_t rfl rfl rfl) rfl rfl (.none rfl) ?_
            refine G_val (V_move rfl rfl) rfl rfl (.none rfl) ?_
            refine G.bool_t 37 rfl (decide_eq_true (by omega)) ?_
            refine G_val (V_move rfl rfl) rfl rfl (.yes rfl rfl rfl rfl) ?_
            refine G_val (V_move rfl rfl) rfl rfl (.yes rfl rfl rfl rfl) ?_
            refine G_val (V_lookup kI _ rfl rfl rfl (.tail _ (.head _))) rfl rfl (.yes rfl rfl rfl rfl) ?_
            rw [yesI_getD]
            refine G_val (V_not rfl rfl) rfl rfl (.yes rfl rfl rfl rfl) ?_
            refine G_val (V_pick_t rfl rfl rfl) rfl rfl (.none rfl) ?_
            refine G_end (X_then ?_)
            refine G_cond_t rfl (by simp [*]; done) ?_
            refine G_seq (G_region ?_)
            refine G_val (V_move rfl rfl) rfl rfl (.none rfl) ?_
            refine G_val (V_move rfl rfl) rfl rfl (.none rfl) ?_
            refine G_mapUpdate kI _ (.inl rfl) rfl rfl rfl rfl (.none rfl) (.tail _ (.head _ _ _)) ?_
            refine G_end (X_then (G_exit ?_))
            refine X_block_miss rfl ?_
            refine X_then_exit (X_then_exit ?_)
            refine X_block_miss rfl ?_
            refine X_block_miss rfl ?_
            refine X_then_exit (X_then_exit ?_)
            refine X_block_miss rfl ?_
            refine X_then_exit (X_block_hit (X_then ?_))
            have hsy2 := hsy _ (List.getElem_mem hjlt)
            have hu := hi.upd hw ha ha2 hp (List.getElem_mem hjlt) h16 (by rw [marks_get hl1.1 hl1.2]; exact hb) (by rw [marks_get h16 hsy2]; exact hc)
            rw [← marks_put h16] at hu
            rw [yesI_put _ _ (of_decide_eq_false hc)]
            refine G.drop ?_
            refine G_again (ks ++ [rows[i].2.2.2[j]]) ⟨hu.1, List.mem_append_left _ hak, ?_⟩ hu.2 ⟨rfl, rfl, trivial⟩ rfl rfl
            intro s hs
            rcases List.mem_append.1 hs with hs | hs
            · exact hks s hs
            · rw [List.mem_singleton.1 hs]; exact ⟨h16, hsy2⟩
        · refine G_seq ?_
          refine G_region ?_
          refine G_val (V_lss rfl rfl rfl) rfl rfl (.none rfl) ?_
          refine G_end (X_then (G_seq ?_))
          refine G_cond_t rfl (decide_eq_true (by omega)) ?_
          refine G_skip (X_then (G_seq (G_block (G_seq (G_region ?_)))))
          refine G_val (V_idxAddr rfl rfl rfl (SlE.rd (by assumption)) (by omega) (by omega)) rfl rfl (.none rfl) ?_
          refine G_val (V_loadS rfl rfl (SlE.rd (by assumption)) (by assumption) (by simp)) rfl rfl (.none rfl) ?_
          refine G_val (V_assign rfl rfl) rfl rfl (.none rfl) ?_
          refine G_end (X_then (G_seq (G_region ?_)))
          refine G_val (V_move rfl rfl) rfl rfl (.none rfl) ?_
          refine G_val (V_fieldAddr rfl rfl (by decide)) rfl rfl (.none rfl) ?_
          refine G_val (V_load rfl rfl (Cell.own (.head _) rfl)) rfl rfl (.none rfl) ?_
          refine G_val (V_lookup kI _ rfl rfl rfl (.tail _ (.head _))) rfl rfl (.none rfl) ?_
          refine G_val (V_move rfl rfl) rfl rfl (.none rfl) ?_
          rw [yesI_getD]
          refine G.bool_t 33 rfl (by assumption) ?_
          refine G_val (V_move rfl rfl) rfl rfl (.yes rfl rfl rfl rfl) ?_
          refine G_val (V_geq rfl rfl rfl) rfl rfl (.yes rfl rfl rfl rfl) ?_
          refine G_val (V_pick_t rfl rfl rfl) rfl rfl (.none rfl) ?_
          refine G_val (V_move rfl rfl) rfl rfl (.none rfl) ?_
          refine G.bool_f 37 rfl (decide_eq_false (by omega)) ?_
          refine G_stay (.no rfl rfl rfl rfl) rfl rfl ?_
          refine G_stay (.no rfl rfl rfl rfl) rfl rfl ?_
          refine G_stay (.no rfl rfl rfl rfl) rfl rfl ?_
          refine G_stay (.no rfl rfl rfl rfl) rfl rfl ?_
          refine G_val (V_pick_f rfl rfl rfl) rfl rfl (.none rfl) ?_
          refine G_end (X_then ?_)
          refine G_cond_f rfl rfl ?_
          refine G_skip (X_block (X_then (G_region ?_)))
          refine G_val (V_add_i64 rfl rfl rfl (by omega) (by omega)) rfl rfl (.none rfl) ?_
          refine G_val (V_move rfl rfl) rfl rfl (.none rfl) ?_
          refine G_end (X_then ?_)
          exact G_again (j + 1) ⟨hjlt, again fun _ h => absurd h h16⟩ (by omega) ⟨rfl, rfl, rfl, rfl, rfl, rfl, rfl, rfl, rfl, trivial⟩ rfl rfl
    · refine G_seq ?_
      refine G_region ?_
      refine G_val (V_lss rfl rfl rfl) rfl rfl (.none rfl) ?_
      refine G_end (X_then (G_seq ?_))
      refine G_cond_f rfl (decide_eq_false (by omega)) ?_
      refine G_exit (X_then_exit (X_then_exit (X_block_hit (X_block (X_then (G_region ?_))))))
      refine G_val (V_add_i64 rfl rfl rfl (by omega) (by omega)) rfl rfl (.none rfl) ?_
      refine G_val (V_move rfl rfl) rfl rfl (.none rfl) ?_
      refine G_end (X_then ?_)
      refine G.drop ?_
      refine G_again (i + 1) ⟨hlt, ?_⟩ (by omega) ⟨rfl, rfl, rfl, rfl, rfl, trivial⟩ rfl rfl
      intro k hk hk2 hleft s hs h16
      by_cases he : k = i
      · subst he
        obtain ⟨m, hm, rfl⟩ := List.getElem_of_mem hs
        exact hjall m (by omega) hm hleft h16
      · exact hall k (by omega) hk2 hleft s hs h16
  · refine G_seq ?_
    refine G_region ?_
    refine G_val (V_lss rfl rfl rfl) rfl rfl (.none rfl) ?_
    refine G_end (X_then (G_seq ?_))
    refine G_cond_f rfl (decide_eq_false (by omega)) ?_
    refine G_exit (X_then_exit (X_then_exit (X_block_hit (X_then (G_exit ?_)))))
    refine X_block_miss rfl ?_
    refine X_then_exit (X_block_hit (X_then (G_seq (G_region ?_))))
    refine G_val (V_fieldAddr rfl rfl (by decide)) rfl rfl (.none rfl) ?_
    refine G_val (V_load rfl rfl (Cell.own (.tail _ (.head _)) rfl)) rfl rfl (.none rfl) ?_
    refine G_val (V_lenS rfl rfl) rfl rfl (.none rfl) ?_
    refine G_call (k := 110) (.mk rfl rfl rfl rfl) rfl rfl (.none rfl) (filledB_call _ _ _ _ (by omega)) ?_
    rintro r1 E2 L3 hE4 ⟨z5, ⟨rfl, ⟨rfl, rfl⟩⟩⟩
    replace hg0 := hg0.mono hE4
    replace ht := ht.mono hE4
    replace hn := hn.mono hE4
    replace hps := hps.mono hE4
    refine G_val (V_assign rfl rfl) rfl rfl (.none rfl) ?_
    refine G_end (X_then (G_seq (G_seq (G_region ?_))))
    refine G_val (V_move rfl rfl) rfl rfl (.none rfl) ?_
    (refine G_rangeM kI rfl rfl (.tail _ (.head _)) rfl rfl (.none rfl) ?_; intro b52)
    refine G_end (X_then (G_block ?_))
    refine G_loop (α := List Nat × List Int) (fun _ => [(10, .slice (some ⟨z5, 0, none⟩) g.names.length g.names.length), (52, .pointer (some ⟨b52, 0, none⟩))]) (fun _ => E) (fun x => .blk b52 (miter b12 (yesI ks).length x.1 (yesI ks).length) :: .blk z5 (.cells (bools (marks g.names.length x.2)).toArray 4 (0, 0)) :: .blk b12 (mobj kI (yesI ks)) :: GB b2 g tp tc np nc pp pc :: L)
      (fun x => (∀ i, i ∈ x.1 → ∀ s, ks[i]? = some s → s ∈ x.2) ∧ ∀ s, s ∈ x.2 → s ∈ ks) (fun x => ((List.range ks.length).filter fun j => decide (j ∉ x.1)).length) ([], []) ⟨fun i hi => (by cases hi), fun s hs => (by cases hs)⟩ ⟨rfl, rfl, trivial⟩ rfl (by rw [marks_nil]; simp [bools, startB]) ?_
    rintro ⟨seen, vis⟩ ⟨hv1, hv2⟩
    simp only at hv1 hv2 ⊢
    refine G_seq (G_region ?_)
    refine G_nextM kI rfl rfl (.tail _ (.tail _ (.head _))) (Nat.le_refl _) rfl rfl (.none rfl) (fun i => .head _ _ _) ?_ ?_
    · intro hall2
      have he : marks g.names.length vis = reachL g.prods g.names.length a := by
        rw [marks_congr (b := ks) fun s => ⟨hv2 s, fun hs => ?_⟩]
        · refine hi.done hw ha ha2 (by rw [marks_get ha ha2]; exact decide_eq_true hak) fun p hp h1 s hs h16 => ?_
          have hl1 := hw.left p hp
          have hs2 := hw.syms p hp s hs
          rw [marks_get hl1.1 hl1.2] at h1
          rw [marks_get h16 hs2]
          rw [← hrows] at hp
          obtain ⟨x, hx, rfl⟩ := List.mem_map.1 hp
          obtain ⟨k, hk, rfl⟩ := List.getElem_of_mem hx
          exact decide_eq_true (hall k (by omega) hk (of_decide_eq_true h1) s hs h16)
        · obtain ⟨k, hk, rfl⟩ := List.getElem_of_mem hs
          exact hv1 k (hall2 k (by rw [yesI_len]; exact hk)) _ (List.getElem?_eq_getElem hk)
      refine G.freezeB (.tail _ (.head _ _)) (k := g.names.length) (sz := 1) (by simp [bools, marks_len]) ?_
      intro E1 hE1 hs1
      rw [he] at hs1
      refine G_val (V_extract rfl rfl rfl) rfl rfl (.none rfl) ?_
      refine G_end (X_then (G_seq ?_))
      refine G_cond_f rfl rfl ?_
      refine G_exit (X_then_exit (X_then_exit (X_block_hit (X_then (G_seq (G_region ?_))))))
      refine G_val (V_move rfl rfl) rfl rfl (.none rfl) ?_
      refine G_val (V_assign rfl rfl) rfl rfl (.none rfl) ?_
      refine G_end (X_then (G_ret ?_))
      refine X_ng_ret ?_
      refine G_leaveS (.drop _ (.drop _ (.drop _ (.nil _)))) (by exact (.cons (.tmp rfl) (.nil))) rfl ?_ ?_
      · exact hE1
      exact ⟨_, ⟨rfl, ⟨(by assumption), rfl⟩⟩⟩
    · intro k p hk hkp
      obtain ⟨s, hs1, rfl⟩ := yesI_at hkp
      have hsk := hks s (List.mem_of_getElem? hs1)
      have hset : (bools (marks g.names.length vis)).set (s - 16).toNat (.bool true) = bools (marks g.names.length (vis ++ [s])) := by rw [marks_put hsk.1, bools_set]
      have hbl : (bools (marks g.names.length vis)).length = g.names.length := by simp [bools, marks_len]
      have hkl : k < ks.length := (List.getElem?_eq_some_iff.1 hs1).1
      dsimp only
      refine G_val (V_extract rfl rfl rfl) rfl rfl (.none rfl) ?_
      refine G_end (X_then (G_seq ?_))
      refine G_cond_t rfl rfl ?_
      refine G_skip (X_then (G_block (G_seq (G_region ?_))))
      refine G_val (V_entryM kI rfl rfl (.head _) (.tail _ (.tail _ (.head _))) (by assumption)) rfl rfl (.none rfl) ?_
      refine G_val (V_extract rfl rfl rfl) rfl rfl (.none rfl) ?_
      refine G_val (V_assign rfl rfl) rfl rfl (.none rfl) ?_
      refine G_end (X_then (G_region ?_))
      refine G_val (V_move rfl rfl) rfl rfl (.none rfl) ?_
      refine G_val (V_move rfl rfl) rfl rfl (.none rfl) ?_
      refine G_val (V_sub_i64 rfl rfl rfl (by omega) (by omega)) rfl rfl (.none rfl) ?_
      refine G_val (V_idxB1 rfl rfl rfl (by omega) (by omega)) rfl rfl (.none rfl) ?_
      refine G_storeB rfl rfl rfl rfl rfl rfl (.none rfl) (.tail _ (.head _ _ _)) (by omega) ?_
      refine G_end (X_block (X_then ?_))
      rw [hset]
      refine G_again (seen ++ [k], vis ++ [s]) ⟨?_, ?_⟩ (unseen_lt (List.mem_range.2 hkl) hk) ⟨rfl, rfl, trivial⟩ rfl rfl
      · intro i hi s2 hs2
        rcases List.mem_append.1 hi with h | h
        · exact List.mem_append_left _ (hv1 i h s2 hs2)
        · rw [List.mem_singleton.1 h, hs1] at hs2
          exact List.mem_append_right _ (List.mem_singleton.2 (Option.some.inj hs2).symm)
      · intro s2 hs2
        rcases List.mem_append.1 hs2 with h | h
        · exact hv2 s2 h
        · rw [List.mem_singleton.1 h]; exact List.mem_of_getElem? hs1
end
end Go.Proofs.Ytaoinojdijbhaaa
