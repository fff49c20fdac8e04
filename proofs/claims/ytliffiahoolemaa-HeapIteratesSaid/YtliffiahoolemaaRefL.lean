/-
  Chapter 02 (heap), part RefL: contracts of functions that the laws call, each for the heap it names.
-/
import Derived.Test.YtliffiahoolemaaHeapS
set_option linter.unusedVariables false
set_option maxRecDepth 20000
namespace Go.Proofs.Ytliffiahoolemaa


abbrev encW (w : WE) : List Value := [.int .i64 (w.h : Int), .int .i64 w.v, .int .u64 (w.k : Int)]
theorem encW3 (w : WE) : (encW w).length = 3 := rfl
theorem oneW (W : List WE) : (W.flatMap encW).all Value.oneCell' = true := fm_all (fun _ => rfl) W
theorem hds_at {W : List WE} (hn : (hds W).Nodup) {i j : Nat} {a b : WE} (ha : W[i]? = some a) (hb : W[j]? = some b) (e : a.h = b.h) : i = j := by
  obtain ⟨h1, rfl⟩ := List.getElem?_eq_some_iff.1 ha
  obtain ⟨h2, rfl⟩ := List.getElem?_eq_some_iff.1 hb
  rw [List.Nodup, List.pairwise_map, List.pairwise_iff_getElem] at hn
  rcases Nat.lt_trichotomy i j with q | q | q
  · exact absurd e (hn i j h1 h2 q)
  · exact q
  · exact absurd e.symm (hn j i h2 h1 q)
theorem wchange_set {W : List WE} (hn : (hds W).Nodup) {i : Nat} {w : WE} (hi : W[i]? = some w) (k : Nat) : wchange W w.h k = W.set i { w with k := k } := by
  apply List.ext_getElem?
  intro j
  rw [wchange, List.getElem?_map, List.getElem?_set]
  by_cases e : i = j
  · subst e
    rw [if_pos rfl, if_pos (List.getElem?_eq_some_iff.1 hi).1, hi]
    simp
  · rw [if_neg e]
    cases hj : W[j]? with
    | none => rfl
    | some u =>
      have : ¬ u.h = w.h := fun q => e (hds_at hn hi hj q.symm)
      simp [this]
theorem cut_split (W : List WE) (i : Nat) : W = W.take i ++ W.drop i := (List.take_append_drop i W).symm
theorem wremove_cut {W : List WE} (hn : (hds W).Nodup) {i : Nat} {w : WE} (hi : W[i]? = some w) : wremove W w.h = W.take i ++ W.drop (i + 1) := by
  obtain ⟨h1, he⟩ := List.getElem?_eq_some_iff.1 hi
  have e1 : W = W.take i ++ (w :: W.drop (i + 1)) := by rw [← he, ← List.drop_eq_getElem_cons h1, List.take_append_drop]
  have hn2 := hn
  rw [e1, hds, List.map_append, List.map_cons, List.nodup_append] at hn2
  obtain ⟨_, n2, n3⟩ := hn2
  rw [List.nodup_cons] at n2
  have f1 : (W.take i).filter (fun u : WE => decide (u.h ≠ w.h)) = W.take i := List.filter_eq_self.2 fun u hu => decide_eq_true fun q => n3 u.h (List.mem_map.2 ⟨u, hu, rfl⟩) w.h (List.mem_cons_self ..) q
  have f2 : (W.drop (i + 1)).filter (fun u : WE => decide (u.h ≠ w.h)) = W.drop (i + 1) := List.filter_eq_self.2 fun u hu => decide_eq_true fun q => n2.1 (q ▸ List.mem_map.2 ⟨u, hu, rfl⟩)
  unfold wremove
  conv => lhs; rw [e1]
  rw [List.filter_append, f1, List.filter_cons_of_neg (by simp), f2]
/-- x[:i] and x[i+1:], as an append needs them. -/
theorem cut_own {W : List WE} {b i c : Nat} {t : List Value} (h : Own (some b) W.length c 3 (W.flatMap encW) t) (hi : i < W.length) : Own (some b) i c 3 ((W.take i).flatMap encW) ((W.drop i).flatMap encW ++ t) := by
  have h1 := h.len
  have h2 := h.cap
  have h3 := h.le
  rw [fm_length encW3] at h1 h2
  refine ⟨?_, ?_, by omega, h.big, fun e => by cases e⟩
  · rw [fm_length encW3, List.length_take]; omega
  · rw [fm_length encW3, List.length_take, List.length_append, fm_length encW3, List.length_drop]; omega
theorem cut_cells (W : List WE) (i : Nat) (t : List Value) : W.flatMap encW ++ t = (W.take i).flatMap encW ++ ((W.drop i).flatMap encW ++ t) := by
  rw [← List.append_assoc, ← List.flatMap_append, List.take_append_drop]
theorem cut_at (W : List WE) {i c : Nat} {t : List Value} (hi : i < W.length) (hc : W.length ≤ c) : At ((W.take i).flatMap encW ++ ((W.drop i).flatMap encW ++ t)) (if c = i + 1 then 0 else 0 + (i + 1) * 3) ((W.drop (i + 1)).flatMap encW) := by
  intro j v hj
  have hlt := (List.getElem?_eq_some_iff.1 hj).1
  rw [fm_length encW3, List.length_drop] at hlt
  rw [if_neg (by omega), ← cut_cells, cut_cells W (i + 1), List.getElem?_append_right (by rw [fm_length encW3, List.length_take]; omega), fm_length encW3, List.length_take, List.getElem?_append_left (by rw [fm_length encW3, List.length_drop]; omega)]
  rw [show 0 + (i + 1) * 3 + j - min (i + 1) W.length * 3 = j from by rw [Nat.min_eq_left (by omega)]; omega]
  exact hj
theorem cut_len (W : List WE) (i : Nat) : ((W.drop (i + 1)).flatMap encW).length = (W.length - (i + 1)) * 3 := by rw [fm_length encW3, List.length_drop]
theorem hds_snoc (P : List WE) (x : WE) : hds (P ++ [x]) = hds P ++ [x.h] := List.map_append ..
/-! the order: the first element with the smallest key, again and again -/
structure Sel (W P X : List WE) : Prop where
  perm : (P ++ X).Perm W
  ord : P.Pairwise lt2
  lt : ∀ a ∈ P, ∀ b ∈ X, lt2 a b
  inc : X.Pairwise (fun a b => a.s < b.s)
theorem Sel.fst {W : List WE} (h : W.Pairwise (fun a b => a.s < b.s)) : Sel W [] W := ⟨.refl _, .nil, fun a ha => (by cases ha), h⟩
theorem Sel.done {W P : List WE} (h : Sel W P []) : IsOrd W P := ⟨by have := h.perm; rwa [List.append_nil] at this, h.ord⟩
/-- The first of the smallest keys among the first j. -/
structure IsBest (X : List WE) (j m : Nat) : Prop where
  lt : m < j
  all : ∀ i x y, i < j → X[i]? = some x → X[m]? = some y → y.k ≤ x.k
  fst : ∀ i x y, i < m → X[i]? = some x → X[m]? = some y → y.k < x.k
theorem IsBest.one {X : List WE} : IsBest X 1 0 := by
  refine ⟨by omega, fun i x y h1 h2 h3 => ?_, fun i x y h1 => by omega⟩
  obtain rfl : i = 0 := by omega
  rw [h2] at h3
  obtain rfl := Option.some.inj h3
  exact Nat.le_refl _
theorem IsBest.new {X : List WE} {j m : Nat} {x y : WE} (h : IsBest X j m) (hx : X[j]? = some x) (hy : X[m]? = some y) (hlt : x.k < y.k) : IsBest X (j + 1) j := by
  refine ⟨by omega, fun i a b h1 h2 h3 => ?_, fun i a b h1 h2 h3 => ?_⟩
  · rw [hx] at h3
    obtain rfl := Option.some.inj h3
    by_cases e : i = j
    · subst e; rw [hx] at h2; obtain rfl := Option.some.inj h2; exact Nat.le_refl _
    · have := h.all i a y (by omega) h2 hy; omega
  · rw [hx] at h3
    obtain rfl := Option.some.inj h3
    have := h.all i a y (by omega) h2 hy; omega
theorem IsBest.old {X : List WE} {j m : Nat} {x y : WE} (h : IsBest X j m) (hx : X[j]? = some x) (hy : X[m]? = some y) (hlt : ¬ x.k < y.k) : IsBest X (j + 1) m := by
  have := h.lt
  refine ⟨by omega, fun i a b h1 h2 h3 => ?_, h.fst⟩
  by_cases e : i = j
  · subst e
    rw [hx] at h2; obtain rfl := Option.some.inj h2
    rw [hy] at h3; obtain rfl := Option.some.inj h3
    omega
  · exact h.all i a b (by omega) h2 h3
theorem inc_at {X : List WE} (h : X.Pairwise (fun a b => a.s < b.s)) {i j : Nat} {a b : WE} (ha : X[i]? = some a) (hb : X[j]? = some b) (hij : i < j) : a.s < b.s := by
  obtain ⟨h1, rfl⟩ := List.getElem?_eq_some_iff.1 ha
  obtain ⟨h2, rfl⟩ := List.getElem?_eq_some_iff.1 hb
  exact List.pairwise_iff_getElem.1 h i j h1 h2 hij
theorem Sel.next {W P X : List WE} {m : Nat} {w : WE} (h : Sel W P X) (hb : IsBest X X.length m) (hw : X[m]? = some w) : Sel W (P ++ [w]) (X.take m ++ X.drop (m + 1)) := by
  have hml := (List.getElem?_eq_some_iff.1 hw).1
  have e1 : X = X.take m ++ (w :: X.drop (m + 1)) := by
    obtain ⟨h1, he⟩ := List.getElem?_eq_some_iff.1 hw
    rw [← he, ← List.drop_eq_getElem_cons h1, List.take_append_drop]
  have hp : (w :: (X.take m ++ X.drop (m + 1))).Perm X := by
    conv => rhs; rw [e1]
    exact List.perm_middle.symm
  have hlt : ∀ b ∈ X.take m ++ X.drop (m + 1), lt2 w b := fun b hbm => by
    rcases List.mem_append.1 hbm with h1 | h1
    · obtain ⟨i, hi⟩ := List.getElem?_of_mem h1
      have hi2 := (List.getElem?_eq_some_iff.1 hi).1
      rw [List.length_take] at hi2
      rw [List.getElem?_take_of_lt (by omega)] at hi
      exact .inl (hb.fst i b w (by omega) hi hw)
    · obtain ⟨i, hi⟩ := List.getElem?_of_mem h1
      rw [List.getElem?_drop] at hi
      have hi2 := (List.getElem?_eq_some_iff.1 hi).1
      have k1 := hb.all _ b w hi2 hi hw
      have k2 := inc_at h.inc hw hi (by omega)
      unfold lt2; omega
  refine ⟨?_, ?_, fun a ha b hb2 => ?_, ?_⟩
  · rw [List.append_assoc]
    exact (List.Perm.append_left P hp).trans h.perm
  · rw [List.pairwise_append]
    refine ⟨h.ord, List.pairwise_singleton _ _, fun a ha b hb2 => ?_⟩
    rw [List.mem_singleton] at hb2
    subst hb2
    exact h.lt a ha _ (List.mem_of_getElem? hw)
  · rcases List.mem_append.1 ha with h1 | h1
    · exact h.lt a h1 b (hp.mem_iff.1 (List.mem_cons_of_mem _ hb2))
    · rw [List.mem_singleton] at h1
      subst h1
      exact hlt b hb2
  · have := h.inc
    rw [e1, List.pairwise_append, List.pairwise_cons] at this
    rw [List.pairwise_append]
    exact ⟨this.1, this.2.1.2, fun a ha b hb2 => this.2.2 a ha b (List.mem_cons_of_mem _ hb2)⟩
theorem cut_len2 {X : List WE} {m : Nat} (h : m < X.length) : (X.take m ++ X.drop (m + 1)).length = X.length - 1 := by rw [List.length_append, List.length_take, List.length_drop]; omega
theorem IsOrd.head {W O : List WE} {w : WE} (h : IsOrd W O) (hw : IsMin W w) : O[0]? = some w := by
  cases O with
  | nil => have := h.perm.mem_iff.2 hw.mem; cases this
  | cons a O =>
    have ho := List.pairwise_cons.1 h.ord
    rcases List.mem_cons.1 (h.perm.mem_iff.2 hw.mem) with e | hm
    · subst e; rfl
    · have h1 := ho.1 w hm
      have h2 := hw.min a (h.perm.mem_iff.1 (List.mem_cons_self ..))
      unfold lt2 at h1; omega
structure OW where
  P : List WE
  X : List WE
  o : Option Nat
  c : Nat
  t : List Value
  ob : Option Nat
  cb : Nat
  tb : List Value
structure BW2 where
  j : Nat
  m : Nat

end Go.Proofs.Ytliffiahoolemaa
