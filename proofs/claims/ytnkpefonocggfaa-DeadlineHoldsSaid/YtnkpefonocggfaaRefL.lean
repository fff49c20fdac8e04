/-
  Chapter 10 (deadline), part RefL: contracts of functions that the laws call, each for the heap it names.
-/
import Derived.Test.YtnkpefonocggfaaDeadL
set_option linter.unusedVariables false
set_option maxRecDepth 20000
namespace Go.Proofs.Ytnkpefonocggfaa


/-- The reference's list. -/
structure RD (f : Nat → Nat) (D : List Lp) : Prop where
  inn : ∀ x ∈ D, ∃ i : Nat, i < 256 ∧ x = lpI f i ∧ f i < 18446744073709551615
  all : ∀ i, i < 256 → f i < 18446744073709551615 → lpI f i ∈ D
  nd : D.Pairwise (fun a b => ¬ (a.fd = b.fd ∧ a.dir = b.dir))
theorem RD.new : RD (fun _ => 18446744073709551615) [] := ⟨fun x hx => (by cases hx), fun i _ h => (by omega), .nil⟩
def dropP (D : List Lp) (a b : Int) : List Lp := D.filter (fun x => !decide (x.fd = a ∧ x.dir = b))
theorem dropP_snoc (D : List Lp) (x : Lp) (a b : Int) : dropP (D ++ [x]) a b = dropP D a b ++ (if x.fd = a ∧ x.dir = b then [] else [x]) := by
  rw [dropP, dropP, List.filter_append]
  by_cases h : x.fd = a ∧ x.dir = b
  · simp [h]
  · rw [if_neg h]; simp only [List.filter_cons, decide_eq_false h, Bool.not_false, if_true, List.filter_nil]
theorem place_eq {i j : Nat} (h1 : ((i / 2 : Nat) : Int) = ((j / 2 : Nat) : Int)) (h2 : ((i % 2 : Nat) : Int) = ((j % 2 : Nat) : Int)) : i = j := by omega
theorem lpI_upd (f : Nat → Nat) {i j : Nat} (k : Nat) (h : j ≠ i) : lpI (updF f i k) j = lpI f j := by unfold lpI; rw [updF_ne f k h]
section
variable {f : Nat → Nat} {D : List Lp} {now to : Nat}
theorem RD.drop (h : RD f D) {i : Nat} : (∀ x ∈ dropP D ((i / 2 : Nat) : Int) ((i % 2 : Nat) : Int), ∃ j : Nat, j < 256 ∧ j ≠ i ∧ x = lpI f j ∧ f j < 18446744073709551615) ∧ (∀ j, j < 256 → j ≠ i → f j < 18446744073709551615 → lpI f j ∈ dropP D ((i / 2 : Nat) : Int) ((i % 2 : Nat) : Int)) ∧ (dropP D ((i / 2 : Nat) : Int) ((i % 2 : Nat) : Int)).Pairwise (fun a b => ¬ (a.fd = b.fd ∧ a.dir = b.dir)) := by
  refine ⟨fun x hx => ?_, fun j hj hne hk => ?_, h.nd.filter _⟩
  · obtain ⟨h1, h2⟩ := List.mem_filter.1 hx
    obtain ⟨j, hj, rfl, hk⟩ := h.inn x h1
    refine ⟨j, hj, fun e => ?_, rfl, hk⟩
    subst e
    simp [lpI] at h2
  · refine List.mem_filter.2 ⟨h.all j hj hk, ?_⟩
    rw [Bool.not_eq_true', decide_eq_false_iff_not]
    rintro ⟨h1, h2⟩
    exact hne (place_eq h1 h2)
theorem RD.never (h : RD f D) {i : Nat} : RD (updF f i 18446744073709551615) (dropP D ((i / 2 : Nat) : Int) ((i % 2 : Nat) : Int)) := by
  obtain ⟨h1, h2, h3⟩ := h.drop (i := i)
  refine ⟨fun x hx => ?_, fun j hj hk => ?_, h3⟩
  · obtain ⟨j, q1, q2, q3, q4⟩ := h1 x hx
    exact ⟨j, q1, by rw [lpI_upd f _ q2]; exact q3, by rw [updF_ne f _ q2]; exact q4⟩
  · by_cases e : j = i
    · subst e; rw [updF_self] at hk; omega
    · rw [updF_ne f _ e] at hk
      rw [lpI_upd f _ e]; exact h2 j hj e hk
theorem RD.put (h : RD f D) {i k : Nat} (hi : i < 256) (hk : k < 18446744073709551615) : RD (updF f i k) (dropP D ((i / 2 : Nat) : Int) ((i % 2 : Nat) : Int) ++ [⟨((i / 2 : Nat) : Int), ((i % 2 : Nat) : Int), k⟩]) := by
  obtain ⟨h1, h2, h3⟩ := h.drop (i := i)
  have hs : (⟨((i / 2 : Nat) : Int), ((i % 2 : Nat) : Int), k⟩ : Lp) = lpI (updF f i k) i := by unfold lpI; rw [updF_self]
  refine ⟨fun x hx => ?_, fun j hj hk2 => ?_, ?_⟩
  · rcases List.mem_append.1 hx with hx | hx
    · obtain ⟨j, q1, q2, q3, q4⟩ := h1 x hx
      exact ⟨j, q1, by rw [lpI_upd f _ q2]; exact q3, by rw [updF_ne f _ q2]; exact q4⟩
    · rw [List.mem_singleton] at hx
      exact ⟨i, hi, hx.trans hs, by rw [updF_self]; exact hk⟩
  · by_cases e : j = i
    · subst e; exact List.mem_append_right _ (List.mem_singleton.2 hs.symm)
    · rw [updF_ne f _ e] at hk2
      rw [lpI_upd f _ e]; exact List.mem_append_left _ (h2 j hj e hk2)
  · rw [List.pairwise_append]
    refine ⟨h3, List.pairwise_singleton _ _, fun x hx y hy => ?_⟩
    rw [List.mem_singleton] at hy
    subst hy
    obtain ⟨j, q1, q2, rfl, _⟩ := h1 x hx
    rintro ⟨e1, e2⟩
    exact q2 (place_eq e1 e2)
theorem RD.len (h : RD f D) : D.length ≤ 256 := by
  have hnd : (D.map (fun x => (x.fd * 2 + x.dir).toNat)).Nodup := by
    rw [List.Nodup, List.pairwise_map]
    refine (List.Pairwise.and_mem.1 h.nd).imp fun {a b} ⟨ha, hb, hne⟩ e => hne ?_
    obtain ⟨i, _, rfl, _⟩ := h.inn a ha
    obtain ⟨j, _, rfl, _⟩ := h.inn b hb
    unfold lpI at e ⊢
    dsimp only at e ⊢
    omega
  have := List.Nodup.length_le_of_subset hnd (l₂ := List.range 256) fun x hx => by
    obtain ⟨y, hy, rfl⟩ := List.mem_map.1 hx
    obtain ⟨i, hi, rfl, _⟩ := h.inn y hy
    rw [List.mem_range]
    unfold lpI
    dsimp only
    omega
  rw [List.length_map, List.length_range] at this; exact this
theorem RD.at_ (h : RD f D) {x : Lp} (hx : x ∈ D) : x.at_ < 18446744073709551615 := by
  obtain ⟨i, _, rfl, hk⟩ := h.inn x hx; exact hk
theorem RD.one (h : RD f D) {i j : Nat} {x y : Lp} (hx : D[i]? = some x) (hy : D[j]? = some y) (h1 : x.fd = y.fd) (h2 : x.dir = y.dir) : i = j := by
  obtain ⟨q1, rfl⟩ := List.getElem?_eq_some_iff.1 hx
  obtain ⟨q2, rfl⟩ := List.getElem?_eq_some_iff.1 hy
  have := List.pairwise_iff_getElem.1 h.nd
  rcases Nat.lt_trichotomy i j with e | e | e
  · exact absurd ⟨h1, h2⟩ (this i j q1 q2 e)
  · exact e
  · exact absurd ⟨h1.symm, h2.symm⟩ (this j i q2 q1 e)
/-! the earliest that has not passed -/
def minL (l : List Nat) : Nat := l.foldl Nat.min 18446744073709551615
theorem minL_snoc (l : List Nat) (x : Nat) : minL (l ++ [x]) = Nat.min (minL l) x := by rw [minL, List.foldl_append]; rfl
theorem foldl_min : ∀ (l : List Nat) (a : Nat), (l.foldl Nat.min a ≤ a ∧ ∀ x ∈ l, l.foldl Nat.min a ≤ x) ∧ (l.foldl Nat.min a = a ∨ l.foldl Nat.min a ∈ l)
  | [], a => ⟨⟨Nat.le_refl _, fun x hx => by cases hx⟩, .inl rfl⟩
  | y :: l, a => by
    obtain ⟨⟨h1, h2⟩, h3⟩ := foldl_min l (Nat.min a y)
    have e1 : Nat.min a y ≤ a := Nat.min_le_left _ _
    have e2 : Nat.min a y ≤ y := Nat.min_le_right _ _
    rw [List.foldl_cons]
    refine ⟨⟨by omega, fun x hx => ?_⟩, ?_⟩
    · rcases List.mem_cons.1 hx with rfl | hx
      · omega
      · exact h2 x hx
    · rcases h3 with h3 | h3
      · rcases Nat.le_total a y with h4 | h4
        · exact .inl (h3.trans (Nat.min_eq_left h4))
        · exact .inr (by rw [h3, show Nat.min a y = y from Nat.min_eq_right h4]; exact List.mem_cons_self ..)
      · exact .inr (List.mem_cons_of_mem _ h3)
theorem minL_le (l : List Nat) : minL l ≤ 18446744073709551615 ∧ ∀ x ∈ l, minL l ≤ x := (foldl_min l _).1
theorem minL_is (l : List Nat) : minL l = 18446744073709551615 ∨ minL l ∈ l := (foldl_min l _).2
def awake (D : List Lp) (now : Nat) : List Nat := (D.filter (fun x => decide (now < x.at_))).map (fun x => x.at_)
theorem awake_snoc (D : List Lp) (x : Lp) (now : Nat) : awake (D ++ [x]) now = awake D now ++ (if now < x.at_ then [x.at_] else []) := by
  rw [awake, awake, List.filter_append, List.map_append]
  by_cases h : now < x.at_ <;> simp [h]
theorem RD.next (h : RD f D) (now : Nat) : IsNx f now (minL (awake D now)) := by
  have hm := minL_le (awake D now)
  refine ⟨⟨hm.1, fun i hi h1 => ?_⟩, ?_⟩
  · rcases Nat.lt_or_ge (f i) 18446744073709551615 with h2 | h2
    · exact .inl (hm.2 _ (List.mem_map.2 ⟨lpI f i, List.mem_filter.2 ⟨h.all i hi h2, decide_eq_true h1⟩, rfl⟩))
    · exact .inr h2
  · rcases minL_is (awake D now) with e | e
    · exact .inl e
    · obtain ⟨x, hx, e2⟩ := List.mem_map.1 e
      obtain ⟨h1, h2⟩ := List.mem_filter.1 hx
      obtain ⟨i, hi, rfl, hk⟩ := h.inn x h1
      have h3 : now < f i := of_decide_eq_true h2
      have e3 : f i = minL (awake D now) := e2
      exact .inr ⟨i, hi, h3, e3, by omega⟩
/-! what passes, put in order one after the other -/
structure InsAt (l : List Lp) (x : Lp) (j : Nat) : Prop where
  le : j ≤ l.length
  lt : ∀ i y, i < j → l[i]? = some y → lpLt y x
theorem InsAt.zero (l : List Lp) (x : Lp) : InsAt l x 0 := ⟨Nat.zero_le _, fun i y h => absurd h (Nat.not_lt_zero i)⟩
theorem InsAt.next {l : List Lp} {x y : Lp} {j : Nat} (h : InsAt l x j) (hy : l[j]? = some y) (hlt : lpLt y x) : InsAt l x (j + 1) :=
  ⟨(List.getElem?_eq_some_iff.1 hy).1, fun i z hi hz => by
    by_cases e : i = j
    · subst e; rw [hy] at hz; obtain rfl := Option.some.inj hz; exact hlt
    · exact h.lt i z (by omega) hz⟩
theorem ins_sorted {l : List Lp} {x : Lp} {j : Nat} (hl : l.Pairwise lpLt) (h : InsAt l x j) (hj : ∀ y, l[j]? = some y → ¬ lpLt y x) (hx : x ∉ l) : (l.take j ++ x :: l.drop j).Pairwise lpLt := by
  have hg := List.pairwise_iff_getElem.1 hl
  rw [List.pairwise_append, List.pairwise_cons]
  refine ⟨hl.sublist (List.take_sublist _ _), ⟨fun y hy => ?_, hl.sublist (List.drop_sublist _ _)⟩, fun a ha b hb => ?_⟩
  · obtain ⟨i, hi⟩ := List.getElem?_of_mem hy
    rw [List.getElem?_drop] at hi
    obtain ⟨h1, e1⟩ := List.getElem?_eq_some_iff.1 hi
    have hjl : j < l.length := by omega
    have h2 := hj _ (List.getElem?_eq_getElem hjl)
    have h3 : lpLt x l[j] := by
      by_cases q : lpLt x l[j]
      · exact q
      · exact absurd (lp_tot q h2 ▸ List.getElem_mem hjl) hx
    by_cases e : i = 0
    · subst e; rw [← e1]; exact h3
    · rw [← e1]; exact lp_trans h3 (hg j (j + i) hjl h1 (by omega))
  · have hax : lpLt a x := by
      obtain ⟨i, hi⟩ := List.getElem?_of_mem ha
      have hil := (List.getElem?_eq_some_iff.1 hi).1
      rw [List.length_take] at hil
      rw [List.getElem?_take_of_lt (by omega)] at hi
      exact h.lt i a (by omega) hi
    rcases List.mem_cons.1 hb with e | hb
    · subst e; exact hax
    · have h4 : (l.take j ++ l.drop j).Pairwise lpLt := by rw [List.take_append_drop]; exact hl
      exact (List.pairwise_append.1 h4).2.2 a ha b hb
structure RLap (D : List Lp) (now to k : Nat) (out : List Lp) : Prop where
  ord : out.Pairwise lpLt
  mem : ∀ x, x ∈ out ↔ x ∈ D.take k ∧ now < x.at_ ∧ x.at_ ≤ to
  len : out.length ≤ k
theorem RLap.nil (D : List Lp) (now to : Nat) : RLap D now to 0 [] := ⟨.nil, fun x => by simp, Nat.le_refl _⟩
theorem take_next {α : Type} {l : List α} {k : Nat} {x : α} (h : l[k]? = some x) : l.take (k + 1) = l.take k ++ [x] := by
  obtain ⟨h2, rfl⟩ := List.getElem?_eq_some_iff.1 h
  rw [List.take_append_getElem]
theorem RLap.skip {k : Nat} {out : List Lp} (h : RLap D now to k out) {x : Lp} (hx : D[k]? = some x) (hn : ¬ (now < x.at_ ∧ x.at_ ≤ to)) : RLap D now to (k + 1) out := by
  refine ⟨h.ord, fun y => ?_, by have := h.len; omega⟩
  rw [h.mem, take_next hx, List.mem_append, List.mem_singleton]
  constructor
  · rintro ⟨q1, q2⟩; exact ⟨.inl q1, q2⟩
  · rintro ⟨q1 | rfl, q2⟩
    · exact ⟨q1, q2⟩
    · exact absurd q2 hn
theorem RLap.ins {k j : Nat} {out : List Lp} (h : RLap D now to k out) (hr : RD f D) {x : Lp} (hx : D[k]? = some x) (hn : now < x.at_ ∧ x.at_ ≤ to) (hi : InsAt out x j) (hj : ∀ y, out[j]? = some y → ¬ lpLt y x) : RLap D now to (k + 1) (out.take j ++ x :: out.drop j) := by
  have hxo : x ∉ out := fun hm => by
    obtain ⟨q1, _⟩ := (h.mem x).1 hm
    obtain ⟨i, hi⟩ := List.getElem?_of_mem q1
    have hil := (List.getElem?_eq_some_iff.1 hi).1
    rw [List.length_take] at hil
    rw [List.getElem?_take_of_lt (by omega)] at hi
    have := hr.one hi hx rfl rfl
    omega
  refine ⟨ins_sorted h.ord hi hj hxo, fun y => ?_, ?_⟩
  · have e : y ∈ out.take j ++ x :: out.drop j ↔ y = x ∨ y ∈ out := by
      rw [List.mem_append, List.mem_cons]
      conv => rhs; rw [← List.take_append_drop j out, List.mem_append]
      constructor
      · rintro (q | q | q)
        · exact .inr (.inl q)
        · exact .inl q
        · exact .inr (.inr q)
      · rintro (q | q | q)
        · exact .inr (.inl q)
        · exact .inl q
        · exact .inr (.inr q)
    rw [e, h.mem, take_next hx, List.mem_append, List.mem_singleton]
    constructor
    · rintro (rfl | ⟨q1, q2⟩)
      · exact ⟨.inr rfl, hn⟩
      · exact ⟨.inl q1, q2⟩
    · rintro ⟨q1 | rfl, q2⟩
      · exact .inr ⟨q1, q2⟩
      · exact .inl rfl
  · have := h.len
    have := hi.le
    rw [List.length_append, List.length_cons, List.length_take, List.length_drop]
    omega
theorem RLap.done {out : List Lp} (h : RLap D now to D.length out) (hr : RD f D) (hto : to < 18446744073709551615) : IsLap f now to out := by
  refine ⟨h.ord, fun x => ?_⟩
  rw [h.mem, List.take_length]
  constructor
  · rintro ⟨q1, q2, q3⟩
    obtain ⟨i, hi, rfl, hk⟩ := hr.inn x q1
    exact ⟨i, hi, q2, q3, rfl⟩
  · rintro ⟨i, hi, q2, q3, rfl⟩
    exact ⟨hr.all i hi (by omega), q2, q3⟩
end

end Go.Proofs.Ytnkpefonocggfaa
