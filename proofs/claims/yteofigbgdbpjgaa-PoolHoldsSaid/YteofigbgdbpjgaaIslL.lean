/-
  Chapter 46 (pool), part IslL: contracts of functions that the laws call, each for the heap it names.
-/
import Derived.Test.YteofigbgdbpjgaaCmpL
import Derived.Test.YteofigbgdbpjgaaZB
set_option linter.unusedVariables false
set_option maxRecDepth 20000
namespace Go.Proofs.Yteofigbgdbpjgaa


structure DelW where
  j : Nat
  A : List Int
  J : List Int
theorem flt_next {p : Int → Bool} {l : List Int} {j : Nat} {x : Int} (h : l[j]? = some x) : (l.take (j + 1)).filter (fun v => !p v) = (l.take j).filter (fun v => !p v) ++ (if p x = true then [] else [x]) := by
  rw [take_next h, List.filter_append]
  cases hp : p x <;> simp [hp]
theorem drop_at {l : List Int} {j : Nat} {x : Int} (h : l[j]? = some x) : l.drop j = x :: l.drop (j + 1) := by
  obtain ⟨h1, rfl⟩ := List.getElem?_eq_some_iff.1 h
  exact List.drop_eq_getElem_cons h1
theorem mid_get {A J R : List Int} {j : Nat} (hj : A.length + J.length = j) {x : Int} : (A ++ (J ++ x :: R))[j]? = some x := by
  subst hj
  rw [List.getElem?_append_right (by omega), List.getElem?_append_right (by omega), show A.length + J.length - A.length - J.length = 0 from by omega]; rfl
theorem mid_set {A J R : List Int} {v y : Int} : (A ++ (y :: J ++ R)).set A.length v = (A ++ [v]) ++ (J ++ R) := by
  rw [List.set_append_right _ _ (Nat.le_refl _), Nat.sub_self]; simp
theorem mid_at {A J R : List Int} {y : Int} : (A ++ (y :: J ++ R))[A.length]? = some y := by
  rw [List.getElem?_append_right (Nat.le_refl _), Nat.sub_self]; rfl
/-- x put into a list from its end, past all that it beats. -/
def insR (cf : Int → Int → Int) (A : List Int) (x : Int) : List Int := (A.reverse.dropWhile (fun y => decide (cf x y < 0))).reverse ++ x :: (A.reverse.takeWhile (fun y => decide (cf x y < 0))).reverse
def isL (cf : Int → Int → Int) (l : List Int) : List Int := l.foldl (insR cf) []
theorem insR_eq {cf : Int → Int → Int} {P B : List Int} {x : Int} (hB : ∀ y ∈ B, cf x y < 0) (hP : P = [] ∨ ∃ P' y, P = P' ++ [y] ∧ ¬ cf x y < 0) : insR cf (P ++ B) x = P ++ x :: B := by
  unfold insR
  have h1 : ∀ y ∈ B.reverse, decide (cf x y < 0) = true := fun y hy => decide_eq_true (hB y (List.mem_reverse.1 hy))
  rw [List.reverse_append, List.takeWhile_append_of_pos h1, List.dropWhile_append_of_pos h1]
  rcases hP with rfl | ⟨P', y, rfl, hy⟩
  · simp
  · rw [List.reverse_append, List.reverse_singleton, List.singleton_append, List.takeWhile_cons_of_neg (by simpa using hy), List.dropWhile_cons_of_neg (by simpa using hy)]
    simp
theorem isL_next {cf : Int → Int → Int} {l : List Int} {i : Nat} {x : Int} (h : l[i]? = some x) : isL cf (l.take (i + 1)) = insR cf (isL cf (l.take i)) x := by
  unfold isL
  rw [take_next h, List.foldl_append]; rfl
theorem insR_perm (cf : Int → Int → Int) (A : List Int) (x : Int) : (insR cf A x).Perm (x :: A) := by
  unfold insR
  refine List.perm_middle.trans (.cons _ ?_)
  have e : (A.reverse.dropWhile (fun y => decide (cf x y < 0))).reverse ++ (A.reverse.takeWhile (fun y => decide (cf x y < 0))).reverse = A := by rw [← List.reverse_append, List.takeWhile_append_dropWhile, List.reverse_reverse]
  exact List.Perm.of_eq e
theorem isL_perm (cf : Int → Int → Int) (l : List Int) : (isL cf l).Perm l := by
  have key : ∀ (l A : List Int), (l.foldl (insR cf) A).Perm (A ++ l) := by
    intro l
    induction l with
    | nil => intro A; rw [List.append_nil]; exact .refl _
    | cons x r ih => intro A; exact (ih _).trans (((insR_perm cf A x).append_right r).trans List.perm_middle.symm)
  exact key l []
theorem isL_len (cf : Int → Int → Int) (l : List Int) : (isL cf l).length = l.length := (isL_perm cf l).length_eq
structure InsW where
  j : Nat
  A : List Int
  B : List Int
theorem snoc_or (P : List Int) : P = [] ∨ ∃ P' y, P = P' ++ [y] := by
  rcases List.eq_nil_or_concat P with h | ⟨P', y, h⟩
  · exact .inl h
  · exact .inr ⟨P', y, by rw [h]; simp⟩
theorem mid_atX {x : Int} {R : List Int} (A : List Int) : (A ++ x :: R)[A.length]? = some x := by
  rw [List.getElem?_append_right (Nat.le_refl _), Nat.sub_self]; rfl
theorem swap_set {P' B R : List Int} {x y : Int} : ((P' ++ [y] ++ x :: (B ++ R)).set (P' ++ [y]).length y).set P'.length x = P' ++ x :: (y :: B ++ R) := by
  rw [List.set_append_right _ _ (Nat.le_refl _), Nat.sub_self, List.set_cons_zero, List.append_assoc, List.set_append_right _ _ (Nat.le_refl _), Nat.sub_self]; rfl

end Go.Proofs.Yteofigbgdbpjgaa
