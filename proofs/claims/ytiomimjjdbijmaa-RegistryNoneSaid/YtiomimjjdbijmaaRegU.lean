/-
  Chapter 17 (registry), part RegU: contracts of functions that the laws call, each for the heap it names.
-/
import Derived.Test.YtiomimjjdbijmaaRegS
import Derived.Test.YtiomimjjdbijmaaRegT
import Derived.Test.YtiomimjjdbijmaaAddr
set_option linter.unusedVariables false
set_option maxRecDepth 20000
namespace Go.Proofs.Ytiomimjjdbijmaa


/-- What SortFunc does (see RegSrt). -/
def SortOk : Prop := ∀ (l : List Ad), l.length ≤ 1000000 → ∀ (ob : Option Nat) (c : Nat) (tl : List Value), Own ob l.length c 2 (l.flatMap encAd) tl → Spec Try.prog 45 [slV ob l.length c, .func (.func 42) #[] #[]] [⟨ob, cl (l.flatMap encAd ++ tl) 23⟩]
    (fun r H' => ∃ l' : List Ad, r = .tuple #[] ∧ l'.Perm l ∧ l'.Pairwise (fun a b => ¬ adLt b a) ∧ H' = [⟨ob, cl (l'.flatMap encAd ++ tl) 23⟩])
theorem w_dec {W : List Bd} {k : Nat} {x : Bd} (h : W[k]? = some x) : W = W.take k ++ x :: W.drop (k + 1) := by
  obtain ⟨h2, rfl⟩ := List.getElem?_eq_some_iff.1 h
  rw [List.getElem_cons_drop, List.take_append_drop]
theorem w_take {W : List Bd} {k : Nat} {x : Bd} (h : W[k]? = some x) : W.take (k + 1) = W.take k ++ [x] := by
  obtain ⟨h2, rfl⟩ := List.getElem?_eq_some_iff.1 h
  rw [List.take_append_getElem]
structure ItW where
  k : Nat
  hj : Heap

end Go.Proofs.Ytiomimjjdbijmaa
