/-
  Chapter 17 (registry), part RegQ: contracts of functions that the laws call, each for the heap it names.
-/
import Derived.Test.YtiomimjjdbijmaaRegB
import Derived.Test.YtiomimjjdbijmaaZA
set_option linter.unusedVariables false
set_option maxRecDepth 20000
namespace Go.Proofs.Ytiomimjjdbijmaa


theorem at_take (W : List Bd) (y : Nat) (tl : List Value) : At (W.flatMap encBd ++ tl) 0 ((W.take y).flatMap encBd) := fun j v hj => by
  have e : W.flatMap encBd = (W.take y).flatMap encBd ++ (W.drop y).flatMap encBd := by rw [← List.flatMap_append, List.take_append_drop]
  rw [Nat.zero_add, e, List.append_assoc, List.getElem?_append_left (List.getElem?_eq_some_iff.1 hj).1]; exact hj
theorem at_drop (W : List Bd) (y c : Nat) (hy : y ≤ W.length) (hc : W.length ≤ c) (tl : List Value) : At (W.flatMap encBd ++ tl) (if c = y then 0 else 0 + y * 3) ((W.drop y).flatMap encBd) := by
  have e : W.flatMap encBd = (W.take y).flatMap encBd ++ (W.drop y).flatMap encBd := by rw [← List.flatMap_append, List.take_append_drop]
  have hl : ((W.take y).flatMap encBd).length = y * 3 := by rw [fm_length encBd3, List.length_take, Nat.min_eq_left hy]
  split
  · have : W.drop y = [] := List.drop_eq_nil_of_le (by omega)
    rw [this]
    intro j v hj; simp at hj
  · intro j v hj
    rw [e, List.append_assoc, List.getElem?_append_right (by omega), List.getElem?_append_left (by have := (List.getElem?_eq_some_iff.1 hj).1; omega)]
    rw [← hj]; congr 1; omega
theorem delL_at {W : List Bd} (hn : (kys W).Nodup) {a : Ad} {i : Nat} {u : Int} (hi : W[i]? = some (a, u)) : delL W a = W.take i ++ W.drop (i + 1) := by
  obtain ⟨hl, he⟩ := List.getElem?_eq_some_iff.1 hi
  have hW : W = W.take i ++ (a, u) :: W.drop (i + 1) := by rw [← he, List.getElem_cons_drop, List.take_append_drop]
  have hne := split_ne (A := W.take i) (B := W.drop (i + 1)) (k := a) (a := u) (by rw [← hW]; exact hn)
  conv => lhs; rw [hW]
  unfold delL
  rw [List.filter_append, List.filter_cons_of_neg (by simp)]
  rw [List.filter_eq_self.2 (fun x hx => by simpa using hne x (List.mem_append_left _ hx)), List.filter_eq_self.2 (fun x hx => by simpa using hne x (List.mem_append_right _ hx))]
theorem own_lit3 (b : Nat) (x : Bd) : Own (some b) 1 1 3 (encBd x) [] := ⟨rfl, rfl, Nat.le_refl _, by omega, fun e => by cases e⟩

end Go.Proofs.Ytiomimjjdbijmaa
