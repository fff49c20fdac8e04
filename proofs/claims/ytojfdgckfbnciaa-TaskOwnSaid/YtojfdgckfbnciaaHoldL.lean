/-
  Chapter 08 (task), part HoldL: contracts of functions that the laws call, each for the heap it names.
-/
import Derived.Test.YtojfdgckfbnciaaRows
import Derived.Test.YtojfdgckfbnciaaSLArray
import Derived.Test.YtojfdgckfbnciaaSLInt
import Derived.Test.YtojfdgckfbnciaaTab
import Derived.Test.YtojfdgckfbnciaaRoundL
set_option linter.unusedVariables false
set_option maxRecDepth 20000
namespace Go.Proofs.Ytojfdgckfbnciaa


theorem tw_val {sm qm : List Int} {S : List (Int × Nat)} {Q : List (Nat × Int)} {n : Nat} {es : Array MapEntry} (h : Tw sm qm S Q n es) {v : Int} (hv : v ∈ qm) : ∃ i : Nat, v = (i : Int) ∧ sm[i]? = some 1 := by
  rw [← h.qm] at hv
  obtain ⟨⟨t, w⟩, hx, rfl⟩ := List.mem_map.1 hv
  obtain ⟨i, hi, hS⟩ := h.tk.back t w hx
  exact ⟨i, hi, by rw [← h.sm, List.getElem?_map, hS]; rfl⟩
theorem tw_has {sm qm : List Int} {S : List (Int × Nat)} {Q : List (Nat × Int)} {n i : Nat} {es : Array MapEntry} (h : Tw sm qm S Q n es) (hi : sm[i]? = some 1) : (i : Int) ∈ qm := by
  rw [← h.sm, List.getElem?_map] at hi
  cases hS : S[i]? with
  | none => rw [hS] at hi; cases hi
  | some x =>
    obtain ⟨y, t⟩ := x
    rw [hS] at hi
    simp only [Option.map_some, Option.some.injEq] at hi
    subst hi
    rw [← h.qm]
    exact List.mem_map.2 ⟨_, h.tk.ready i t hS, rfl⟩
theorem tw_nodup {sm qm : List Int} {S : List (Int × Nat)} {Q : List (Nat × Int)} {n : Nat} {es : Array MapEntry} (h : Tw sm qm S Q n es) : qm.Nodup := by
  rw [← h.qm, List.Nodup, List.pairwise_map]
  refine (List.Pairwise.and_mem.1 h.tk.qk.ord).imp fun {a b} ⟨ha, hb, hlt⟩ e => ?_
  obtain ⟨i, hi, h1⟩ := h.tk.back a.1 a.2 ha
  obtain ⟨j, hj, h2⟩ := h.tk.back b.1 b.2 hb
  have : i = j := by rw [hi, hj] at e; omega
  subst this
  rw [h1] at h2
  simp only [Option.some.injEq, Prod.mk.injEq, true_and] at h2
  omega
theorem take_get {l : List Int} {k : Nat} {v : Int} (h : l[k]? = some v) : l.take (k + 1) = l.take k ++ [v] := by
  obtain ⟨h1, rfl⟩ := List.getElem?_eq_some_iff.1 h
  rw [List.take_append_getElem]
theorem count_in {l : List Int} (h : l.Nodup) {v : Int} (hv : v ∈ l) : l.count v = 1 := by rw [h.count, if_pos hv]
theorem not_take {l : List Int} (h : l.Nodup) {k : Nat} {v : Int} (hv : l[k]? = some v) : v ∉ l.take k := fun hm => by
  have h2 : (l.take (k + 1)).Nodup := h.sublist (List.take_sublist _ _)
  rw [take_get hv, List.nodup_append] at h2
  exact h2.2.2 v hm v (List.mem_singleton.2 rfl) rfl
theorem set_here {l : List Int} {i : Nat} {x : Int} (h : l[i]? = some x) : l.set i x = l := by
  obtain ⟨h1, rfl⟩ := List.getElem?_eq_some_iff.1 h
  exact List.set_getElem_self h1
structure HS where
  k : Nat
  S : List (Int × Nat)
  Q : List (Nat × Int)
  n : Nat
  es : Array MapEntry
  mc : Nat
  tl : List Value
def encA (a : Int × Int) : List Value := [.int .i64 a.1, .int .i64 a.2]

end Go.Proofs.Ytojfdgckfbnciaa
