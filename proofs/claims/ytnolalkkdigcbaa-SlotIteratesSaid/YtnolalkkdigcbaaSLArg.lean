/-
  A slice argument opened: what it reads as, and the block that holds it.
-/
import Derived.Test.YtnolalkkdigcbaaSLMore
import Derived.Test.YtnolalkkdigcbaaSLRow
namespace Go.Proofs.Ytnolalkkdigcbaa
open Go.ChangeShapes Go.WideShapes Go.ChangeAt Go.RowKit Go.Joins Go.Deep
theorem list_choose {α : Type} {R : Nat → α → Prop} : ∀ n : Nat, (∀ i, i < n → ∃ x, R i x) → ∃ l : List α, l.length = n ∧ ∀ (i : Nat) (y : α), l[i]? = some y → R i y
  | 0, _ => ⟨[], rfl, fun i y h => by simp at h⟩
  | n + 1, h => by
    obtain ⟨l, hl, hR⟩ := list_choose n (fun i hi => h i (by omega))
    obtain ⟨x, hx⟩ := h n (by omega)
    refine ⟨l ++ [x], by simp [hl], fun i y hy => ?_⟩
    rw [List.getElem?_append] at hy
    split at hy
    · exact hR i y hy
    · rename_i hge
      rw [List.getElem?_singleton] at hy
      split at hy
      · obtain rfl : i = n := by omega
        cases hy; exact hx
      · cases hy
section
variable {H : Type} {enc : TypeId × Value → H} {P : Program} {W : World} {sp : Nat → Bool} {held : Bool} {α : Type} {enc' : α → List Value} {G : α → Prop} {sz : Nat}
theorem open_arg {t e : TypeId} {r : Reach} {b0 : Nat} {v : Value} {d : DataW H} {ps : List MemPlace} (ht : P.underlying t = some (.slice e)) (hsz : P.cellsOf e = sz) (hpos : 0 < sz)
    (dec : ∀ (m : Nat) (cs : List Value) (y : DataW H × List MemPlace), DataW.trod enc P W 0 sp held m e cs = some y → ∃ x : α, cs = enc' x ∧ G x)
    (hval : Value.okWide P W r b0 t v) (h : DataW.Trod enc P W 0 sp held t v d ps) :
    ∃ (oa : Option Addr) (x : Ent) (l : List α) (c : Nat), v = .slice oa l.length c ∧ Arg oa x sz enc' l ∧ x.ok W ∧ l.length ≤ maxLen ∧ ∀ y ∈ l, G y := by
  obtain ⟨a0, len, cap, rfl⟩ := okWide_slice ht hval
  obtain ⟨fuel, hf⟩ := h
  rcases open_slice ht hf with ⟨hc, _⟩ | ⟨a, len', cap', m, n, D, Pl, hc, hb, hl, hm, hmm, _, hx⟩
  · simp [Value.cells] at hc
    obtain ⟨rfl, rfl, rfl⟩ := hc
    exact ⟨none, ⟨none, cl [] 0⟩, [], 0, rfl, .inl ⟨rfl, rfl⟩, ⟨0, rfl⟩, Nat.zero_le _, fun y hy => by cases hy⟩
  · simp [Value.cells] at hc
    obtain ⟨rfl, rfl, rfl⟩ := hc
    have hml : len ≤ m := by rw [hmm]; split <;> omega
    obtain ⟨l, hll, hlx⟩ := list_choose (R := fun i (x : α) => W.cells? 0 (a.add (i * sz)) sz = some (enc' x) ∧ G x) len (fun i hi => by
      obtain ⟨cs', h1, h2⟩ := hx i (by omega)
      obtain ⟨x, rfl, hg⟩ := dec _ _ _ h2
      exact ⟨x, by rw [← hsz]; exact h1, hg⟩)
    have hG : ∀ y ∈ l, G y := fun y hy => by
      obtain ⟨i, hi⟩ := List.mem_iff_getElem?.1 hy
      exact (hlx i y hi).2
    subst hll
    cases l with
    | nil => exact ⟨some a, ⟨none, cl [] 0⟩, [], cap, rfl, .inl ⟨rfl, rfl⟩, ⟨0, rfl⟩, Nat.zero_le _, hG⟩
    | cons y0 l0 =>
      obtain ⟨_, hn0, hc0⟩ := World.cells?_some (hlx 0 y0 rfl).1
      have hcell := hc0 0 hpos
      have hsome : ∃ u, (enc' y0)[0]? = some u := ⟨_, List.getElem?_eq_getElem (by omega)⟩
      obtain ⟨u, hu⟩ := hsome
      rw [hu] at hcell
      obtain ⟨b, k, s⟩ := a
      have a0 : ∀ a : Addr, a.add 0 = a := fun a => by simp [Addr.add]
      rw [Nat.zero_mul, a0, a0] at hcell
      simp only [World.cell?] at hcell
      split at hcell
      · rename_i cs e' fr hblk
        cases s with
        | some s => simp at hcell
        | none =>
          refine ⟨some ⟨b, k, none⟩, ⟨some b, .cells cs e' fr⟩, y0 :: l0, cap, rfl, .inr ⟨b, k, cs.toList, e', fr, rfl, by simp, fun i y hy j v hv => ?_⟩, hblk, by omega, hG⟩
          obtain ⟨_, hn1, hc1⟩ := World.cells?_some (hlx i y hy).1
          have hj : j < sz := by
            have := (List.getElem?_eq_some_iff.1 hv).1
            omega
          have := hc1 j hj
          rw [hv] at this
          rw [add_at, add_at] at this
          simp only [World.cell?] at this
          rw [hblk] at this
          simpa using this
      · cases hcell
end
end Go.Proofs.Ytnolalkkdigcbaa
