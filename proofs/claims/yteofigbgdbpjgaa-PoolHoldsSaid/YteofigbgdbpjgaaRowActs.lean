/-
  Chapter 46 (pool), part RowActs: contracts of functions that the laws call, each for the heap it names.
-/
import Derived.Test.YteofigbgdbpjgaaRowAct
import Derived.Test.YteofigbgdbpjgaaHoldM
set_option linter.unusedVariables false
set_option maxRecDepth 20000
namespace Go.Proofs.Yteofigbgdbpjgaa

open Go.ChangeShapes Go.WideShapes Go.ChangeAt Go.RowKit Go.Joins Go.Deep

theorem decA2 {H : Type} {enc : TypeId × Value → H} {W : World} {sp : Nat → Bool} {held : Bool} (m : Nat) (cs : List Value) (y : DataW H × List MemPlace) (h : DataW.trod enc Try.prog W 0 sp held m 41 cs = some y) : ∃ x : Ac46, cs = encA46 x ∧ (x.now ≤ 18446744073709551615 ∧ x.dl ≤ 18446744073709551615) := by
  obtain ⟨wt, n, now, dl, good, rfl, _, _, w3, w4, _⟩ := decA m cs y h
  obtain ⟨k, rfl, hk⟩ := wf_u64 w3
  obtain ⟨d, rfl, hd⟩ := wf_u64 w4
  exact ⟨⟨wt, n, k, d, good⟩, rfl, hk, hd⟩

end Go.Proofs.Yteofigbgdbpjgaa
