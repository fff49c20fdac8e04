/-
  Chapter 07 (slot), part RowAct: contracts of functions that the laws call, each for the heap it names.
-/
import Derived.Test.YtnolalkkdigcbaaRowBase
import Derived.Test.YtnolalkkdigcbaaSLArg
import Derived.Test.YtnolalkkdigcbaaPlay
set_option linter.unusedVariables false
set_option maxRecDepth 20000
namespace Go.Proofs.Ytnolalkkdigcbaa

open Go.ChangeShapes Go.WideShapes Go.ChangeAt Go.RowKit Go.Joins

theorem hok_one {W : World} {ent : Ent} (h : ent.ok W) : HOK [ent] W := by
  refine ⟨?_, fun x hx => ?_⟩
  · unfold keys
    cases hb : ent.b <;> simp [hb]
  · rw [List.mem_singleton] at hx
    subst hx
    exact h
theorem hok_nil (W : World) : HOK [] W := ⟨by simp [keys], fun x hx => by cases hx⟩
theorem decA {H : Type} {enc : TypeId × Value → H} {W : World} {sp : Nat → Bool} {held : Bool} (m : Nat) (cs : List Value) (y : DataW H × List MemPlace) (h : DataW.trod enc Try.prog W 0 sp held m 36 cs = some y) : ∃ x : Act, cs = encA x ∧ True := by
  obtain ⟨y0, y1, y2, n, _, hl, h0, h1, h2⟩ := Go.Deep.trod_struct3 Try.underlying36 h
  obtain ⟨z0, z1, n2, _, hl2, g0, g1⟩ := trod_struct2 Try.underlying34 h2
  obtain ⟨a, e0, _, _⟩ := DataW.trod_int Try.underlying3 h0
  obtain ⟨b, e1, _, _⟩ := DataW.trod_int Try.underlying3 h1
  obtain ⟨c, e2, _, _⟩ := DataW.trod_int Try.underlying3 g0
  obtain ⟨d, e3, _, _⟩ := DataW.trod_int Try.underlying3 g1
  have hl4 : cs.length = 4 := hl.trans (by kernel_rfl)
  have s3 : Try.prog.cellsOf 3 = 1 := by kernel_rfl
  have s34 : Try.prog.cellsOf 34 = 2 := by kernel_rfl
  simp only [s3, s34] at e0 e1 e2 e3
  obtain ⟨c0, c1, c2, c3, rfl⟩ : ∃ c0 c1 c2 c3, cs = [c0, c1, c2, c3] := by
    rcases cs with _ | ⟨c0, _ | ⟨c1, _ | ⟨c2, _ | ⟨c3, _ | ⟨c4, r⟩⟩⟩⟩⟩ <;> simp at hl4
    exact ⟨c0, c1, c2, c3, rfl⟩
  simp at e0 e1 e2 e3
  subst e0 e1 e2 e3
  exact ⟨⟨a, b, c, d⟩, rfl, trivial⟩

end Go.Proofs.Ytnolalkkdigcbaa
