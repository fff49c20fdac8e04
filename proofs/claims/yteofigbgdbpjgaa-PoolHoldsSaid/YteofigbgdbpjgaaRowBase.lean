/-
  Chapter 46 (pool), part RowBase: contracts of functions that the laws call, each for the heap it names.
-/
import Derived.Test.YteofigbgdbpjgaaRows
import Derived.Test.YteofigbgdbpjgaaZA
set_option linter.unusedVariables false
set_option maxRecDepth 20000
namespace Go.Proofs.Yteofigbgdbpjgaa

open Go.ChangeShapes Go.WideShapes Go.ChangeAt Go.RowKit Go.Joins Go.Deep
theorem rowOwn : ownKnob Try.prog.godebug = none := by kernel_rfl
theorem rowLaid : laidOutB Try.prog = true := by kernel_rfl
theorem rowMaps : mapsRowed Try.prog = true := by kernel_rfl
theorem rowFull : ∀ t e, t < Try.prog.types.size → Try.prog.underlying t = some (.slice e) → 0 < Try.prog.cellsOf e := slices_full_of Try.prog (by kernel_rfl)

theorem hok_one {W : World} {ent : Ent} (h : ent.ok W) : HOK [ent] W := by
  refine ⟨?_, fun x hx => ?_⟩
  · unfold keys
    cases hb : ent.b <;> simp [hb]
  · rw [List.mem_singleton] at hx
    subst hx
    exact h
theorem hok_nil (W : World) : HOK [] W := ⟨by simp [keys], fun x hx => by cases hx⟩

end Go.Proofs.Yteofigbgdbpjgaa
