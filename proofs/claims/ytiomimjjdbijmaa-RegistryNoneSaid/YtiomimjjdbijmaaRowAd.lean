/-
  Chapter 17 (registry), part RowAd: contracts of functions that the laws call, each for the heap it names.
-/
import Derived.Test.YtiomimjjdbijmaaRowBase
set_option linter.unusedVariables false
set_option maxRecDepth 20000
namespace Go.Proofs.Ytiomimjjdbijmaa

open Go.ChangeShapes Go.WideShapes Go.ChangeAt Go.RowKit Go.Joins Go.Deep
theorem decAd {H : Type} {enc : TypeId × Value → H} {W : World} {sp : Nat → Bool} {held : Bool} (m : Nat) (cs : List Value) (y : DataW H × List MemPlace) (h : DataW.trod enc Try.prog W 0 sp held m 23 cs = some y) :
    ∃ (x0 : ByteArray) (x1 : Int), cs = [.string x0, .int .i64 x1] ∧ (Lit.int .i64 x1).wf = true ∧ True := by
  have hl : cs.length = 2 := (trod_len Try.underlying23 h).trans (by kernel_rfl)
  have s3 : Try.prog.cellsOf 3 = 1 := by kernel_rfl
  have s9 : Try.prog.cellsOf 9 = 1 := by kernel_rfl
  obtain ⟨ng0, yg0, g0⟩ := trod_fld Try.underlying23 h (i := 0) rfl
  obtain ⟨x0, e0, _, _⟩ := DataW.trod_string Try.underlying9 g0
  have e0 : (cs.drop 0).take (Try.prog.cellsOf 9) = [.string x0] := e0
  simp only [s9] at e0
  have k0 : cs.drop 0 = .string x0 :: cs.drop 1 := drop_cons e0
  obtain ⟨ng1, yg1, g1⟩ := trod_fld Try.underlying23 h (i := 1) rfl
  obtain ⟨x1, e1, _, w1⟩ := DataW.trod_int Try.underlying3 g1
  have e1 : (cs.drop 1).take (Try.prog.cellsOf 3) = [.int .i64 x1] := e1
  simp only [s3] at e1
  have k1 : cs.drop 1 = .int .i64 x1 :: cs.drop 2 := drop_cons e1
  exact ⟨x0, x1, (List.drop_zero (l := cs)).symm.trans (k0.trans (congrArg (List.cons _) (k1.trans (congrArg (List.cons _) (List.drop_eq_nil_of_le (by omega)))))), w1, trivial⟩
end Go.Proofs.Ytiomimjjdbijmaa
