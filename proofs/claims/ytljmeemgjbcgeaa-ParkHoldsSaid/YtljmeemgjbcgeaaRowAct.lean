/-
  Chapter 09 (park), part RowAct: contracts of functions that the laws call, each for the heap it names.
-/
import Derived.Test.YtljmeemgjbcgeaaRowBase
import Derived.Test.YtljmeemgjbcgeaaPlays
set_option linter.unusedVariables false
set_option maxRecDepth 20000
namespace Go.Proofs.Ytljmeemgjbcgeaa

open Go.ChangeShapes Go.WideShapes Go.ChangeAt Go.RowKit Go.Joins Go.Deep
theorem decA {H : Type} {enc : TypeId × Value → H} {W : World} {sp : Nat → Bool} {held : Bool} (m : Nat) (cs : List Value) (y : DataW H × List MemPlace) (h : DataW.trod enc Try.prog W 0 sp held m 48 cs = some y) :
    ∃ (x0 : Int) (x1 : Int) (x2 : Int) (x3 : Int), cs = [.int .i64 x0, .int .i64 x1, .int .i64 x2, .int .i64 x3] ∧ (Lit.int .i64 x0).wf = true ∧ (Lit.int .i64 x1).wf = true ∧ (Lit.int .i64 x2).wf = true ∧ (Lit.int .i64 x3).wf = true ∧ True := by
  have hl : cs.length = 4 := (trod_len Try.underlying48 h).trans (by kernel_rfl)
  have s3 : Try.prog.cellsOf 3 = 1 := by kernel_rfl
  have s23 : Try.prog.cellsOf 23 = 1 := by kernel_rfl
  have s25 : Try.prog.cellsOf 25 = 2 := by kernel_rfl
  obtain ⟨ng0, yg0, g0⟩ := trod_fld Try.underlying48 h (i := 0) rfl
  obtain ⟨x0, e0, _, w0⟩ := DataW.trod_int Try.underlying3 g0
  have e0 : (cs.drop 0).take (Try.prog.cellsOf 3) = [.int .i64 x0] := e0
  simp only [s3] at e0
  have k0 : cs.drop 0 = .int .i64 x0 :: cs.drop 1 := drop_cons e0
  obtain ⟨ng1, yg1, g1⟩ := trod_fld Try.underlying48 h (i := 1) rfl
  obtain ⟨x1, e1, _, w1⟩ := DataW.trod_int Try.underlying3 g1
  have e1 : (cs.drop 1).take (Try.prog.cellsOf 3) = [.int .i64 x1] := e1
  simp only [s3] at e1
  have k1 : cs.drop 1 = .int .i64 x1 :: cs.drop 2 := drop_cons e1
  obtain ⟨ng2, yg2, g2⟩ := trod_fld Try.underlying48 h (i := 2) rfl
  obtain ⟨ng2_0, yg2_0, g2_0⟩ := trod_fld Try.underlying25 g2 (i := 0) rfl
  obtain ⟨x2, e2, _, w2⟩ := DataW.trod_int Try.underlying3 g2_0
  have e2 : (((cs.drop 2).take (Try.prog.cellsOf 25)).drop 0).take (Try.prog.cellsOf 3) = [.int .i64 x2] := e2
  simp only [s3, s25] at e2
  rw [sub_at cs 2 2 0 1 (by decide)] at e2
  have k2 : cs.drop 2 = .int .i64 x2 :: cs.drop 3 := drop_cons e2
  obtain ⟨ng2_1, yg2_1, g2_1⟩ := trod_fld Try.underlying25 g2 (i := 1) rfl
  obtain ⟨x3, e3, _, w3⟩ := DataW.trod_int Try.underlying23 g2_1
  have e3 : (((cs.drop 2).take (Try.prog.cellsOf 25)).drop 1).take (Try.prog.cellsOf 23) = [.int .i64 x3] := e3
  simp only [s23, s25] at e3
  rw [sub_at cs 2 2 1 1 (by decide)] at e3
  have k3 : cs.drop 3 = .int .i64 x3 :: cs.drop 4 := drop_cons e3
  exact ⟨x0, x1, x2, x3, (List.drop_zero (l := cs)).symm.trans (k0.trans (congrArg (List.cons _) (k1.trans (congrArg (List.cons _) (k2.trans (congrArg (List.cons _) (k3.trans (congrArg (List.cons _) (List.drop_eq_nil_of_le (by omega)))))))))), w0, w1, w2, w3, trivial⟩
theorem decA2 {H : Type} {enc : TypeId × Value → H} {W : World} {sp : Nat → Bool} {held : Bool} (m : Nat) (cs : List Value) (y : DataW H × List MemPlace) (h : DataW.trod enc Try.prog W 0 sp held m 48 cs = some y) : ∃ x : Ac9, cs = encA9 x ∧ True := by
  obtain ⟨a, b, c, d, rfl, _⟩ := decA m cs y h
  exact ⟨⟨a, b, (c, d)⟩, rfl, trivial⟩

end Go.Proofs.Ytljmeemgjbcgeaa
