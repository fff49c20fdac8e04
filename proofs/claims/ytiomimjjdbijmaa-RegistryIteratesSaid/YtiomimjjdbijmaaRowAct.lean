/-
  Chapter 17 (registry), part RowAct: contracts of functions that the laws call, each for the heap it names.
-/
import Derived.Test.YtiomimjjdbijmaaRowBase
import Derived.Test.YtiomimjjdbijmaaLaw1
set_option linter.unusedVariables false
set_option maxRecDepth 20000
namespace Go.Proofs.Ytiomimjjdbijmaa

open Go.ChangeShapes Go.WideShapes Go.ChangeAt Go.RowKit Go.Joins Go.Deep
theorem decA {H : Type} {enc : TypeId × Value → H} {W : World} {sp : Nat → Bool} {held : Bool} (m : Nat) (cs : List Value) (y : DataW H × List MemPlace) (h : DataW.trod enc Try.prog W 0 sp held m 41 cs = some y) :
    ∃ (x0 : Int) (x1 : ByteArray) (x2 : Int) (x3 : Int), cs = [.int .i64 x0, .string x1, .int .i64 x2, .int .i64 x3] ∧ (Lit.int .i64 x0).wf = true ∧ (Lit.int .i64 x2).wf = true ∧ (Lit.int .i64 x3).wf = true ∧ True := by
  have hl : cs.length = 4 := (trod_len Try.underlying41 h).trans (by kernel_rfl)
  have s3 : Try.prog.cellsOf 3 = 1 := by kernel_rfl
  have s9 : Try.prog.cellsOf 9 = 1 := by kernel_rfl
  have s23 : Try.prog.cellsOf 23 = 2 := by kernel_rfl
  obtain ⟨ng0, yg0, g0⟩ := trod_fld Try.underlying41 h (i := 0) rfl
  obtain ⟨x0, e0, _, w0⟩ := DataW.trod_int Try.underlying3 g0
  have e0 : (cs.drop 0).take (Try.prog.cellsOf 3) = [.int .i64 x0] := e0
  simp only [s3] at e0
  have k0 : cs.drop 0 = .int .i64 x0 :: cs.drop 1 := drop_cons e0
  obtain ⟨ng1, yg1, g1⟩ := trod_fld Try.underlying41 h (i := 1) rfl
  obtain ⟨ng1_0, yg1_0, g1_0⟩ := trod_fld Try.underlying23 g1 (i := 0) rfl
  obtain ⟨x1, e1, _, _⟩ := DataW.trod_string Try.underlying9 g1_0
  have e1 : (((cs.drop 1).take (Try.prog.cellsOf 23)).drop 0).take (Try.prog.cellsOf 9) = [.string x1] := e1
  simp only [s9, s23] at e1
  rw [sub_at cs 1 2 0 1 (by decide)] at e1
  have k1 : cs.drop 1 = .string x1 :: cs.drop 2 := drop_cons e1
  obtain ⟨ng1_1, yg1_1, g1_1⟩ := trod_fld Try.underlying23 g1 (i := 1) rfl
  obtain ⟨x2, e2, _, w2⟩ := DataW.trod_int Try.underlying3 g1_1
  have e2 : (((cs.drop 1).take (Try.prog.cellsOf 23)).drop 1).take (Try.prog.cellsOf 3) = [.int .i64 x2] := e2
  simp only [s3, s23] at e2
  rw [sub_at cs 1 2 1 1 (by decide)] at e2
  have k2 : cs.drop 2 = .int .i64 x2 :: cs.drop 3 := drop_cons e2
  obtain ⟨ng2, yg2, g2⟩ := trod_fld Try.underlying41 h (i := 2) rfl
  obtain ⟨x3, e3, _, w3⟩ := DataW.trod_int Try.underlying3 g2
  have e3 : (cs.drop 3).take (Try.prog.cellsOf 3) = [.int .i64 x3] := e3
  simp only [s3] at e3
  have k3 : cs.drop 3 = .int .i64 x3 :: cs.drop 4 := drop_cons e3
  exact ⟨x0, x1, x2, x3, (List.drop_zero (l := cs)).symm.trans (k0.trans (congrArg (List.cons _) (k1.trans (congrArg (List.cons _) (k2.trans (congrArg (List.cons _) (k3.trans (congrArg (List.cons _) (List.drop_eq_nil_of_le (by omega)))))))))), w0, w2, w3, trivial⟩

theorem decRA {H : Type} {enc : TypeId × Value → H} {W : World} {sp : Nat → Bool} {held : Bool} (m : Nat) (cs : List Value) (y : DataW H × List MemPlace) (h : DataW.trod enc Try.prog W 0 sp held m 41 cs = some y) : ∃ x : RA, cs = encRA x ∧ True := by
  obtain ⟨wt, s, p, v, rfl, _⟩ := decA m cs y h
  exact ⟨⟨wt, s, p, v⟩, rfl, trivial⟩

end Go.Proofs.Ytiomimjjdbijmaa
