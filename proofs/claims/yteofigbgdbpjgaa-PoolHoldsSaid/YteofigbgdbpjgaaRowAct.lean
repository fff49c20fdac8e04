/-
  Chapter 46 (pool), part RowAct: contracts of functions that the laws call, each for the heap it names.
-/
import Derived.Test.YteofigbgdbpjgaaRowBase
set_option linter.unusedVariables false
set_option maxRecDepth 20000
namespace Go.Proofs.Yteofigbgdbpjgaa

open Go.ChangeShapes Go.WideShapes Go.ChangeAt Go.RowKit Go.Joins Go.Deep
theorem decA {H : Type} {enc : TypeId × Value → H} {W : World} {sp : Nat → Bool} {held : Bool} (m : Nat) (cs : List Value) (y : DataW H × List MemPlace) (h : DataW.trod enc Try.prog W 0 sp held m 41 cs = some y) :
    ∃ (x0 : Int) (x1 : Int) (x2 : Int) (x3 : Int) (x4 : Bool), cs = [.int .i64 x0, .int .i64 x1, .int .u64 x2, .int .u64 x3, .bool x4] ∧ (Lit.int .i64 x0).wf = true ∧ (Lit.int .i64 x1).wf = true ∧ (Lit.int .u64 x2).wf = true ∧ (Lit.int .u64 x3).wf = true ∧ True := by
  have hl : cs.length = 5 := (trod_len Try.underlying41 h).trans (by kernel_rfl)
  have s3 : Try.prog.cellsOf 3 = 1 := by kernel_rfl
  have s4 : Try.prog.cellsOf 4 = 1 := by kernel_rfl
  have s28 : Try.prog.cellsOf 28 = 1 := by kernel_rfl
  obtain ⟨ng0, yg0, g0⟩ := trod_fld Try.underlying41 h (i := 0) rfl
  obtain ⟨x0, e0, _, w0⟩ := DataW.trod_int Try.underlying3 g0
  have e0 : (cs.drop 0).take (Try.prog.cellsOf 3) = [.int .i64 x0] := e0
  simp only [s3] at e0
  have k0 : cs.drop 0 = .int .i64 x0 :: cs.drop 1 := drop_cons e0
  obtain ⟨ng1, yg1, g1⟩ := trod_fld Try.underlying41 h (i := 1) rfl
  obtain ⟨x1, e1, _, w1⟩ := DataW.trod_int Try.underlying3 g1
  have e1 : (cs.drop 1).take (Try.prog.cellsOf 3) = [.int .i64 x1] := e1
  simp only [s3] at e1
  have k1 : cs.drop 1 = .int .i64 x1 :: cs.drop 2 := drop_cons e1
  obtain ⟨ng2, yg2, g2⟩ := trod_fld Try.underlying41 h (i := 2) rfl
  obtain ⟨x2, e2, _, w2⟩ := DataW.trod_int Try.underlying28 g2
  have e2 : (cs.drop 2).take (Try.prog.cellsOf 28) = [.int .u64 x2] := e2
  simp only [s28] at e2
  have k2 : cs.drop 2 = .int .u64 x2 :: cs.drop 3 := drop_cons e2
  obtain ⟨ng3, yg3, g3⟩ := trod_fld Try.underlying41 h (i := 3) rfl
  obtain ⟨x3, e3, _, w3⟩ := DataW.trod_int Try.underlying28 g3
  have e3 : (cs.drop 3).take (Try.prog.cellsOf 28) = [.int .u64 x3] := e3
  simp only [s28] at e3
  have k3 : cs.drop 3 = .int .u64 x3 :: cs.drop 4 := drop_cons e3
  obtain ⟨ng4, yg4, g4⟩ := trod_fld Try.underlying41 h (i := 4) rfl
  obtain ⟨x4, e4, _⟩ := DataW.trod_bool Try.underlying4 g4
  have e4 : (cs.drop 4).take (Try.prog.cellsOf 4) = [.bool x4] := e4
  simp only [s4] at e4
  have k4 : cs.drop 4 = .bool x4 :: cs.drop 5 := drop_cons e4
  exact ⟨x0, x1, x2, x3, x4, (List.drop_zero (l := cs)).symm.trans (k0.trans (congrArg (List.cons _) (k1.trans (congrArg (List.cons _) (k2.trans (congrArg (List.cons _) (k3.trans (congrArg (List.cons _) (k4.trans (congrArg (List.cons _) (List.drop_eq_nil_of_le (by omega)))))))))))), w0, w1, w2, w3, trivial⟩
end Go.Proofs.Yteofigbgdbpjgaa
