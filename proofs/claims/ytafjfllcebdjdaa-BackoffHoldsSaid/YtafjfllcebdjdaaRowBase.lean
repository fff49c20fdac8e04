/-
  Chapter 47 (backoff), part RowBase: contracts of functions that the laws call, each for the heap it names.
-/
import Derived.Test.YtafjfllcebdjdaaRows
import Derived.Test.YtafjfllcebdjdaaSLRow
import Derived.Test.YtafjfllcebdjdaaSLArg
set_option linter.unusedVariables false
set_option maxRecDepth 20000
namespace Go.Proofs.Ytafjfllcebdjdaa

open Go.ChangeShapes Go.WideShapes Go.ChangeAt Go.RowKit Go.Joins Go.Deep
theorem rowOwn : ownKnob Try.prog.godebug = none := by kernel_rfl
theorem rowLaid : laidOutB Try.prog = true := by kernel_rfl
theorem rowMaps : mapsRowed Try.prog = true := by kernel_rfl
theorem rowFull : ∀ t e, t < Try.prog.types.size → Try.prog.underlying t = some (.slice e) → 0 < Try.prog.cellsOf e := slices_full_of Try.prog (by kernel_rfl)

theorem hok_one {W : World} {ent : Ent} (h : ent.ok W) : HOK [ent] W := by
  refine ⟨?_, fun x hx => ?_⟩
  · unfold keys
    cases hb : ent.b <;> simp [hb]
  · rw [List.mem_singleton] at hx
    subst hx
    exact h
theorem hok_nil (W : World) : HOK [] W := ⟨by simp [keys], fun x hx => by cases hx⟩
theorem decPlan {H : Type} {enc : TypeId × Value → H} {W : World} {sp : Nat → Bool} {held : Bool} (m : Nat) (cs : List Value) (y : DataW H × List MemPlace) (h : DataW.trod enc Try.prog W 0 sp held m 26 cs = some y) :
    ∃ (x0 : Int) (x1 : Int) (x2 : Int) (x3 : Int) (x4 : Int) (x5 : Int) (x6 : Int), cs = [.int .u64 x0, .int .u64 x1, .int .i64 x2, .int .i64 x3, .int .i64 x4, .int .i64 x5, .int .u32 x6] ∧ (Lit.int .u64 x0).wf = true ∧ (Lit.int .u64 x1).wf = true ∧ (Lit.int .i64 x2).wf = true ∧ (Lit.int .i64 x3).wf = true ∧ (Lit.int .i64 x4).wf = true ∧ (Lit.int .i64 x5).wf = true ∧ (Lit.int .u32 x6).wf = true ∧ True := by
  have hl : cs.length = 7 := (trod_len Try.underlying26 h).trans (by kernel_rfl)
  have s3 : Try.prog.cellsOf 3 = 1 := by kernel_rfl
  have s23 : Try.prog.cellsOf 23 = 1 := by kernel_rfl
  have s24 : Try.prog.cellsOf 24 = 1 := by kernel_rfl
  obtain ⟨ng0, yg0, g0⟩ := trod_fld Try.underlying26 h (i := 0) rfl
  obtain ⟨x0, e0, _, w0⟩ := DataW.trod_int Try.underlying23 g0
  have e0 : (cs.drop 0).take (Try.prog.cellsOf 23) = [.int .u64 x0] := e0
  simp only [s23] at e0
  have k0 : cs.drop 0 = .int .u64 x0 :: cs.drop 1 := drop_cons e0
  obtain ⟨ng1, yg1, g1⟩ := trod_fld Try.underlying26 h (i := 1) rfl
  obtain ⟨x1, e1, _, w1⟩ := DataW.trod_int Try.underlying23 g1
  have e1 : (cs.drop 1).take (Try.prog.cellsOf 23) = [.int .u64 x1] := e1
  simp only [s23] at e1
  have k1 : cs.drop 1 = .int .u64 x1 :: cs.drop 2 := drop_cons e1
  obtain ⟨ng2, yg2, g2⟩ := trod_fld Try.underlying26 h (i := 2) rfl
  obtain ⟨x2, e2, _, w2⟩ := DataW.trod_int Try.underlying3 g2
  have e2 : (cs.drop 2).take (Try.prog.cellsOf 3) = [.int .i64 x2] := e2
  simp only [s3] at e2
  have k2 : cs.drop 2 = .int .i64 x2 :: cs.drop 3 := drop_cons e2
  obtain ⟨ng3, yg3, g3⟩ := trod_fld Try.underlying26 h (i := 3) rfl
  obtain ⟨x3, e3, _, w3⟩ := DataW.trod_int Try.underlying3 g3
  have e3 : (cs.drop 3).take (Try.prog.cellsOf 3) = [.int .i64 x3] := e3
  simp only [s3] at e3
  have k3 : cs.drop 3 = .int .i64 x3 :: cs.drop 4 := drop_cons e3
  obtain ⟨ng4, yg4, g4⟩ := trod_fld Try.underlying26 h (i := 4) rfl
  obtain ⟨x4, e4, _, w4⟩ := DataW.trod_int Try.underlying3 g4
  have e4 : (cs.drop 4).take (Try.prog.cellsOf 3) = [.int .i64 x4] := e4
  simp only [s3] at e4
  have k4 : cs.drop 4 = .int .i64 x4 :: cs.drop 5 := drop_cons e4
  obtain ⟨ng5, yg5, g5⟩ := trod_fld Try.underlying26 h (i := 5) rfl
  obtain ⟨x5, e5, _, w5⟩ := DataW.trod_int Try.underlying3 g5
  have e5 : (cs.drop 5).take (Try.prog.cellsOf 3) = [.int .i64 x5] := e5
  simp only [s3] at e5
  have k5 : cs.drop 5 = .int .i64 x5 :: cs.drop 6 := drop_cons e5
  obtain ⟨ng6, yg6, g6⟩ := trod_fld Try.underlying26 h (i := 6) rfl
  obtain ⟨x6, e6, _, w6⟩ := DataW.trod_int Try.underlying24 g6
  have e6 : (cs.drop 6).take (Try.prog.cellsOf 24) = [.int .u32 x6] := e6
  simp only [s24] at e6
  have k6 : cs.drop 6 = .int .u32 x6 :: cs.drop 7 := drop_cons e6
  exact ⟨x0, x1, x2, x3, x4, x5, x6, (List.drop_zero (l := cs)).symm.trans (k0.trans (congrArg (List.cons _) (k1.trans (congrArg (List.cons _) (k2.trans (congrArg (List.cons _) (k3.trans (congrArg (List.cons _) (k4.trans (congrArg (List.cons _) (k5.trans (congrArg (List.cons _) (k6.trans (congrArg (List.cons _) (List.drop_eq_nil_of_le (by omega)))))))))))))))), w0, w1, w2, w3, w4, w5, w6, trivial⟩
theorem decAct {H : Type} {enc : TypeId × Value → H} {W : World} {sp : Nat → Bool} {held : Bool} (m : Nat) (cs : List Value) (y : DataW H × List MemPlace) (h : DataW.trod enc Try.prog W 0 sp held m 58 cs = some y) :
    ∃ (x0 : Int) (x1 : Int) (x2 : Int) (x3 : Bool), cs = [.int .i64 x0, .int .i64 x1, .int .u64 x2, .bool x3] ∧ (Lit.int .i64 x0).wf = true ∧ (Lit.int .i64 x1).wf = true ∧ (Lit.int .u64 x2).wf = true ∧ True := by
  have hl : cs.length = 4 := (trod_len Try.underlying58 h).trans (by kernel_rfl)
  have s3 : Try.prog.cellsOf 3 = 1 := by kernel_rfl
  have s4 : Try.prog.cellsOf 4 = 1 := by kernel_rfl
  have s23 : Try.prog.cellsOf 23 = 1 := by kernel_rfl
  obtain ⟨ng0, yg0, g0⟩ := trod_fld Try.underlying58 h (i := 0) rfl
  obtain ⟨x0, e0, _, w0⟩ := DataW.trod_int Try.underlying3 g0
  have e0 : (cs.drop 0).take (Try.prog.cellsOf 3) = [.int .i64 x0] := e0
  simp only [s3] at e0
  have k0 : cs.drop 0 = .int .i64 x0 :: cs.drop 1 := drop_cons e0
  obtain ⟨ng1, yg1, g1⟩ := trod_fld Try.underlying58 h (i := 1) rfl
  obtain ⟨x1, e1, _, w1⟩ := DataW.trod_int Try.underlying3 g1
  have e1 : (cs.drop 1).take (Try.prog.cellsOf 3) = [.int .i64 x1] := e1
  simp only [s3] at e1
  have k1 : cs.drop 1 = .int .i64 x1 :: cs.drop 2 := drop_cons e1
  obtain ⟨ng2, yg2, g2⟩ := trod_fld Try.underlying58 h (i := 2) rfl
  obtain ⟨x2, e2, _, w2⟩ := DataW.trod_int Try.underlying23 g2
  have e2 : (cs.drop 2).take (Try.prog.cellsOf 23) = [.int .u64 x2] := e2
  simp only [s23] at e2
  have k2 : cs.drop 2 = .int .u64 x2 :: cs.drop 3 := drop_cons e2
  obtain ⟨ng3, yg3, g3⟩ := trod_fld Try.underlying58 h (i := 3) rfl
  obtain ⟨x3, e3, _⟩ := DataW.trod_bool Try.underlying4 g3
  have e3 : (cs.drop 3).take (Try.prog.cellsOf 4) = [.bool x3] := e3
  simp only [s4] at e3
  have k3 : cs.drop 3 = .bool x3 :: cs.drop 4 := drop_cons e3
  exact ⟨x0, x1, x2, x3, (List.drop_zero (l := cs)).symm.trans (k0.trans (congrArg (List.cons _) (k1.trans (congrArg (List.cons _) (k2.trans (congrArg (List.cons _) (k3.trans (congrArg (List.cons _) (List.drop_eq_nil_of_le (by omega)))))))))), w0, w1, w2, trivial⟩
end Go.Proofs.Ytafjfllcebdjdaa
