/-
  Chapter 10 (deadline), part ArrEq: contracts of functions that the laws call, each for the heap it names.
-/
import Derived.ChangeKeysEq
import Derived.Laws.StructEq
import Derived.Test.YtnkpefonocggfaaRows
import Derived.Test.YtnkpefonocggfaaSLArr
set_option linter.unusedVariables false
set_option maxRecDepth 20000
namespace Go.Proofs.Ytnkpefonocggfaa


theorem areq (a0 a1 b0 b1 : Int) (w : World) : (binOp .eql 96 (.agg #[.int .i64 a0, .int .i64 a1]) (.agg #[.int .i64 b0, .int .i64 b1])).run Try.prog w = .ok (.bool (decide (a0 = b0 ∧ a1 = b1))) w := by
  have hi : Try.prog.info? 3 = some Try.t3 := by kernel_rfl
  have hc : Try.prog.cellsOf 3 = 1 := by kernel_rfl
  rw [run_eql_struct, run_equalIn_array (P := Try.prog) (w := w) 9999 _ _ Try.underlying96 hi]
  by_cases h0 : a0 = b0 <;> by_cases h1 : a1 = b1 <;> simp [Op.eqItems, List.range_succ, part, hc, run_equalIn_int w 9998 3 .i64 .i64 _ _ Try.underlying3, Try.isAgg3, h0, h1]
theorem R_areq {X : Ctx} {E : Env} {H : Heap} {o : Oper} {x y : Operand} {t' : TypeId} {a0 a1 b0 b1 : Int} (hP : X.P = Try.prog) (ho : o.op = .binOp .eql 96 x y t') (hx : ev E x = some (.agg #[.int .i64 a0, .int .i64 a1])) (hy : ev E y = some (.agg #[.int .i64 b0, .int .i64 b1])) : Runs X o E H (.bool (decide (a0 = b0 ∧ a1 = b1))) :=
  R_bin ho hx hy (fun w => by rw [hP]; exact run_eqGuard_agg w _ 96 x y _ _ Try.eqGuardType96) (fun w => by rw [hP]; exact areq a0 a1 b0 b1 w)

end Go.Proofs.Ytnkpefonocggfaa
