/-
  What the tables of types say.
-/
import Derived.Test.YtnolalkkdigcbaaRows
import Derived.Test.YtnolalkkdigcbaaSLArr
namespace Go.Proofs.Ytnolalkkdigcbaa
theorem followsMixed : Try.prog.follows .mixedOrders = true := by kernel_rfl
theorem ag30 : Ag Try.prog 30 2 := fun w => ⟨Try.isAgg30 w, Try.sizeOf30 w⟩
theorem ag34 : Ag Try.prog 34 2 := fun w => ⟨Try.isAgg34 w, Try.sizeOf34 w⟩
theorem ag36 : Ag Try.prog 36 4 := fun w => ⟨Try.isAgg36 w, Try.sizeOf36 w⟩
theorem ag44 : Ag Try.prog 44 4 := fun w => ⟨Try.isAgg44 w, Try.sizeOf44 w⟩
theorem ag78 : Ag Try.prog 78 3 := fun w => ⟨Try.isAgg78 w, Try.sizeOf78 w⟩
theorem fa30_0 : FldAt Try.prog 30 0 0 := FldAt.mk Try.underlying30 rfl rfl Try.sizeOf3 (by decide)
theorem fa30_1 : FldAt Try.prog 30 1 1 := FldAt.mk Try.underlying30 rfl rfl Try.sizeOf28 (by decide)
theorem fa34_0 : FldAt Try.prog 34 0 0 := FldAt.mk Try.underlying34 rfl rfl Try.sizeOf3 (by decide)
theorem fa34_1 : FldAt Try.prog 34 1 1 := FldAt.mk Try.underlying34 rfl rfl Try.sizeOf3 (by decide)
theorem fa36_0 : FldAt Try.prog 36 0 0 := FldAt.mk Try.underlying36 rfl rfl Try.sizeOf3 (by decide)
theorem fa36_1 : FldAt Try.prog 36 1 1 := FldAt.mk Try.underlying36 rfl rfl Try.sizeOf3 (by decide)
theorem fa36_2 : FldAt Try.prog 36 2 2 := FldAt.mk Try.underlying36 rfl rfl Try.sizeOf34 (by decide)
theorem fa44_0 : FldAt Try.prog 44 0 0 := FldAt.mk Try.underlying44 rfl rfl Try.sizeOf34 (by decide)
theorem fa44_1 : FldAt Try.prog 44 1 2 := FldAt.mk Try.underlying44 rfl rfl Try.sizeOf3 (by decide)
theorem fa44_2 : FldAt Try.prog 44 2 3 := FldAt.mk Try.underlying44 rfl rfl Try.sizeOf4 (by decide)
theorem fa59_0 : FldAt Try.prog 59 0 0 := FldAt.mk Try.underlying59 rfl rfl Try.sizeOf57 (by decide)
theorem fa78_0 : FldAt Try.prog 78 0 0 := FldAt.mk Try.underlying78 rfl rfl Try.sizeOf3 (by decide)
theorem fa78_1 : FldAt Try.prog 78 1 1 := FldAt.mk Try.underlying78 rfl rfl Try.sizeOf3 (by decide)
theorem fa78_2 : FldAt Try.prog 78 2 2 := FldAt.mk Try.underlying78 rfl rfl Try.sizeOf4 (by decide)
theorem pl30 : Places Try.prog 30 [(0, 1), (1, 1)] := ⟨_, Try.underlying30, fun w => by simp [Try.sizeOf28, Try.sizeOf3]⟩
theorem pl34 : Places Try.prog 34 [(0, 1), (1, 1)] := ⟨_, Try.underlying34, fun w => by simp [Try.sizeOf3]⟩
theorem pl44 : Places Try.prog 44 [(0, 2), (2, 1), (3, 1)] := ⟨_, Try.underlying44, fun w => by simp [Try.sizeOf3, Try.sizeOf34, Try.sizeOf4]⟩
theorem pl59 : Places Try.prog 59 [(0, 1)] := ⟨_, Try.underlying59, fun w => by simp [Try.sizeOf57]⟩
theorem pl78 : Places Try.prog 78 [(0, 1), (1, 1), (2, 1)] := ⟨_, Try.underlying78, fun w => by simp [Try.sizeOf3, Try.sizeOf4]⟩
theorem sc3 : Sc Try.prog 3 := fun w => ⟨Try.isAgg3 w, Try.sizeOf3 w⟩
theorem sc4 : Sc Try.prog 4 := fun w => ⟨Try.isAgg4 w, Try.sizeOf4 w⟩
theorem sc24 : Sc Try.prog 24 := fun w => ⟨Try.isAgg24 w, Try.sizeOf24 w⟩
theorem sc28 : Sc Try.prog 28 := fun w => ⟨Try.isAgg28 w, Try.sizeOf28 w⟩
theorem sc57 : Sc Try.prog 57 := fun w => ⟨Try.isAgg57 w, Try.sizeOf57 w⟩
theorem seq34 (a0 a1 b0 b1 : Int) (w : World) : (binOp .eql 34 (.agg #[.int .i64 a0, .int .i64 a1]) (.agg #[.int .i64 b0, .int .i64 b1])).run Try.prog w = .ok (.bool (decide (a0 = b0 ∧ a1 = b1))) w := by
  rw [run_eql_struct, run_equalIn_struct w 9999 34 _ _ (by simp [Program.fieldsOf, Try.underlying34]) Try.stoodInHeld34]
  by_cases h0 : a0 = b0 <;> by_cases h1 : a1 = b1 <;> simp [Program.fieldsOf, Try.underlying34, Op.eqFields, part, Try.isAgg3, run_equalIn_int w 9998 3 .i64 .i64 _ _ Try.underlying3, h0, h1]
theorem R_seq34 {X : Ctx} {E : Env} {H : Heap} {o : Oper} {x y : Operand} {t' : TypeId} {a0 a1 b0 b1 : Int} (hP : X.P = Try.prog) (ho : o.op = .binOp .eql 34 x y t') (hx : ev E x = some (.agg #[.int .i64 a0, .int .i64 a1])) (hy : ev E y = some (.agg #[.int .i64 b0, .int .i64 b1])) : Runs X o E H (.bool (decide (a0 = b0 ∧ a1 = b1))) :=
  R_bin ho hx hy (fun w => by rw [hP]; exact run_eqGuard_agg w _ 34 x y _ _ Try.eqGuardType34) (fun w => by rw [hP]; exact seq34 a0 a1 b0 b1 w)
theorem sne34 (a0 a1 b0 b1 : Int) (w : World) : (binOp .neq 34 (.agg #[.int .i64 a0, .int .i64 a1]) (.agg #[.int .i64 b0, .int .i64 b1])).run Try.prog w = .ok (.bool (decide (¬ (a0 = b0 ∧ a1 = b1)))) w := by
  rw [run_neq_struct, run_equalIn_struct w 9999 34 _ _ (by simp [Program.fieldsOf, Try.underlying34]) Try.stoodInHeld34]
  by_cases h0 : a0 = b0 <;> by_cases h1 : a1 = b1 <;> simp [Program.fieldsOf, Try.underlying34, Op.eqFields, part, Try.isAgg3, run_equalIn_int w 9998 3 .i64 .i64 _ _ Try.underlying3, h0, h1]
theorem R_sne34 {X : Ctx} {E : Env} {H : Heap} {o : Oper} {x y : Operand} {t' : TypeId} {a0 a1 b0 b1 : Int} (hP : X.P = Try.prog) (ho : o.op = .binOp .neq 34 x y t') (hx : ev E x = some (.agg #[.int .i64 a0, .int .i64 a1])) (hy : ev E y = some (.agg #[.int .i64 b0, .int .i64 b1])) : Runs X o E H (.bool (decide (¬ (a0 = b0 ∧ a1 = b1)))) :=
  R_bin ho hx hy (fun w => by rw [hP]; exact run_eqGuard_agg w _ 34 x y _ _ Try.eqGuardType34) (fun w => by rw [hP]; exact sne34 a0 a1 b0 b1 w)
theorem inf28 : Try.prog.info? 44 = some Try.t44 := by kernel_rfl
theorem si28 : SI Try.prog 28 44 4 32 [.int .i64 0, .int .i64 0, .int .i64 0, .bool false] := ⟨Try.underlying28, Try.t44, _, inf28, rfl, rfl, rfl, rfl, rfl, by decide⟩
theorem inf49 : Try.prog.info? 34 = some Try.t34 := by kernel_rfl
theorem si49 : SI Try.prog 49 34 2 16 [.int .i64 0, .int .i64 0] := ⟨Try.underlying49, Try.t34, _, inf49, rfl, rfl, rfl, rfl, rfl, by decide⟩
theorem inf50 : Try.prog.info? 3 = some Try.t3 := by kernel_rfl
theorem si50 : SI Try.prog 50 3 1 8 [.int .i64 0] := ⟨Try.underlying50, Try.t3, _, inf50, rfl, rfl, rfl, rfl, rfl, by decide⟩
theorem inf51 : Try.prog.info? 4 = some Try.t4 := by kernel_rfl
theorem si51 : SI Try.prog 51 4 1 1 [.bool false] := ⟨Try.underlying51, Try.t4, _, inf51, rfl, rfl, rfl, rfl, rfl, by decide⟩
theorem inf57 : Try.prog.info? 78 = some Try.t78 := by kernel_rfl
theorem si57 : SI Try.prog 57 78 3 24 [.int .i64 0, .int .i64 0, .bool false] := ⟨Try.underlying57, Try.t78, _, inf57, rfl, rfl, rfl, rfl, rfl, by decide⟩
theorem inf60 : Try.prog.info? 24 = some Try.t24 := by kernel_rfl
theorem si60 : SI Try.prog 60 24 1 8 [.pointer none] := ⟨Try.underlying60, Try.t24, _, inf60, rfl, rfl, rfl, rfl, rfl, by decide⟩
theorem zv3 : Zv Try.prog 3 [.int .i64 0] := ⟨_, rfl, Try.zeroValue3⟩
theorem zv4 : Zv Try.prog 4 [.bool false] := ⟨_, rfl, Try.zeroValue4⟩
theorem zv24 : Zv Try.prog 24 [.pointer none] := ⟨_, rfl, Try.zeroValue24⟩
theorem zv28 : Zv Try.prog 28 [.slice none 0 0] := ⟨_, rfl, Try.zeroValue28⟩
theorem zv30 : Zv Try.prog 30 [.int .i64 0, .slice none 0 0] := ⟨_, rfl, Try.zeroValue30⟩
theorem zv34 : Zv Try.prog 34 [.int .i64 0, .int .i64 0] := ⟨_, rfl, Try.zeroValue34⟩
theorem zv36 : Zv Try.prog 36 [.int .i64 0, .int .i64 0, .int .i64 0, .int .i64 0] := ⟨_, rfl, Try.zeroValue36⟩
theorem zv44 : Zv Try.prog 44 [.int .i64 0, .int .i64 0, .int .i64 0, .bool false] := ⟨_, rfl, Try.zeroValue44⟩
theorem zv59 : Zv Try.prog 59 [.slice none 0 0] := ⟨_, rfl, Try.zeroValue59⟩
theorem zv78 : Zv Try.prog 78 [.int .i64 0, .int .i64 0, .bool false] := ⟨_, rfl, Try.zeroValue78⟩
end Go.Proofs.Ytnolalkkdigcbaa
