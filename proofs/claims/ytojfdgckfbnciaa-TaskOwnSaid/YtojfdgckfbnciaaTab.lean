/-
  What the tables of types say.
-/
import Derived.Test.YtojfdgckfbnciaaRows
import Derived.Test.YtojfdgckfbnciaaSLArr
namespace Go.Proofs.Ytojfdgckfbnciaa
theorem followsMixed : Try.prog.follows .mixedOrders = true := by kernel_rfl
theorem ag37 : Ag Try.prog 37 2 := fun w => ⟨Try.isAgg37 w, Try.sizeOf37 w⟩
theorem ag45 : Ag Try.prog 45 2 := fun w => ⟨Try.isAgg45 w, Try.sizeOf45 w⟩
theorem ag76 : Ag Try.prog 76 3 := fun w => ⟨Try.isAgg76 w, Try.sizeOf76 w⟩
theorem ag81 : Ag Try.prog 81 2 := fun w => ⟨Try.isAgg81 w, Try.sizeOf81 w⟩
theorem ag88 : Ag Try.prog 88 3 := fun w => ⟨Try.isAgg88 w, Try.sizeOf88 w⟩
theorem fa37_0 : FldAt Try.prog 37 0 0 := FldAt.mk Try.underlying37 rfl rfl Try.sizeOf3 (by decide)
theorem fa37_1 : FldAt Try.prog 37 1 1 := FldAt.mk Try.underlying37 rfl rfl Try.sizeOf3 (by decide)
theorem fa45_0 : FldAt Try.prog 45 0 0 := FldAt.mk Try.underlying45 rfl rfl Try.sizeOf28 (by decide)
theorem fa45_1 : FldAt Try.prog 45 1 1 := FldAt.mk Try.underlying45 rfl rfl Try.sizeOf28 (by decide)
theorem fa54_0 : FldAt Try.prog 54 0 0 := FldAt.mk Try.underlying54 rfl rfl Try.sizeOf51 (by decide)
theorem fa54_1 : FldAt Try.prog 54 1 1 := FldAt.mk Try.underlying54 rfl rfl Try.sizeOf52 (by decide)
theorem fa69_0 : FldAt Try.prog 69 0 0 := FldAt.mk Try.underlying69 rfl rfl Try.sizeOf39 (by decide)
theorem fa69_1 : FldAt Try.prog 69 1 1 := FldAt.mk Try.underlying69 rfl rfl Try.sizeOf65 (by decide)
theorem fa76_0 : FldAt Try.prog 76 0 0 := FldAt.mk Try.underlying76 rfl rfl Try.sizeOf65 (by decide)
theorem fa76_1 : FldAt Try.prog 76 1 1 := FldAt.mk Try.underlying76 rfl rfl Try.sizeOf65 (by decide)
theorem fa76_2 : FldAt Try.prog 76 2 2 := FldAt.mk Try.underlying76 rfl rfl Try.sizeOf65 (by decide)
theorem fa78_0 : FldAt Try.prog 78 0 0 := FldAt.mk Try.underlying78 rfl rfl Try.sizeOf76 (by decide)
theorem fa78_1 : FldAt Try.prog 78 1 3 := FldAt.mk Try.underlying78 rfl rfl Try.sizeOf74 (by decide)
theorem fa81_1 : FldAt Try.prog 81 1 1 := FldAt.mk Try.underlying81 rfl rfl Try.sizeOf39 (by decide)
theorem fa88_0 : FldAt Try.prog 88 0 0 := FldAt.mk Try.underlying88 rfl rfl Try.sizeOf3 (by decide)
theorem fa88_1 : FldAt Try.prog 88 1 1 := FldAt.mk Try.underlying88 rfl rfl Try.sizeOf65 (by decide)
theorem fa88_2 : FldAt Try.prog 88 2 2 := FldAt.mk Try.underlying88 rfl rfl Try.sizeOf65 (by decide)
theorem pl45 : Places Try.prog 45 [(0, 1), (1, 1)] := ⟨_, Try.underlying45, fun w => by simp [Try.sizeOf28]⟩
theorem pl54 : Places Try.prog 54 [(0, 1), (1, 1)] := ⟨_, Try.underlying54, fun w => by simp [Try.sizeOf51, Try.sizeOf52]⟩
theorem pl69 : Places Try.prog 69 [(0, 1), (1, 1)] := ⟨_, Try.underlying69, fun w => by simp [Try.sizeOf39, Try.sizeOf65]⟩
theorem pl78 : Places Try.prog 78 [(0, 3), (3, 1)] := ⟨_, Try.underlying78, fun w => by simp [Try.sizeOf74, Try.sizeOf76]⟩
theorem pl81 : Places Try.prog 81 [(0, 1), (1, 1)] := ⟨_, Try.underlying81, fun w => by simp [Try.sizeOf39]⟩
theorem pl88 : Places Try.prog 88 [(0, 1), (1, 1), (2, 1)] := ⟨_, Try.underlying88, fun w => by simp [Try.sizeOf3, Try.sizeOf65]⟩
theorem sc3 : Sc Try.prog 3 := fun w => ⟨Try.isAgg3 w, Try.sizeOf3 w⟩
theorem sc4 : Sc Try.prog 4 := fun w => ⟨Try.isAgg4 w, Try.sizeOf4 w⟩
theorem sc5 : Sc Try.prog 5 := fun w => ⟨Try.isAgg5 w, Try.sizeOf5 w⟩
theorem sc24 : Sc Try.prog 24 := fun w => ⟨Try.isAgg24 w, Try.sizeOf24 w⟩
theorem sc28 : Sc Try.prog 28 := fun w => ⟨Try.isAgg28 w, Try.sizeOf28 w⟩
theorem sc39 : Sc Try.prog 39 := fun w => ⟨Try.isAgg39 w, Try.sizeOf39 w⟩
theorem sc51 : Sc Try.prog 51 := fun w => ⟨Try.isAgg51 w, Try.sizeOf51 w⟩
theorem sc52 : Sc Try.prog 52 := fun w => ⟨Try.isAgg52 w, Try.sizeOf52 w⟩
theorem sc65 : Sc Try.prog 65 := fun w => ⟨Try.isAgg65 w, Try.sizeOf65 w⟩
theorem sc74 : Sc Try.prog 74 := fun w => ⟨Try.isAgg74 w, Try.sizeOf74 w⟩
theorem seq81 (a0 a1 b0 b1 : Int) (w : World) : (binOp .eql 81 (.agg #[.int .i64 a0, .int .i64 a1]) (.agg #[.int .i64 b0, .int .i64 b1])).run Try.prog w = .ok (.bool (decide (a0 = b0 ∧ a1 = b1))) w := by
  rw [run_eql_struct, run_equalIn_struct w 9999 81 _ _ (by simp [Program.fieldsOf, Try.underlying81]) Try.stoodInHeld81]
  by_cases h0 : a0 = b0 <;> by_cases h1 : a1 = b1 <;> simp [Program.fieldsOf, Try.underlying81, Op.eqFields, part, Try.isAgg39, run_equalIn_int w 9998 39 .i64 .i64 _ _ Try.underlying39, h0, h1]
theorem R_seq81 {X : Ctx} {E : Env} {H : Heap} {o : Oper} {x y : Operand} {t' : TypeId} {a0 a1 b0 b1 : Int} (hP : X.P = Try.prog) (ho : o.op = .binOp .eql 81 x y t') (hx : ev E x = some (.agg #[.int .i64 a0, .int .i64 a1])) (hy : ev E y = some (.agg #[.int .i64 b0, .int .i64 b1])) : Runs X o E H (.bool (decide (a0 = b0 ∧ a1 = b1))) :=
  R_bin ho hx hy (fun w => by rw [hP]; exact run_eqGuard_agg w _ 81 x y _ _ Try.eqGuardType81) (fun w => by rw [hP]; exact seq81 a0 a1 b0 b1 w)
theorem sne81 (a0 a1 b0 b1 : Int) (w : World) : (binOp .neq 81 (.agg #[.int .i64 a0, .int .i64 a1]) (.agg #[.int .i64 b0, .int .i64 b1])).run Try.prog w = .ok (.bool (decide (¬ (a0 = b0 ∧ a1 = b1)))) w := by
  rw [run_neq_struct, run_equalIn_struct w 9999 81 _ _ (by simp [Program.fieldsOf, Try.underlying81]) Try.stoodInHeld81]
  by_cases h0 : a0 = b0 <;> by_cases h1 : a1 = b1 <;> simp [Program.fieldsOf, Try.underlying81, Op.eqFields, part, Try.isAgg39, run_equalIn_int w 9998 39 .i64 .i64 _ _ Try.underlying39, h0, h1]
theorem R_sne81 {X : Ctx} {E : Env} {H : Heap} {o : Oper} {x y : Operand} {t' : TypeId} {a0 a1 b0 b1 : Int} (hP : X.P = Try.prog) (ho : o.op = .binOp .neq 81 x y t') (hx : ev E x = some (.agg #[.int .i64 a0, .int .i64 a1])) (hy : ev E y = some (.agg #[.int .i64 b0, .int .i64 b1])) : Runs X o E H (.bool (decide (¬ (a0 = b0 ∧ a1 = b1)))) :=
  R_bin ho hx hy (fun w => by rw [hP]; exact run_eqGuard_agg w _ 81 x y _ _ Try.eqGuardType81) (fun w => by rw [hP]; exact sne81 a0 a1 b0 b1 w)
theorem inf28 : Try.prog.info? 3 = some Try.t3 := by kernel_rfl
theorem si28 : SI Try.prog 28 3 1 8 [.int .i64 0] := ⟨Try.underlying28, Try.t3, _, inf28, rfl, rfl, rfl, rfl, rfl, by decide⟩
theorem inf51 : Try.prog.info? 69 = some Try.t69 := by kernel_rfl
theorem si51 : SI Try.prog 51 69 2 16 [.int .i64 0, .int .u64 0] := ⟨Try.underlying51, Try.t69, _, inf51, rfl, rfl, rfl, rfl, rfl, by decide⟩
theorem inf55 : Try.prog.info? 24 = some Try.t24 := by kernel_rfl
theorem si55 : SI Try.prog 55 24 1 8 [.pointer none] := ⟨Try.underlying55, Try.t24, _, inf55, rfl, rfl, rfl, rfl, rfl, by decide⟩
theorem zv28 : Zv Try.prog 28 [.slice none 0 0] := ⟨_, rfl, Try.zeroValue28⟩
theorem zv37 : Zv Try.prog 37 [.int .i64 0, .int .i64 0] := ⟨_, rfl, Try.zeroValue37⟩
theorem zv38 : Zv Try.prog 38 [.int .i64 0, .int .i64 0, .int .i64 0, .int .i64 0, .int .i64 0, .int .i64 0, .int .i64 0, .int .i64 0, .int .i64 0, .int .i64 0, .int .i64 0, .int .i64 0, .int .i64 0, .int .i64 0, .int .i64 0, .int .i64 0, .int .i64 0, .int .i64 0, .int .i64 0, .int .i64 0, .int .i64 0, .int .i64 0, .int .i64 0, .int .i64 0, .int .i64 0, .int .i64 0, .int .i64 0, .int .i64 0, .int .i64 0, .int .i64 0, .int .i64 0, .int .i64 0, .int .i64 0, .int .i64 0, .int .i64 0, .int .i64 0, .int .i64 0, .int .i64 0, .int .i64 0, .int .i64 0, .int .i64 0, .int .i64 0, .int .i64 0, .int .i64 0, .int .i64 0, .int .i64 0, .int .i64 0, .int .i64 0, .int .i64 0, .int .i64 0, .int .i64 0, .int .i64 0, .int .i64 0, .int .i64 0, .int .i64 0, .int .i64 0, .int .i64 0, .int .i64 0, .int .i64 0, .int .i64 0, .int .i64 0, .int .i64 0, .int .i64 0, .int .i64 0] := ⟨_, rfl, Try.zeroValue38⟩
theorem zv42 : Zv Try.prog 42 [.bool false, .bool false, .bool false, .bool false, .bool false, .bool false, .bool false, .bool false, .bool false, .bool false, .bool false, .bool false, .bool false, .bool false, .bool false, .bool false, .bool false, .bool false, .bool false, .bool false, .bool false, .bool false, .bool false, .bool false, .bool false, .bool false, .bool false, .bool false, .bool false, .bool false, .bool false, .bool false, .bool false, .bool false, .bool false, .bool false, .bool false, .bool false, .bool false, .bool false, .bool false, .bool false, .bool false, .bool false, .bool false, .bool false, .bool false, .bool false, .bool false, .bool false, .bool false, .bool false, .bool false, .bool false, .bool false, .bool false, .bool false, .bool false, .bool false, .bool false, .bool false, .bool false, .bool false, .bool false] := ⟨_, rfl, Try.zeroValue42⟩
theorem zv45 : Zv Try.prog 45 [.slice none 0 0, .slice none 0 0] := ⟨_, rfl, Try.zeroValue45⟩
theorem zv52 : Zv Try.prog 52 [.pointer none] := ⟨_, rfl, Try.zeroValue52⟩
theorem zv54 : Zv Try.prog 54 [.slice none 0 0, .pointer none] := ⟨_, rfl, Try.zeroValue54⟩
theorem zv69 : Zv Try.prog 69 [.int .i64 0, .int .u64 0] := ⟨_, rfl, Try.zeroValue69⟩
theorem zv78 : Zv Try.prog 78 [.int .u64 0, .int .u64 0, .int .u64 0, .map none] := ⟨_, rfl, Try.zeroValue78⟩
theorem zv81 : Zv Try.prog 81 [.int .i64 0, .int .i64 0] := ⟨_, rfl, Try.zeroValue81⟩
theorem zv88 : Zv Try.prog 88 [.int .i64 0, .int .u64 0, .int .u64 0] := ⟨_, rfl, Try.zeroValue88⟩
theorem zv91 : Zv Try.prog 91 [.int .i64 0, .int .i64 0, .int .i64 0, .int .i64 0, .int .i64 0, .int .i64 0, .int .i64 0, .int .i64 0, .int .i64 0, .int .i64 0] := ⟨_, rfl, Try.zeroValue91⟩
end Go.Proofs.Ytojfdgckfbnciaa
