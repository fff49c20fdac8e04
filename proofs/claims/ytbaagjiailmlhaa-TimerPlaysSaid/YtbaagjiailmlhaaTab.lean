/-
  What the tables of types say.
-/
import Derived.Test.YtbaagjiailmlhaaRows
import Derived.Test.YtbaagjiailmlhaaSLArr
namespace Go.Proofs.Ytbaagjiailmlhaa
theorem followsMixed : Try.prog.follows .mixedOrders = true := by kernel_rfl
theorem ag26 : Ag Try.prog 26 2 := fun w => ⟨Try.isAgg26 w, Try.sizeOf26 w⟩
theorem ag40 : Ag Try.prog 40 4 := fun w => ⟨Try.isAgg40 w, Try.sizeOf40 w⟩
theorem ag48 : Ag Try.prog 48 5 := fun w => ⟨Try.isAgg48 w, Try.sizeOf48 w⟩
theorem ag53 : Ag Try.prog 53 1 := fun w => ⟨Try.isAgg53 w, Try.sizeOf53 w⟩
theorem ag58 : Ag Try.prog 58 5 := fun w => ⟨Try.isAgg58 w, Try.sizeOf58 w⟩
theorem ag94 : Ag Try.prog 94 4 := fun w => ⟨Try.isAgg94 w, Try.sizeOf94 w⟩
theorem fa26_0 : FldAt Try.prog 26 0 0 := FldAt.mk Try.underlying26 rfl rfl Try.sizeOf3 (by decide)
theorem fa26_1 : FldAt Try.prog 26 1 1 := FldAt.mk Try.underlying26 rfl rfl Try.sizeOf3 (by decide)
theorem fa40_0 : FldAt Try.prog 40 0 0 := FldAt.mk Try.underlying40 rfl rfl Try.sizeOf26 (by decide)
theorem fa40_2 : FldAt Try.prog 40 2 3 := FldAt.mk Try.underlying40 rfl rfl Try.sizeOf31 (by decide)
theorem fa48_0 : FldAt Try.prog 48 0 0 := FldAt.mk Try.underlying48 rfl rfl Try.sizeOf3 (by decide)
theorem fa48_1 : FldAt Try.prog 48 1 1 := FldAt.mk Try.underlying48 rfl rfl Try.sizeOf3 (by decide)
theorem fa48_2 : FldAt Try.prog 48 2 2 := FldAt.mk Try.underlying48 rfl rfl Try.sizeOf31 (by decide)
theorem fa48_3 : FldAt Try.prog 48 3 3 := FldAt.mk Try.underlying48 rfl rfl Try.sizeOf26 (by decide)
theorem fa53_0 : FldAt Try.prog 53 0 0 := FldAt.mk Try.underlying53 rfl rfl Try.sizeOf51 (by decide)
theorem fa58_0 : FldAt Try.prog 58 0 0 := FldAt.mk Try.underlying58 rfl rfl Try.sizeOf26 (by decide)
theorem fa58_1 : FldAt Try.prog 58 1 2 := FldAt.mk Try.underlying58 rfl rfl Try.sizeOf3 (by decide)
theorem fa58_2 : FldAt Try.prog 58 2 3 := FldAt.mk Try.underlying58 rfl rfl Try.sizeOf31 (by decide)
theorem fa58_3 : FldAt Try.prog 58 3 4 := FldAt.mk Try.underlying58 rfl rfl Try.sizeOf4 (by decide)
theorem fa63_0 : FldAt Try.prog 63 0 0 := FldAt.mk Try.underlying63 rfl rfl Try.sizeOf60 (by decide)
theorem fa63_1 : FldAt Try.prog 63 1 1 := FldAt.mk Try.underlying63 rfl rfl Try.sizeOf61 (by decide)
theorem fa89_0 : FldAt Try.prog 89 0 0 := FldAt.mk Try.underlying89 rfl rfl Try.sizeOf61 (by decide)
theorem fa89_1 : FldAt Try.prog 89 1 1 := FldAt.mk Try.underlying89 rfl rfl Try.sizeOf36 (by decide)
theorem fa89_2 : FldAt Try.prog 89 2 2 := FldAt.mk Try.underlying89 rfl rfl Try.sizeOf87 (by decide)
theorem fa91_0 : FldAt Try.prog 91 0 0 := FldAt.mk Try.underlying91 rfl rfl Try.sizeOf4 (by decide)
theorem fa91_1 : FldAt Try.prog 91 1 1 := FldAt.mk Try.underlying91 rfl rfl Try.sizeOf86 (by decide)
theorem fa91_2 : FldAt Try.prog 91 2 2 := FldAt.mk Try.underlying91 rfl rfl Try.sizeOf30 (by decide)
theorem fa91_3 : FldAt Try.prog 91 3 3 := FldAt.mk Try.underlying91 rfl rfl Try.sizeOf89 (by decide)
theorem fa94_0 : FldAt Try.prog 94 0 0 := FldAt.mk Try.underlying94 rfl rfl Try.sizeOf31 (by decide)
theorem fa94_1 : FldAt Try.prog 94 1 1 := FldAt.mk Try.underlying94 rfl rfl Try.sizeOf3 (by decide)
theorem fa94_2 : FldAt Try.prog 94 2 2 := FldAt.mk Try.underlying94 rfl rfl Try.sizeOf30 (by decide)
theorem fa94_3 : FldAt Try.prog 94 3 3 := FldAt.mk Try.underlying94 rfl rfl Try.sizeOf3 (by decide)
theorem pl26 : Places Try.prog 26 [(0, 1), (1, 1)] := ⟨_, Try.underlying26, fun w => by simp [Try.sizeOf3]⟩
theorem pl40 : Places Try.prog 40 [(0, 2), (2, 1), (3, 1)] := ⟨_, Try.underlying40, fun w => by simp [Try.sizeOf26, Try.sizeOf3, Try.sizeOf31]⟩
theorem pl53 : Places Try.prog 53 [(0, 1)] := ⟨_, Try.underlying53, fun w => by simp [Try.sizeOf51]⟩
theorem pl58 : Places Try.prog 58 [(0, 2), (2, 1), (3, 1), (4, 1)] := ⟨_, Try.underlying58, fun w => by simp [Try.sizeOf26, Try.sizeOf3, Try.sizeOf31, Try.sizeOf4]⟩
theorem pl63 : Places Try.prog 63 [(0, 1), (1, 1)] := ⟨_, Try.underlying63, fun w => by simp [Try.sizeOf60, Try.sizeOf61]⟩
theorem pl91 : Places Try.prog 91 [(0, 1), (1, 1), (2, 1), (3, 3)] := ⟨_, Try.underlying91, fun w => by simp [Try.sizeOf30, Try.sizeOf4, Try.sizeOf86, Try.sizeOf89]⟩
theorem pl94 : Places Try.prog 94 [(0, 1), (1, 1), (2, 1), (3, 1)] := ⟨_, Try.underlying94, fun w => by simp [Try.sizeOf3, Try.sizeOf30, Try.sizeOf31]⟩
theorem sc3 : Sc Try.prog 3 := fun w => ⟨Try.isAgg3 w, Try.sizeOf3 w⟩
theorem sc4 : Sc Try.prog 4 := fun w => ⟨Try.isAgg4 w, Try.sizeOf4 w⟩
theorem sc23 : Sc Try.prog 23 := fun w => ⟨Try.isAgg23 w, Try.sizeOf23 w⟩
theorem sc30 : Sc Try.prog 30 := fun w => ⟨Try.isAgg30 w, Try.sizeOf30 w⟩
theorem sc31 : Sc Try.prog 31 := fun w => ⟨Try.isAgg31 w, Try.sizeOf31 w⟩
theorem sc36 : Sc Try.prog 36 := fun w => ⟨Try.isAgg36 w, Try.sizeOf36 w⟩
theorem sc51 : Sc Try.prog 51 := fun w => ⟨Try.isAgg51 w, Try.sizeOf51 w⟩
theorem sc60 : Sc Try.prog 60 := fun w => ⟨Try.isAgg60 w, Try.sizeOf60 w⟩
theorem sc61 : Sc Try.prog 61 := fun w => ⟨Try.isAgg61 w, Try.sizeOf61 w⟩
theorem sc86 : Sc Try.prog 86 := fun w => ⟨Try.isAgg86 w, Try.sizeOf86 w⟩
theorem sc87 : Sc Try.prog 87 := fun w => ⟨Try.isAgg87 w, Try.sizeOf87 w⟩
set_option linter.unusedSimpArgs false in
theorem eqin26_10000 (a0 b0 : Int) (a1 b1 : Int) (w : World) : (Op.equalIn 10000 26 (.agg #[.int .i64 a0, .int .i64 a1]) (.agg #[.int .i64 b0, .int .i64 b1])).run Try.prog w = .ok (decide (a0 = b0 ∧ a1 = b1)) w := by
  rw [run_equalIn_struct w 9999 26 _ _ (by simp [Program.fieldsOf, Try.underlying26]) Try.stoodInHeld26]
  by_cases h0 : a0 = b0 <;> by_cases h1 : a1 = b1 <;> simp [Program.fieldsOf, Try.underlying26, Op.eqFields, part, Try.isAgg3, run_equalIn_int w 9998 3 .i64 .i64 _ _ Try.underlying3, h0, h1]
theorem seq26 (a0 b0 : Int) (a1 b1 : Int) (w : World) : (binOp .eql 26 (.agg #[.int .i64 a0, .int .i64 a1]) (.agg #[.int .i64 b0, .int .i64 b1])).run Try.prog w = .ok (.bool (decide (a0 = b0 ∧ a1 = b1))) w := by
  rw [run_eql_struct, eqin26_10000]
  rfl
theorem R_seq26 {X : Ctx} {E : Env} {H : Heap} {o : Oper} {x y : Operand} {t' : TypeId} {a0 b0 : Int} {a1 b1 : Int} (hP : X.P = Try.prog) (ho : o.op = .binOp .eql 26 x y t') (hx : ev E x = some (.agg #[.int .i64 a0, .int .i64 a1])) (hy : ev E y = some (.agg #[.int .i64 b0, .int .i64 b1])) : Runs X o E H (.bool (decide (a0 = b0 ∧ a1 = b1))) :=
  R_bin ho hx hy (fun w => by rw [hP]; exact run_eqGuard_agg w _ 26 x y _ _ Try.eqGuardType26) (fun w => by rw [hP]; exact seq26 a0 b0 a1 b1 w)
theorem sne26 (a0 b0 : Int) (a1 b1 : Int) (w : World) : (binOp .neq 26 (.agg #[.int .i64 a0, .int .i64 a1]) (.agg #[.int .i64 b0, .int .i64 b1])).run Try.prog w = .ok (.bool (decide (¬ (a0 = b0 ∧ a1 = b1)))) w := by
  rw [run_neq_struct, eqin26_10000]
  simp
theorem R_sne26 {X : Ctx} {E : Env} {H : Heap} {o : Oper} {x y : Operand} {t' : TypeId} {a0 b0 : Int} {a1 b1 : Int} (hP : X.P = Try.prog) (ho : o.op = .binOp .neq 26 x y t') (hx : ev E x = some (.agg #[.int .i64 a0, .int .i64 a1])) (hy : ev E y = some (.agg #[.int .i64 b0, .int .i64 b1])) : Runs X o E H (.bool (decide (¬ (a0 = b0 ∧ a1 = b1)))) :=
  R_bin ho hx hy (fun w => by rw [hP]; exact run_eqGuard_agg w _ 26 x y _ _ Try.eqGuardType26) (fun w => by rw [hP]; exact sne26 a0 b0 a1 b1 w)
set_option linter.unusedSimpArgs false in
theorem eqin26_9999 (a0 b0 : Int) (a1 b1 : Int) (w : World) : (Op.equalIn 9999 26 (.agg #[.int .i64 a0, .int .i64 a1]) (.agg #[.int .i64 b0, .int .i64 b1])).run Try.prog w = .ok (decide (a0 = b0 ∧ a1 = b1)) w := by
  rw [run_equalIn_struct w 9998 26 _ _ (by simp [Program.fieldsOf, Try.underlying26]) Try.stoodInHeld26]
  by_cases h0 : a0 = b0 <;> by_cases h1 : a1 = b1 <;> simp [Program.fieldsOf, Try.underlying26, Op.eqFields, part, Try.isAgg3, run_equalIn_int w 9997 3 .i64 .i64 _ _ Try.underlying3, h0, h1]
set_option linter.unusedSimpArgs false in
theorem eqin40_10000 (a0 b0 : Int) (a1 b1 : Int) (a2 b2 : Int) (a3 b3 : Int) (w : World) : (Op.equalIn 10000 40 (.agg #[.int .i64 a0, .int .i64 a1, .int .i64 a2, .int .u64 a3]) (.agg #[.int .i64 b0, .int .i64 b1, .int .i64 b2, .int .u64 b3])).run Try.prog w = .ok (decide (a0 = b0 ∧ a1 = b1 ∧ a2 = b2 ∧ a3 = b3)) w := by
  rw [run_equalIn_struct w 9999 40 _ _ (by simp [Program.fieldsOf, Try.underlying40]) Try.stoodInHeld40]
  by_cases h0 : a0 = b0 <;> by_cases h1 : a1 = b1 <;> by_cases h2 : a2 = b2 <;> by_cases h3 : a3 = b3 <;> simp [Program.fieldsOf, Try.underlying40, Op.eqFields, part, Try.isAgg26, Try.isAgg3, Try.isAgg31, Try.sizeOf26, eqin26_9999, run_equalIn_int w 9998 3 .i64 .i64 _ _ Try.underlying3, run_equalIn_int w 9998 31 .u64 .u64 _ _ Try.underlying31, h0, h1, h2, h3]
theorem seq40 (a0 b0 : Int) (a1 b1 : Int) (a2 b2 : Int) (a3 b3 : Int) (w : World) : (binOp .eql 40 (.agg #[.int .i64 a0, .int .i64 a1, .int .i64 a2, .int .u64 a3]) (.agg #[.int .i64 b0, .int .i64 b1, .int .i64 b2, .int .u64 b3])).run Try.prog w = .ok (.bool (decide (a0 = b0 ∧ a1 = b1 ∧ a2 = b2 ∧ a3 = b3))) w := by
  rw [run_eql_struct, eqin40_10000]
  rfl
theorem R_seq40 {X : Ctx} {E : Env} {H : Heap} {o : Oper} {x y : Operand} {t' : TypeId} {a0 b0 : Int} {a1 b1 : Int} {a2 b2 : Int} {a3 b3 : Int} (hP : X.P = Try.prog) (ho : o.op = .binOp .eql 40 x y t') (hx : ev E x = some (.agg #[.int .i64 a0, .int .i64 a1, .int .i64 a2, .int .u64 a3])) (hy : ev E y = some (.agg #[.int .i64 b0, .int .i64 b1, .int .i64 b2, .int .u64 b3])) : Runs X o E H (.bool (decide (a0 = b0 ∧ a1 = b1 ∧ a2 = b2 ∧ a3 = b3))) :=
  R_bin ho hx hy (fun w => by rw [hP]; exact run_eqGuard_agg w _ 40 x y _ _ Try.eqGuardType40) (fun w => by rw [hP]; exact seq40 a0 b0 a1 b1 a2 b2 a3 b3 w)
theorem sne40 (a0 b0 : Int) (a1 b1 : Int) (a2 b2 : Int) (a3 b3 : Int) (w : World) : (binOp .neq 40 (.agg #[.int .i64 a0, .int .i64 a1, .int .i64 a2, .int .u64 a3]) (.agg #[.int .i64 b0, .int .i64 b1, .int .i64 b2, .int .u64 b3])).run Try.prog w = .ok (.bool (decide (¬ (a0 = b0 ∧ a1 = b1 ∧ a2 = b2 ∧ a3 = b3)))) w := by
  rw [run_neq_struct, eqin40_10000]
  simp
theorem R_sne40 {X : Ctx} {E : Env} {H : Heap} {o : Oper} {x y : Operand} {t' : TypeId} {a0 b0 : Int} {a1 b1 : Int} {a2 b2 : Int} {a3 b3 : Int} (hP : X.P = Try.prog) (ho : o.op = .binOp .neq 40 x y t') (hx : ev E x = some (.agg #[.int .i64 a0, .int .i64 a1, .int .i64 a2, .int .u64 a3])) (hy : ev E y = some (.agg #[.int .i64 b0, .int .i64 b1, .int .i64 b2, .int .u64 b3])) : Runs X o E H (.bool (decide (¬ (a0 = b0 ∧ a1 = b1 ∧ a2 = b2 ∧ a3 = b3)))) :=
  R_bin ho hx hy (fun w => by rw [hP]; exact run_eqGuard_agg w _ 40 x y _ _ Try.eqGuardType40) (fun w => by rw [hP]; exact sne40 a0 b0 a1 b1 a2 b2 a3 b3 w)
theorem inf38 : Try.prog.info? 40 = some Try.t40 := by kernel_rfl
theorem si38 : SI Try.prog 38 40 4 32 [.int .i64 0, .int .i64 0, .int .i64 0, .int .u64 0] := ⟨Try.underlying38, Try.t40, _, inf38, rfl, rfl, rfl, rfl, rfl, by decide⟩
theorem inf46 : Try.prog.info? 26 = some Try.t26 := by kernel_rfl
theorem si46 : SI Try.prog 46 26 2 16 [.int .i64 0, .int .i64 0] := ⟨Try.underlying46, Try.t26, _, inf46, rfl, rfl, rfl, rfl, rfl, by decide⟩
theorem inf51 : Try.prog.info? 58 = some Try.t58 := by kernel_rfl
theorem si51 : SI Try.prog 51 58 5 40 [.int .i64 0, .int .i64 0, .int .i64 0, .int .u64 0, .bool false] := ⟨Try.underlying51, Try.t58, _, inf51, rfl, rfl, rfl, rfl, rfl, by decide⟩
theorem inf61 : Try.prog.info? 3 = some Try.t3 := by kernel_rfl
theorem si61 : SI Try.prog 61 3 1 8 [.int .i64 0] := ⟨Try.underlying61, Try.t3, _, inf61, rfl, rfl, rfl, rfl, rfl, by decide⟩
theorem inf64 : Try.prog.info? 23 = some Try.t23 := by kernel_rfl
theorem si64 : SI Try.prog 64 23 1 8 [.pointer none] := ⟨Try.underlying64, Try.t23, _, inf64, rfl, rfl, rfl, rfl, rfl, by decide⟩
theorem inf86 : Try.prog.info? 94 = some Try.t94 := by kernel_rfl
theorem si86 : SI Try.prog 86 94 4 32 [.int .u64 0, .int .i64 0, .int .u64 0, .int .i64 0] := ⟨Try.underlying86, Try.t94, _, inf86, rfl, rfl, rfl, rfl, rfl, by decide⟩
theorem zv26 : Zv Try.prog 26 [.int .i64 0, .int .i64 0] := ⟨_, rfl, Try.zeroValue26⟩
theorem zv40 : Zv Try.prog 40 [.int .i64 0, .int .i64 0, .int .i64 0, .int .u64 0] := ⟨_, rfl, Try.zeroValue40⟩
theorem zv48 : Zv Try.prog 48 [.int .i64 0, .int .i64 0, .int .u64 0, .int .i64 0, .int .i64 0] := ⟨_, rfl, Try.zeroValue48⟩
theorem zv53 : Zv Try.prog 53 [.slice none 0 0] := ⟨_, rfl, Try.zeroValue53⟩
theorem zv58 : Zv Try.prog 58 [.int .i64 0, .int .i64 0, .int .i64 0, .int .u64 0, .bool false] := ⟨_, rfl, Try.zeroValue58⟩
theorem zv63 : Zv Try.prog 63 [.pointer none, .slice none 0 0] := ⟨_, rfl, Try.zeroValue63⟩
theorem zv91 : Zv Try.prog 91 [.bool false, .slice none 0 0, .int .u64 0, .slice none 0 0, .nilFunc, .nilFunc] := ⟨_, rfl, Try.zeroValue91⟩
theorem zv94 : Zv Try.prog 94 [.int .u64 0, .int .i64 0, .int .u64 0, .int .i64 0] := ⟨_, rfl, Try.zeroValue94⟩
end Go.Proofs.Ytbaagjiailmlhaa
