/-
  What the tables of types say.
-/
import Derived.Test.YtliffiahoolemaaRows
import Derived.Test.YtliffiahoolemaaSLArr
namespace Go.Proofs.Ytliffiahoolemaa
theorem followsMixed : Try.prog.follows .mixedOrders = true := by kernel_rfl
theorem ag36 : Ag Try.prog 36 4 := fun w => ⟨Try.isAgg36 w, Try.sizeOf36 w⟩
theorem ag46 : Ag Try.prog 46 1 := fun w => ⟨Try.isAgg46 w, Try.sizeOf46 w⟩
theorem ag66 : Ag Try.prog 66 4 := fun w => ⟨Try.isAgg66 w, Try.sizeOf66 w⟩
theorem fa36_0 : FldAt Try.prog 36 0 0 := FldAt.mk Try.underlying36 rfl rfl Try.sizeOf3 (by decide)
theorem fa36_1 : FldAt Try.prog 36 1 1 := FldAt.mk Try.underlying36 rfl rfl Try.sizeOf3 (by decide)
theorem fa36_2 : FldAt Try.prog 36 2 2 := FldAt.mk Try.underlying36 rfl rfl Try.sizeOf3 (by decide)
theorem fa36_3 : FldAt Try.prog 36 3 3 := FldAt.mk Try.underlying36 rfl rfl Try.sizeOf29 (by decide)
theorem fa46_0 : FldAt Try.prog 46 0 0 := FldAt.mk Try.underlying46 rfl rfl Try.sizeOf44 (by decide)
theorem fa57_0 : FldAt Try.prog 57 0 0 := FldAt.mk Try.underlying57 rfl rfl Try.sizeOf39 (by decide)
theorem fa57_1 : FldAt Try.prog 57 1 1 := FldAt.mk Try.underlying57 rfl rfl Try.sizeOf32 (by decide)
theorem fa57_2 : FldAt Try.prog 57 2 2 := FldAt.mk Try.underlying57 rfl rfl Try.sizeOf55 (by decide)
theorem fa59_0 : FldAt Try.prog 59 0 0 := FldAt.mk Try.underlying59 rfl rfl Try.sizeOf4 (by decide)
theorem fa59_1 : FldAt Try.prog 59 1 1 := FldAt.mk Try.underlying59 rfl rfl Try.sizeOf54 (by decide)
theorem fa59_2 : FldAt Try.prog 59 2 2 := FldAt.mk Try.underlying59 rfl rfl Try.sizeOf28 (by decide)
theorem fa59_3 : FldAt Try.prog 59 3 3 := FldAt.mk Try.underlying59 rfl rfl Try.sizeOf57 (by decide)
theorem fa66_0 : FldAt Try.prog 66 0 0 := FldAt.mk Try.underlying66 rfl rfl Try.sizeOf29 (by decide)
theorem fa66_1 : FldAt Try.prog 66 1 1 := FldAt.mk Try.underlying66 rfl rfl Try.sizeOf3 (by decide)
theorem fa66_2 : FldAt Try.prog 66 2 2 := FldAt.mk Try.underlying66 rfl rfl Try.sizeOf28 (by decide)
theorem fa66_3 : FldAt Try.prog 66 3 3 := FldAt.mk Try.underlying66 rfl rfl Try.sizeOf3 (by decide)
theorem fa80_0 : FldAt Try.prog 80 0 0 := FldAt.mk Try.underlying80 rfl rfl Try.sizeOf3 (by decide)
theorem fa80_1 : FldAt Try.prog 80 1 1 := FldAt.mk Try.underlying80 rfl rfl Try.sizeOf3 (by decide)
theorem fa80_2 : FldAt Try.prog 80 2 2 := FldAt.mk Try.underlying80 rfl rfl Try.sizeOf29 (by decide)
theorem pl46 : Places Try.prog 46 [(0, 1)] := ⟨_, Try.underlying46, fun w => by simp [Try.sizeOf44]⟩
theorem pl59 : Places Try.prog 59 [(0, 1), (1, 1), (2, 1), (3, 3)] := ⟨_, Try.underlying59, fun w => by simp [Try.sizeOf28, Try.sizeOf4, Try.sizeOf54, Try.sizeOf57]⟩
theorem pl66 : Places Try.prog 66 [(0, 1), (1, 1), (2, 1), (3, 1)] := ⟨_, Try.underlying66, fun w => by simp [Try.sizeOf28, Try.sizeOf29, Try.sizeOf3]⟩
theorem pl80 : Places Try.prog 80 [(0, 1), (1, 1), (2, 1)] := ⟨_, Try.underlying80, fun w => by simp [Try.sizeOf29, Try.sizeOf3]⟩
theorem sc3 : Sc Try.prog 3 := fun w => ⟨Try.isAgg3 w, Try.sizeOf3 w⟩
theorem sc4 : Sc Try.prog 4 := fun w => ⟨Try.isAgg4 w, Try.sizeOf4 w⟩
theorem sc23 : Sc Try.prog 23 := fun w => ⟨Try.isAgg23 w, Try.sizeOf23 w⟩
theorem sc28 : Sc Try.prog 28 := fun w => ⟨Try.isAgg28 w, Try.sizeOf28 w⟩
theorem sc29 : Sc Try.prog 29 := fun w => ⟨Try.isAgg29 w, Try.sizeOf29 w⟩
theorem sc32 : Sc Try.prog 32 := fun w => ⟨Try.isAgg32 w, Try.sizeOf32 w⟩
theorem sc39 : Sc Try.prog 39 := fun w => ⟨Try.isAgg39 w, Try.sizeOf39 w⟩
theorem sc44 : Sc Try.prog 44 := fun w => ⟨Try.isAgg44 w, Try.sizeOf44 w⟩
theorem sc54 : Sc Try.prog 54 := fun w => ⟨Try.isAgg54 w, Try.sizeOf54 w⟩
theorem sc55 : Sc Try.prog 55 := fun w => ⟨Try.isAgg55 w, Try.sizeOf55 w⟩
theorem inf39 : Try.prog.info? 3 = some Try.t3 := by kernel_rfl
theorem si39 : SI Try.prog 39 3 1 8 [.int .i64 0] := ⟨Try.underlying39, Try.t3, _, inf39, rfl, rfl, rfl, rfl, rfl, by decide⟩
theorem inf44 : Try.prog.info? 80 = some Try.t80 := by kernel_rfl
theorem si44 : SI Try.prog 44 80 3 24 [.int .i64 0, .int .i64 0, .int .u64 0] := ⟨Try.underlying44, Try.t80, _, inf44, rfl, rfl, rfl, rfl, rfl, by decide⟩
theorem inf54 : Try.prog.info? 66 = some Try.t66 := by kernel_rfl
theorem si54 : SI Try.prog 54 66 4 32 [.int .u64 0, .int .i64 0, .int .u64 0, .int .i64 0] := ⟨Try.underlying54, Try.t66, _, inf54, rfl, rfl, rfl, rfl, rfl, by decide⟩
theorem inf60 : Try.prog.info? 23 = some Try.t23 := by kernel_rfl
theorem si60 : SI Try.prog 60 23 1 8 [.pointer none] := ⟨Try.underlying60, Try.t23, _, inf60, rfl, rfl, rfl, rfl, rfl, by decide⟩
theorem zv3 : Zv Try.prog 3 [.int .i64 0] := ⟨_, rfl, Try.zeroValue3⟩
theorem zv4 : Zv Try.prog 4 [.bool false] := ⟨_, rfl, Try.zeroValue4⟩
theorem zv34 : Zv Try.prog 34 [.int .i64 0, .int .i64 0, .int .i64 0, .int .i64 0, .int .i64 0, .int .i64 0, .int .i64 0, .int .i64 0, .int .i64 0, .int .i64 0, .int .i64 0, .int .i64 0, .int .i64 0, .int .i64 0, .int .i64 0, .int .i64 0, .int .i64 0, .int .i64 0, .int .i64 0, .int .i64 0, .int .i64 0, .int .i64 0, .int .i64 0, .int .i64 0, .int .i64 0, .int .i64 0, .int .i64 0, .int .i64 0, .int .i64 0, .int .i64 0, .int .i64 0, .int .i64 0, .int .i64 0, .int .i64 0, .int .i64 0, .int .i64 0, .int .i64 0, .int .i64 0, .int .i64 0, .int .i64 0, .int .i64 0, .int .i64 0, .int .i64 0, .int .i64 0, .int .i64 0, .int .i64 0, .int .i64 0, .int .i64 0, .int .i64 0, .int .i64 0, .int .i64 0, .int .i64 0, .int .i64 0, .int .i64 0, .int .i64 0, .int .i64 0, .int .i64 0, .int .i64 0, .int .i64 0, .int .i64 0, .int .i64 0, .int .i64 0, .int .i64 0, .int .i64 0] := ⟨_, rfl, Try.zeroValue34⟩
theorem zv36 : Zv Try.prog 36 [.int .i64 0, .int .i64 0, .int .i64 0, .int .u64 0] := ⟨_, rfl, Try.zeroValue36⟩
theorem zv39 : Zv Try.prog 39 [.slice none 0 0] := ⟨_, rfl, Try.zeroValue39⟩
theorem zv46 : Zv Try.prog 46 [.slice none 0 0] := ⟨_, rfl, Try.zeroValue46⟩
theorem zv59 : Zv Try.prog 59 [.bool false, .slice none 0 0, .int .u64 0, .slice none 0 0, .nilFunc, .nilFunc] := ⟨_, rfl, Try.zeroValue59⟩
theorem zv66 : Zv Try.prog 66 [.int .u64 0, .int .i64 0, .int .u64 0, .int .i64 0] := ⟨_, rfl, Try.zeroValue66⟩
theorem zv80 : Zv Try.prog 80 [.int .i64 0, .int .i64 0, .int .u64 0] := ⟨_, rfl, Try.zeroValue80⟩
theorem zv85 : Zv Try.prog 85 (List.replicate 1025 (.int .i64 0)) := ⟨_, by kernel_rfl, Try.zeroValue85⟩
end Go.Proofs.Ytliffiahoolemaa
