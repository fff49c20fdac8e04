/-
  What the tables of types say.
-/
import Derived.Test.YtafjfllcebdjdaaRows
import Derived.Test.YtafjfllcebdjdaaSLArr
namespace Go.Proofs.Ytafjfllcebdjdaa
theorem followsMixed : Try.prog.follows .mixedOrders = true := by kernel_rfl
theorem ag26 : Ag Try.prog 26 7 := fun w => ⟨Try.isAgg26 w, Try.sizeOf26 w⟩
theorem ag54 : Ag Try.prog 54 9 := fun w => ⟨Try.isAgg54 w, Try.sizeOf54 w⟩
theorem ag58 : Ag Try.prog 58 4 := fun w => ⟨Try.isAgg58 w, Try.sizeOf58 w⟩
theorem ag62 : Ag Try.prog 62 5 := fun w => ⟨Try.isAgg62 w, Try.sizeOf62 w⟩
theorem ag64 : Ag Try.prog 64 10 := fun w => ⟨Try.isAgg64 w, Try.sizeOf64 w⟩
theorem fa26_0 : FldAt Try.prog 26 0 0 := FldAt.mk Try.underlying26 rfl rfl Try.sizeOf23 (by decide)
theorem fa26_1 : FldAt Try.prog 26 1 1 := FldAt.mk Try.underlying26 rfl rfl Try.sizeOf23 (by decide)
theorem fa26_2 : FldAt Try.prog 26 2 2 := FldAt.mk Try.underlying26 rfl rfl Try.sizeOf3 (by decide)
theorem fa26_3 : FldAt Try.prog 26 3 3 := FldAt.mk Try.underlying26 rfl rfl Try.sizeOf3 (by decide)
theorem fa26_4 : FldAt Try.prog 26 4 4 := FldAt.mk Try.underlying26 rfl rfl Try.sizeOf3 (by decide)
theorem fa26_5 : FldAt Try.prog 26 5 5 := FldAt.mk Try.underlying26 rfl rfl Try.sizeOf3 (by decide)
theorem fa26_6 : FldAt Try.prog 26 6 6 := FldAt.mk Try.underlying26 rfl rfl Try.sizeOf24 (by decide)
theorem fa54_0 : FldAt Try.prog 54 0 0 := FldAt.mk Try.underlying54 rfl rfl Try.sizeOf3 (by decide)
theorem fa54_1 : FldAt Try.prog 54 1 1 := FldAt.mk Try.underlying54 rfl rfl Try.sizeOf3 (by decide)
theorem fa54_2 : FldAt Try.prog 54 2 2 := FldAt.mk Try.underlying54 rfl rfl Try.sizeOf3 (by decide)
theorem fa54_3 : FldAt Try.prog 54 3 3 := FldAt.mk Try.underlying54 rfl rfl Try.sizeOf3 (by decide)
theorem fa54_4 : FldAt Try.prog 54 4 4 := FldAt.mk Try.underlying54 rfl rfl Try.sizeOf3 (by decide)
theorem fa54_5 : FldAt Try.prog 54 5 5 := FldAt.mk Try.underlying54 rfl rfl Try.sizeOf23 (by decide)
theorem fa54_6 : FldAt Try.prog 54 6 6 := FldAt.mk Try.underlying54 rfl rfl Try.sizeOf23 (by decide)
theorem fa54_7 : FldAt Try.prog 54 7 7 := FldAt.mk Try.underlying54 rfl rfl Try.sizeOf23 (by decide)
theorem fa54_8 : FldAt Try.prog 54 8 8 := FldAt.mk Try.underlying54 rfl rfl Try.sizeOf48 (by decide)
theorem fa58_0 : FldAt Try.prog 58 0 0 := FldAt.mk Try.underlying58 rfl rfl Try.sizeOf3 (by decide)
theorem fa58_1 : FldAt Try.prog 58 1 1 := FldAt.mk Try.underlying58 rfl rfl Try.sizeOf3 (by decide)
theorem fa58_2 : FldAt Try.prog 58 2 2 := FldAt.mk Try.underlying58 rfl rfl Try.sizeOf23 (by decide)
theorem fa58_3 : FldAt Try.prog 58 3 3 := FldAt.mk Try.underlying58 rfl rfl Try.sizeOf4 (by decide)
theorem fa62_0 : FldAt Try.prog 62 0 0 := FldAt.mk Try.underlying62 rfl rfl Try.sizeOf48 (by decide)
theorem fa62_1 : FldAt Try.prog 62 1 1 := FldAt.mk Try.underlying62 rfl rfl Try.sizeOf23 (by decide)
theorem fa62_2 : FldAt Try.prog 62 2 2 := FldAt.mk Try.underlying62 rfl rfl Try.sizeOf3 (by decide)
theorem fa62_3 : FldAt Try.prog 62 3 3 := FldAt.mk Try.underlying62 rfl rfl Try.sizeOf3 (by decide)
theorem fa62_4 : FldAt Try.prog 62 4 4 := FldAt.mk Try.underlying62 rfl rfl Try.sizeOf3 (by decide)
theorem fa64_0 : FldAt Try.prog 64 0 0 := FldAt.mk Try.underlying64 rfl rfl Try.sizeOf3 (by decide)
theorem fa64_1 : FldAt Try.prog 64 1 1 := FldAt.mk Try.underlying64 rfl rfl Try.sizeOf3 (by decide)
theorem fa64_2 : FldAt Try.prog 64 2 2 := FldAt.mk Try.underlying64 rfl rfl Try.sizeOf23 (by decide)
theorem fa64_3 : FldAt Try.prog 64 3 3 := FldAt.mk Try.underlying64 rfl rfl Try.sizeOf23 (by decide)
theorem fa64_4 : FldAt Try.prog 64 4 4 := FldAt.mk Try.underlying64 rfl rfl Try.sizeOf3 (by decide)
theorem fa64_5 : FldAt Try.prog 64 5 5 := FldAt.mk Try.underlying64 rfl rfl Try.sizeOf62 (by decide)
theorem pl26 : Places Try.prog 26 [(0, 1), (1, 1), (2, 1), (3, 1), (4, 1), (5, 1), (6, 1)] := ⟨_, Try.underlying26, fun w => by simp [Try.sizeOf23, Try.sizeOf24, Try.sizeOf3]⟩
theorem pl54 : Places Try.prog 54 [(0, 1), (1, 1), (2, 1), (3, 1), (4, 1), (5, 1), (6, 1), (7, 1), (8, 1)] := ⟨_, Try.underlying54, fun w => by simp [Try.sizeOf23, Try.sizeOf3, Try.sizeOf48]⟩
theorem pl62 : Places Try.prog 62 [(0, 1), (1, 1), (2, 1), (3, 1), (4, 1)] := ⟨_, Try.underlying62, fun w => by simp [Try.sizeOf23, Try.sizeOf3, Try.sizeOf48]⟩
theorem pl64 : Places Try.prog 64 [(0, 1), (1, 1), (2, 1), (3, 1), (4, 1), (5, 5)] := ⟨_, Try.underlying64, fun w => by simp [Try.sizeOf23, Try.sizeOf3, Try.sizeOf62]⟩
theorem sc3 : Sc Try.prog 3 := fun w => ⟨Try.isAgg3 w, Try.sizeOf3 w⟩
theorem sc4 : Sc Try.prog 4 := fun w => ⟨Try.isAgg4 w, Try.sizeOf4 w⟩
theorem sc23 : Sc Try.prog 23 := fun w => ⟨Try.isAgg23 w, Try.sizeOf23 w⟩
theorem sc24 : Sc Try.prog 24 := fun w => ⟨Try.isAgg24 w, Try.sizeOf24 w⟩
theorem sc27 : Sc Try.prog 27 := fun w => ⟨Try.isAgg27 w, Try.sizeOf27 w⟩
theorem sc30 : Sc Try.prog 30 := fun w => ⟨Try.isAgg30 w, Try.sizeOf30 w⟩
theorem sc41 : Sc Try.prog 41 := fun w => ⟨Try.isAgg41 w, Try.sizeOf41 w⟩
theorem sc48 : Sc Try.prog 48 := fun w => ⟨Try.isAgg48 w, Try.sizeOf48 w⟩
theorem inf30 : Try.prog.info? 23 = some Try.t23 := by kernel_rfl
theorem si30 : SI Try.prog 30 23 1 8 [.int .u64 0] := ⟨Try.underlying30, Try.t23, _, inf30, rfl, rfl, rfl, rfl, rfl, by decide⟩
theorem inf65 : Try.prog.info? 41 = some Try.t41 := by kernel_rfl
theorem si65 : SI Try.prog 65 41 1 8 [.pointer none] := ⟨Try.underlying65, Try.t41, _, inf65, rfl, rfl, rfl, rfl, rfl, by decide⟩
theorem zv23 : Zv Try.prog 23 [.int .u64 0] := ⟨_, rfl, Try.zeroValue23⟩
theorem zv26 : Zv Try.prog 26 [.int .u64 0, .int .u64 0, .int .i64 0, .int .i64 0, .int .i64 0, .int .i64 0, .int .u32 0] := ⟨_, rfl, Try.zeroValue26⟩
theorem zv27 : Zv Try.prog 27 [.int .i64 0] := ⟨_, rfl, Try.zeroValue27⟩
theorem zv30 : Zv Try.prog 30 [.slice none 0 0] := ⟨_, rfl, Try.zeroValue30⟩
theorem zv54 : Zv Try.prog 54 [.int .i64 0, .int .i64 0, .int .i64 0, .int .i64 0, .int .i64 0, .int .u64 0, .int .u64 0, .int .u64 0, .int .i64 0] := ⟨_, rfl, Try.zeroValue54⟩
theorem zv62 : Zv Try.prog 62 [.int .i64 0, .int .u64 0, .int .i64 0, .int .i64 0, .int .i64 0] := ⟨_, rfl, Try.zeroValue62⟩
theorem zv64 : Zv Try.prog 64 [.int .i64 0, .int .i64 0, .int .u64 0, .int .u64 0, .int .i64 0, .int .i64 0, .int .u64 0, .int .i64 0, .int .i64 0, .int .i64 0] := ⟨_, rfl, Try.zeroValue64⟩
end Go.Proofs.Ytafjfllcebdjdaa
