/-
  What the tables of types say.
-/
import Derived.Test.YteofigbgdbpjgaaRows
import Derived.Test.YteofigbgdbpjgaaSLMapJ
namespace Go.Proofs.Yteofigbgdbpjgaa
theorem followsMixed : Try.prog.follows .mixedOrders = true := by kernel_rfl
theorem ag7 : Ag Try.prog 7 4 := fun w => ⟨Try.isAgg7 w, Try.sizeOf7 w⟩
theorem ag13 : Ag Try.prog 13 2 := fun w => ⟨Try.isAgg13 w, Try.sizeOf13 w⟩
theorem ag18 : Ag Try.prog 18 1 := fun w => ⟨Try.isAgg18 w, Try.sizeOf18 w⟩
theorem ag32 : Ag Try.prog 32 4 := fun w => ⟨Try.isAgg32 w, Try.sizeOf32 w⟩
theorem ag33 : Ag Try.prog 33 4 := fun w => ⟨Try.isAgg33 w, Try.sizeOf33 w⟩
theorem ag39 : Ag Try.prog 39 64 := fun w => ⟨Try.isAgg39 w, Try.sizeOf39 w⟩
theorem ag40 : Ag Try.prog 40 5 := fun w => ⟨Try.isAgg40 w, Try.sizeOf40 w⟩
theorem ag41 : Ag Try.prog 41 5 := fun w => ⟨Try.isAgg41 w, Try.sizeOf41 w⟩
theorem ag43 : Ag Try.prog 43 3 := fun w => ⟨Try.isAgg43 w, Try.sizeOf43 w⟩
theorem ag44 : Ag Try.prog 44 3 := fun w => ⟨Try.isAgg44 w, Try.sizeOf44 w⟩
theorem ag57 : Ag Try.prog 57 7 := fun w => ⟨Try.isAgg57 w, Try.sizeOf57 w⟩
theorem ag58 : Ag Try.prog 58 7 := fun w => ⟨Try.isAgg58 w, Try.sizeOf58 w⟩
theorem ag65 : Ag Try.prog 65 3 := fun w => ⟨Try.isAgg65 w, Try.sizeOf65 w⟩
theorem ag66 : Ag Try.prog 66 3 := fun w => ⟨Try.isAgg66 w, Try.sizeOf66 w⟩
theorem ag67 : Ag Try.prog 67 192 := fun w => ⟨Try.isAgg67 w, Try.sizeOf67 w⟩
theorem ag70 : Ag Try.prog 70 199 := fun w => ⟨Try.isAgg70 w, Try.sizeOf70 w⟩
theorem ag71 : Ag Try.prog 71 199 := fun w => ⟨Try.isAgg71 w, Try.sizeOf71 w⟩
theorem ag85 : Ag Try.prog 85 2 := fun w => ⟨Try.isAgg85 w, Try.sizeOf85 w⟩
theorem ag86 : Ag Try.prog 86 2 := fun w => ⟨Try.isAgg86 w, Try.sizeOf86 w⟩
theorem ag120 : Ag Try.prog 120 3 := fun w => ⟨Try.isAgg120 w, Try.sizeOf120 w⟩
theorem ag121 : Ag Try.prog 121 3 := fun w => ⟨Try.isAgg121 w, Try.sizeOf121 w⟩
theorem ag122 : Ag Try.prog 122 4 := fun w => ⟨Try.isAgg122 w, Try.sizeOf122 w⟩
theorem ag123 : Ag Try.prog 123 4 := fun w => ⟨Try.isAgg123 w, Try.sizeOf123 w⟩
theorem ag128 : Ag Try.prog 128 3 := fun w => ⟨Try.isAgg128 w, Try.sizeOf128 w⟩
theorem ag129 : Ag Try.prog 129 3 := fun w => ⟨Try.isAgg129 w, Try.sizeOf129 w⟩
theorem ag138 : Ag Try.prog 138 4 := fun w => ⟨Try.isAgg138 w, Try.sizeOf138 w⟩
theorem ag139 : Ag Try.prog 139 4 := fun w => ⟨Try.isAgg139 w, Try.sizeOf139 w⟩
theorem ag143 : Ag Try.prog 143 2 := fun w => ⟨Try.isAgg143 w, Try.sizeOf143 w⟩
theorem ag144 : Ag Try.prog 144 2 := fun w => ⟨Try.isAgg144 w, Try.sizeOf144 w⟩
theorem ag171 : Ag Try.prog 171 4 := fun w => ⟨Try.isAgg171 w, Try.sizeOf171 w⟩
theorem ag174 : Ag Try.prog 174 0 := fun w => ⟨Try.isAgg174 w, Try.sizeOf174 w⟩
theorem ag182 : Ag Try.prog 182 11 := fun w => ⟨Try.isAgg182 w, Try.sizeOf182 w⟩
theorem fa7_0 : FldAt Try.prog 7 0 0 := FldAt.mk Try.underlying7 rfl rfl Try.sizeOf2 (by decide)
theorem fa7_1 : FldAt Try.prog 7 1 1 := FldAt.mk Try.underlying7 rfl rfl Try.sizeOf3 (by decide)
theorem fa7_2 : FldAt Try.prog 7 2 2 := FldAt.mk Try.underlying7 rfl rfl Try.sizeOf4 (by decide)
theorem fa7_3 : FldAt Try.prog 7 3 3 := FldAt.mk Try.underlying7 rfl rfl Try.sizeOf6 (by decide)
theorem fa13_0 : FldAt Try.prog 13 0 0 := FldAt.mk Try.underlying13 rfl rfl Try.sizeOf9 (by decide)
theorem fa13_1 : FldAt Try.prog 13 1 1 := FldAt.mk Try.underlying13 rfl rfl Try.sizeOf12 (by decide)
theorem fa18_0 : FldAt Try.prog 18 0 0 := FldAt.mk Try.underlying18 rfl rfl Try.sizeOf17 (by decide)
theorem fa32_0 : FldAt Try.prog 32 0 0 := FldAt.mk Try.underlying32 rfl rfl Try.sizeOf3 (by decide)
theorem fa32_1 : FldAt Try.prog 32 1 1 := FldAt.mk Try.underlying32 rfl rfl Try.sizeOf3 (by decide)
theorem fa32_2 : FldAt Try.prog 32 2 2 := FldAt.mk Try.underlying32 rfl rfl Try.sizeOf3 (by decide)
theorem fa32_3 : FldAt Try.prog 32 3 3 := FldAt.mk Try.underlying32 rfl rfl Try.sizeOf3 (by decide)
theorem fa33_0 : FldAt Try.prog 33 0 0 := FldAt.mk Try.underlying33 rfl rfl Try.sizeOf3 (by decide)
theorem fa33_1 : FldAt Try.prog 33 1 1 := FldAt.mk Try.underlying33 rfl rfl Try.sizeOf3 (by decide)
theorem fa33_2 : FldAt Try.prog 33 2 2 := FldAt.mk Try.underlying33 rfl rfl Try.sizeOf3 (by decide)
theorem fa33_3 : FldAt Try.prog 33 3 3 := FldAt.mk Try.underlying33 rfl rfl Try.sizeOf3 (by decide)
theorem fa40_0 : FldAt Try.prog 40 0 0 := FldAt.mk Try.underlying40 rfl rfl Try.sizeOf3 (by decide)
theorem fa40_1 : FldAt Try.prog 40 1 1 := FldAt.mk Try.underlying40 rfl rfl Try.sizeOf3 (by decide)
theorem fa40_2 : FldAt Try.prog 40 2 2 := FldAt.mk Try.underlying40 rfl rfl Try.sizeOf28 (by decide)
theorem fa40_3 : FldAt Try.prog 40 3 3 := FldAt.mk Try.underlying40 rfl rfl Try.sizeOf28 (by decide)
theorem fa40_4 : FldAt Try.prog 40 4 4 := FldAt.mk Try.underlying40 rfl rfl Try.sizeOf4 (by decide)
theorem fa41_0 : FldAt Try.prog 41 0 0 := FldAt.mk Try.underlying41 rfl rfl Try.sizeOf3 (by decide)
theorem fa41_1 : FldAt Try.prog 41 1 1 := FldAt.mk Try.underlying41 rfl rfl Try.sizeOf3 (by decide)
theorem fa41_2 : FldAt Try.prog 41 2 2 := FldAt.mk Try.underlying41 rfl rfl Try.sizeOf28 (by decide)
theorem fa41_3 : FldAt Try.prog 41 3 3 := FldAt.mk Try.underlying41 rfl rfl Try.sizeOf28 (by decide)
theorem fa41_4 : FldAt Try.prog 41 4 4 := FldAt.mk Try.underlying41 rfl rfl Try.sizeOf4 (by decide)
theorem fa43_0 : FldAt Try.prog 43 0 0 := FldAt.mk Try.underlying43 rfl rfl Try.sizeOf30 (by decide)
theorem fa43_1 : FldAt Try.prog 43 1 1 := FldAt.mk Try.underlying43 rfl rfl Try.sizeOf3 (by decide)
theorem fa43_2 : FldAt Try.prog 43 2 2 := FldAt.mk Try.underlying43 rfl rfl Try.sizeOf3 (by decide)
theorem fa44_0 : FldAt Try.prog 44 0 0 := FldAt.mk Try.underlying44 rfl rfl Try.sizeOf30 (by decide)
theorem fa44_1 : FldAt Try.prog 44 1 1 := FldAt.mk Try.underlying44 rfl rfl Try.sizeOf3 (by decide)
theorem fa44_2 : FldAt Try.prog 44 2 2 := FldAt.mk Try.underlying44 rfl rfl Try.sizeOf3 (by decide)
theorem fa57_0 : FldAt Try.prog 57 0 0 := FldAt.mk Try.underlying57 rfl rfl Try.sizeOf3 (by decide)
theorem fa57_1 : FldAt Try.prog 57 1 1 := FldAt.mk Try.underlying57 rfl rfl Try.sizeOf3 (by decide)
theorem fa57_2 : FldAt Try.prog 57 2 2 := FldAt.mk Try.underlying57 rfl rfl Try.sizeOf28 (by decide)
theorem fa57_3 : FldAt Try.prog 57 3 3 := FldAt.mk Try.underlying57 rfl rfl Try.sizeOf28 (by decide)
theorem fa57_4 : FldAt Try.prog 57 4 4 := FldAt.mk Try.underlying57 rfl rfl Try.sizeOf54 (by decide)
theorem fa57_5 : FldAt Try.prog 57 5 5 := FldAt.mk Try.underlying57 rfl rfl Try.sizeOf55 (by decide)
theorem fa57_6 : FldAt Try.prog 57 6 6 := FldAt.mk Try.underlying57 rfl rfl Try.sizeOf56 (by decide)
theorem fa58_0 : FldAt Try.prog 58 0 0 := FldAt.mk Try.underlying58 rfl rfl Try.sizeOf3 (by decide)
theorem fa58_1 : FldAt Try.prog 58 1 1 := FldAt.mk Try.underlying58 rfl rfl Try.sizeOf3 (by decide)
theorem fa58_2 : FldAt Try.prog 58 2 2 := FldAt.mk Try.underlying58 rfl rfl Try.sizeOf28 (by decide)
theorem fa58_3 : FldAt Try.prog 58 3 3 := FldAt.mk Try.underlying58 rfl rfl Try.sizeOf28 (by decide)
theorem fa58_4 : FldAt Try.prog 58 4 4 := FldAt.mk Try.underlying58 rfl rfl Try.sizeOf54 (by decide)
theorem fa58_5 : FldAt Try.prog 58 5 5 := FldAt.mk Try.underlying58 rfl rfl Try.sizeOf55 (by decide)
theorem fa58_6 : FldAt Try.prog 58 6 6 := FldAt.mk Try.underlying58 rfl rfl Try.sizeOf56 (by decide)
theorem fa65_0 : FldAt Try.prog 65 0 0 := FldAt.mk Try.underlying65 rfl rfl Try.sizeOf64 (by decide)
theorem fa65_1 : FldAt Try.prog 65 1 1 := FldAt.mk Try.underlying65 rfl rfl Try.sizeOf3 (by decide)
theorem fa65_2 : FldAt Try.prog 65 2 2 := FldAt.mk Try.underlying65 rfl rfl Try.sizeOf28 (by decide)
theorem fa66_0 : FldAt Try.prog 66 0 0 := FldAt.mk Try.underlying66 rfl rfl Try.sizeOf64 (by decide)
theorem fa66_1 : FldAt Try.prog 66 1 1 := FldAt.mk Try.underlying66 rfl rfl Try.sizeOf3 (by decide)
theorem fa66_2 : FldAt Try.prog 66 2 2 := FldAt.mk Try.underlying66 rfl rfl Try.sizeOf28 (by decide)
theorem fa70_0 : FldAt Try.prog 70 0 0 := FldAt.mk Try.underlying70 rfl rfl Try.sizeOf3 (by decide)
theorem fa70_1 : FldAt Try.prog 70 1 1 := FldAt.mk Try.underlying70 rfl rfl Try.sizeOf3 (by decide)
theorem fa70_2 : FldAt Try.prog 70 2 2 := FldAt.mk Try.underlying70 rfl rfl Try.sizeOf28 (by decide)
theorem fa70_3 : FldAt Try.prog 70 3 3 := FldAt.mk Try.underlying70 rfl rfl Try.sizeOf28 (by decide)
theorem fa70_4 : FldAt Try.prog 70 4 4 := FldAt.mk Try.underlying70 rfl rfl Try.sizeOf67 (by decide)
theorem fa70_5 : FldAt Try.prog 70 5 196 := FldAt.mk Try.underlying70 rfl rfl Try.sizeOf68 (by decide)
theorem fa70_6 : FldAt Try.prog 70 6 197 := FldAt.mk Try.underlying70 rfl rfl Try.sizeOf69 (by decide)
theorem fa70_7 : FldAt Try.prog 70 7 198 := FldAt.mk Try.underlying70 rfl rfl Try.sizeOf56 (by decide)
theorem fa71_0 : FldAt Try.prog 71 0 0 := FldAt.mk Try.underlying71 rfl rfl Try.sizeOf3 (by decide)
theorem fa71_1 : FldAt Try.prog 71 1 1 := FldAt.mk Try.underlying71 rfl rfl Try.sizeOf3 (by decide)
theorem fa71_2 : FldAt Try.prog 71 2 2 := FldAt.mk Try.underlying71 rfl rfl Try.sizeOf28 (by decide)
theorem fa71_3 : FldAt Try.prog 71 3 3 := FldAt.mk Try.underlying71 rfl rfl Try.sizeOf28 (by decide)
theorem fa71_4 : FldAt Try.prog 71 4 4 := FldAt.mk Try.underlying71 rfl rfl Try.sizeOf67 (by decide)
theorem fa71_5 : FldAt Try.prog 71 5 196 := FldAt.mk Try.underlying71 rfl rfl Try.sizeOf68 (by decide)
theorem fa71_6 : FldAt Try.prog 71 6 197 := FldAt.mk Try.underlying71 rfl rfl Try.sizeOf69 (by decide)
theorem fa71_7 : FldAt Try.prog 71 7 198 := FldAt.mk Try.underlying71 rfl rfl Try.sizeOf56 (by decide)
theorem fa85_0 : FldAt Try.prog 85 0 0 := FldAt.mk Try.underlying85 rfl rfl Try.sizeOf27 (by decide)
theorem fa85_1 : FldAt Try.prog 85 1 1 := FldAt.mk Try.underlying85 rfl rfl Try.sizeOf28 (by decide)
theorem fa86_0 : FldAt Try.prog 86 0 0 := FldAt.mk Try.underlying86 rfl rfl Try.sizeOf27 (by decide)
theorem fa86_1 : FldAt Try.prog 86 1 1 := FldAt.mk Try.underlying86 rfl rfl Try.sizeOf28 (by decide)
theorem fa120_0 : FldAt Try.prog 120 0 0 := FldAt.mk Try.underlying120 rfl rfl Try.sizeOf27 (by decide)
theorem fa120_1 : FldAt Try.prog 120 1 1 := FldAt.mk Try.underlying120 rfl rfl Try.sizeOf27 (by decide)
theorem fa120_2 : FldAt Try.prog 120 2 2 := FldAt.mk Try.underlying120 rfl rfl Try.sizeOf27 (by decide)
theorem fa121_0 : FldAt Try.prog 121 0 0 := FldAt.mk Try.underlying121 rfl rfl Try.sizeOf27 (by decide)
theorem fa121_1 : FldAt Try.prog 121 1 1 := FldAt.mk Try.underlying121 rfl rfl Try.sizeOf27 (by decide)
theorem fa121_2 : FldAt Try.prog 121 2 2 := FldAt.mk Try.underlying121 rfl rfl Try.sizeOf27 (by decide)
theorem fa122_0 : FldAt Try.prog 122 0 0 := FldAt.mk Try.underlying122 rfl rfl Try.sizeOf121 (by decide)
theorem fa122_1 : FldAt Try.prog 122 1 3 := FldAt.mk Try.underlying122 rfl rfl Try.sizeOf119 (by decide)
theorem fa123_0 : FldAt Try.prog 123 0 0 := FldAt.mk Try.underlying123 rfl rfl Try.sizeOf121 (by decide)
theorem fa123_1 : FldAt Try.prog 123 1 3 := FldAt.mk Try.underlying123 rfl rfl Try.sizeOf119 (by decide)
theorem fa128_0 : FldAt Try.prog 128 0 0 := FldAt.mk Try.underlying128 rfl rfl Try.sizeOf3 (by decide)
theorem fa128_1 : FldAt Try.prog 128 1 1 := FldAt.mk Try.underlying128 rfl rfl Try.sizeOf27 (by decide)
theorem fa128_2 : FldAt Try.prog 128 2 2 := FldAt.mk Try.underlying128 rfl rfl Try.sizeOf27 (by decide)
theorem fa129_0 : FldAt Try.prog 129 0 0 := FldAt.mk Try.underlying129 rfl rfl Try.sizeOf3 (by decide)
theorem fa129_1 : FldAt Try.prog 129 1 1 := FldAt.mk Try.underlying129 rfl rfl Try.sizeOf27 (by decide)
theorem fa129_2 : FldAt Try.prog 129 2 2 := FldAt.mk Try.underlying129 rfl rfl Try.sizeOf27 (by decide)
theorem fa138_0 : FldAt Try.prog 138 0 0 := FldAt.mk Try.underlying138 rfl rfl Try.sizeOf3 (by decide)
theorem fa138_1 : FldAt Try.prog 138 1 1 := FldAt.mk Try.underlying138 rfl rfl Try.sizeOf3 (by decide)
theorem fa138_2 : FldAt Try.prog 138 2 2 := FldAt.mk Try.underlying138 rfl rfl Try.sizeOf3 (by decide)
theorem fa138_3 : FldAt Try.prog 138 3 3 := FldAt.mk Try.underlying138 rfl rfl Try.sizeOf28 (by decide)
theorem fa139_0 : FldAt Try.prog 139 0 0 := FldAt.mk Try.underlying139 rfl rfl Try.sizeOf3 (by decide)
theorem fa139_1 : FldAt Try.prog 139 1 1 := FldAt.mk Try.underlying139 rfl rfl Try.sizeOf3 (by decide)
theorem fa139_2 : FldAt Try.prog 139 2 2 := FldAt.mk Try.underlying139 rfl rfl Try.sizeOf3 (by decide)
theorem fa139_3 : FldAt Try.prog 139 3 3 := FldAt.mk Try.underlying139 rfl rfl Try.sizeOf28 (by decide)
theorem fa143_0 : FldAt Try.prog 143 0 0 := FldAt.mk Try.underlying143 rfl rfl Try.sizeOf3 (by decide)
theorem fa143_1 : FldAt Try.prog 143 1 1 := FldAt.mk Try.underlying143 rfl rfl Try.sizeOf28 (by decide)
theorem fa144_0 : FldAt Try.prog 144 0 0 := FldAt.mk Try.underlying144 rfl rfl Try.sizeOf3 (by decide)
theorem fa144_1 : FldAt Try.prog 144 1 1 := FldAt.mk Try.underlying144 rfl rfl Try.sizeOf28 (by decide)
theorem fa171_0 : FldAt Try.prog 171 0 0 := FldAt.mk Try.underlying171 rfl rfl Try.sizeOf17 (by decide)
theorem fa171_1 : FldAt Try.prog 171 1 1 := FldAt.mk Try.underlying171 rfl rfl Try.sizeOf17 (by decide)
theorem fa171_2 : FldAt Try.prog 171 2 2 := FldAt.mk Try.underlying171 rfl rfl Try.sizeOf17 (by decide)
theorem fa171_3 : FldAt Try.prog 171 3 3 := FldAt.mk Try.underlying171 rfl rfl Try.sizeOf9 (by decide)
theorem fa182_0 : FldAt Try.prog 182 0 0 := FldAt.mk Try.underlying182 rfl rfl Try.sizeOf12 (by decide)
theorem fa182_1 : FldAt Try.prog 182 1 1 := FldAt.mk Try.underlying182 rfl rfl Try.sizeOf12 (by decide)
theorem fa182_2 : FldAt Try.prog 182 2 2 := FldAt.mk Try.underlying182 rfl rfl Try.sizeOf159 (by decide)
theorem fa182_3 : FldAt Try.prog 182 3 3 := FldAt.mk Try.underlying182 rfl rfl Try.sizeOf176 (by decide)
theorem fa182_4 : FldAt Try.prog 182 4 4 := FldAt.mk Try.underlying182 rfl rfl Try.sizeOf5 (by decide)
theorem fa182_5 : FldAt Try.prog 182 5 5 := FldAt.mk Try.underlying182 rfl rfl Try.sizeOf5 (by decide)
theorem fa182_6 : FldAt Try.prog 182 6 6 := FldAt.mk Try.underlying182 rfl rfl Try.sizeOf177 (by decide)
theorem fa182_7 : FldAt Try.prog 182 7 7 := FldAt.mk Try.underlying182 rfl rfl Try.sizeOf178 (by decide)
theorem fa182_8 : FldAt Try.prog 182 8 8 := FldAt.mk Try.underlying182 rfl rfl Try.sizeOf179 (by decide)
theorem fa182_9 : FldAt Try.prog 182 9 9 := FldAt.mk Try.underlying182 rfl rfl Try.sizeOf180 (by decide)
theorem fa182_10 : FldAt Try.prog 182 10 10 := FldAt.mk Try.underlying182 rfl rfl Try.sizeOf181 (by decide)
theorem pl7 : Places Try.prog 7 [(0, 1), (1, 1), (2, 1), (3, 1)] := ⟨_, Try.underlying7, fun w => by simp [Try.sizeOf2, Try.sizeOf3, Try.sizeOf4, Try.sizeOf6]⟩
theorem pl13 : Places Try.prog 13 [(0, 1), (1, 1)] := ⟨_, Try.underlying13, fun w => by simp [Try.sizeOf12, Try.sizeOf9]⟩
theorem pl18 : Places Try.prog 18 [(0, 1)] := ⟨_, Try.underlying18, fun w => by simp [Try.sizeOf17]⟩
theorem pl32 : Places Try.prog 32 [(0, 1), (1, 1), (2, 1), (3, 1)] := ⟨_, Try.underlying32, fun w => by simp [Try.sizeOf3]⟩
theorem pl33 : Places Try.prog 33 [(0, 1), (1, 1), (2, 1), (3, 1)] := ⟨_, Try.underlying33, fun w => by simp [Try.sizeOf3]⟩
theorem pl40 : Places Try.prog 40 [(0, 1), (1, 1), (2, 1), (3, 1), (4, 1)] := ⟨_, Try.underlying40, fun w => by simp [Try.sizeOf28, Try.sizeOf3, Try.sizeOf4]⟩
theorem pl41 : Places Try.prog 41 [(0, 1), (1, 1), (2, 1), (3, 1), (4, 1)] := ⟨_, Try.underlying41, fun w => by simp [Try.sizeOf28, Try.sizeOf3, Try.sizeOf4]⟩
theorem pl43 : Places Try.prog 43 [(0, 1), (1, 1), (2, 1)] := ⟨_, Try.underlying43, fun w => by simp [Try.sizeOf3, Try.sizeOf30]⟩
theorem pl44 : Places Try.prog 44 [(0, 1), (1, 1), (2, 1)] := ⟨_, Try.underlying44, fun w => by simp [Try.sizeOf3, Try.sizeOf30]⟩
theorem pl57 : Places Try.prog 57 [(0, 1), (1, 1), (2, 1), (3, 1), (4, 1), (5, 1), (6, 1)] := ⟨_, Try.underlying57, fun w => by simp [Try.sizeOf28, Try.sizeOf3, Try.sizeOf54, Try.sizeOf55, Try.sizeOf56]⟩
theorem pl58 : Places Try.prog 58 [(0, 1), (1, 1), (2, 1), (3, 1), (4, 1), (5, 1), (6, 1)] := ⟨_, Try.underlying58, fun w => by simp [Try.sizeOf28, Try.sizeOf3, Try.sizeOf54, Try.sizeOf55, Try.sizeOf56]⟩
theorem pl65 : Places Try.prog 65 [(0, 1), (1, 1), (2, 1)] := ⟨_, Try.underlying65, fun w => by simp [Try.sizeOf28, Try.sizeOf3, Try.sizeOf64]⟩
theorem pl66 : Places Try.prog 66 [(0, 1), (1, 1), (2, 1)] := ⟨_, Try.underlying66, fun w => by simp [Try.sizeOf28, Try.sizeOf3, Try.sizeOf64]⟩
theorem pl70 : Places Try.prog 70 [(0, 1), (1, 1), (2, 1), (3, 1), (4, 192), (196, 1), (197, 1), (198, 1)] := ⟨_, Try.underlying70, fun w => by simp [Try.sizeOf28, Try.sizeOf3, Try.sizeOf56, Try.sizeOf67, Try.sizeOf68, Try.sizeOf69]⟩
theorem pl71 : Places Try.prog 71 [(0, 1), (1, 1), (2, 1), (3, 1), (4, 192), (196, 1), (197, 1), (198, 1)] := ⟨_, Try.underlying71, fun w => by simp [Try.sizeOf28, Try.sizeOf3, Try.sizeOf56, Try.sizeOf67, Try.sizeOf68, Try.sizeOf69]⟩
theorem pl85 : Places Try.prog 85 [(0, 1), (1, 1)] := ⟨_, Try.underlying85, fun w => by simp [Try.sizeOf27, Try.sizeOf28]⟩
theorem pl86 : Places Try.prog 86 [(0, 1), (1, 1)] := ⟨_, Try.underlying86, fun w => by simp [Try.sizeOf27, Try.sizeOf28]⟩
theorem pl120 : Places Try.prog 120 [(0, 1), (1, 1), (2, 1)] := ⟨_, Try.underlying120, fun w => by simp [Try.sizeOf27]⟩
theorem pl121 : Places Try.prog 121 [(0, 1), (1, 1), (2, 1)] := ⟨_, Try.underlying121, fun w => by simp [Try.sizeOf27]⟩
theorem pl122 : Places Try.prog 122 [(0, 3), (3, 1)] := ⟨_, Try.underlying122, fun w => by simp [Try.sizeOf119, Try.sizeOf121]⟩
theorem pl123 : Places Try.prog 123 [(0, 3), (3, 1)] := ⟨_, Try.underlying123, fun w => by simp [Try.sizeOf119, Try.sizeOf121]⟩
theorem pl128 : Places Try.prog 128 [(0, 1), (1, 1), (2, 1)] := ⟨_, Try.underlying128, fun w => by simp [Try.sizeOf27, Try.sizeOf3]⟩
theorem pl129 : Places Try.prog 129 [(0, 1), (1, 1), (2, 1)] := ⟨_, Try.underlying129, fun w => by simp [Try.sizeOf27, Try.sizeOf3]⟩
theorem pl138 : Places Try.prog 138 [(0, 1), (1, 1), (2, 1), (3, 1)] := ⟨_, Try.underlying138, fun w => by simp [Try.sizeOf28, Try.sizeOf3]⟩
theorem pl139 : Places Try.prog 139 [(0, 1), (1, 1), (2, 1), (3, 1)] := ⟨_, Try.underlying139, fun w => by simp [Try.sizeOf28, Try.sizeOf3]⟩
theorem pl143 : Places Try.prog 143 [(0, 1), (1, 1)] := ⟨_, Try.underlying143, fun w => by simp [Try.sizeOf28, Try.sizeOf3]⟩
theorem pl144 : Places Try.prog 144 [(0, 1), (1, 1)] := ⟨_, Try.underlying144, fun w => by simp [Try.sizeOf28, Try.sizeOf3]⟩
theorem pl171 : Places Try.prog 171 [(0, 1), (1, 1), (2, 1), (3, 1)] := ⟨_, Try.underlying171, fun w => by simp [Try.sizeOf17, Try.sizeOf9]⟩
theorem pl174 : Places Try.prog 174 [(0, 0)] := ⟨_, Try.underlying174, fun w => by simp [Try.sizeOf173]⟩
theorem pl182 : Places Try.prog 182 [(0, 1), (1, 1), (2, 1), (3, 1), (4, 1), (5, 1), (6, 1), (7, 1), (8, 1), (9, 1), (10, 1)] := ⟨_, Try.underlying182, fun w => by simp [Try.sizeOf12, Try.sizeOf159, Try.sizeOf176, Try.sizeOf177, Try.sizeOf178, Try.sizeOf179, Try.sizeOf180, Try.sizeOf181, Try.sizeOf5]⟩
theorem sc1 : Sc Try.prog 1 := fun w => ⟨Try.isAgg1 w, Try.sizeOf1 w⟩
theorem sc2 : Sc Try.prog 2 := fun w => ⟨Try.isAgg2 w, Try.sizeOf2 w⟩
theorem sc3 : Sc Try.prog 3 := fun w => ⟨Try.isAgg3 w, Try.sizeOf3 w⟩
theorem sc4 : Sc Try.prog 4 := fun w => ⟨Try.isAgg4 w, Try.sizeOf4 w⟩
theorem sc5 : Sc Try.prog 5 := fun w => ⟨Try.isAgg5 w, Try.sizeOf5 w⟩
theorem sc9 : Sc Try.prog 9 := fun w => ⟨Try.isAgg9 w, Try.sizeOf9 w⟩
theorem sc12 : Sc Try.prog 12 := fun w => ⟨Try.isAgg12 w, Try.sizeOf12 w⟩
theorem sc21 : Sc Try.prog 21 := fun w => ⟨Try.isAgg21 w, Try.sizeOf21 w⟩
theorem sc22 : Sc Try.prog 22 := fun w => ⟨Try.isAgg22 w, Try.sizeOf22 w⟩
theorem sc23 : Sc Try.prog 23 := fun w => ⟨Try.isAgg23 w, Try.sizeOf23 w⟩
theorem sc24 : Sc Try.prog 24 := fun w => ⟨Try.isAgg24 w, Try.sizeOf24 w⟩
theorem sc26 : Sc Try.prog 26 := fun w => ⟨Try.isAgg26 w, Try.sizeOf26 w⟩
theorem sc27 : Sc Try.prog 27 := fun w => ⟨Try.isAgg27 w, Try.sizeOf27 w⟩
theorem sc28 : Sc Try.prog 28 := fun w => ⟨Try.isAgg28 w, Try.sizeOf28 w⟩
theorem sc29 : Sc Try.prog 29 := fun w => ⟨Try.isAgg29 w, Try.sizeOf29 w⟩
theorem sc30 : Sc Try.prog 30 := fun w => ⟨Try.isAgg30 w, Try.sizeOf30 w⟩
theorem sc31 : Sc Try.prog 31 := fun w => ⟨Try.isAgg31 w, Try.sizeOf31 w⟩
theorem sc34 : Sc Try.prog 34 := fun w => ⟨Try.isAgg34 w, Try.sizeOf34 w⟩
theorem sc35 : Sc Try.prog 35 := fun w => ⟨Try.isAgg35 w, Try.sizeOf35 w⟩
theorem sc36 : Sc Try.prog 36 := fun w => ⟨Try.isAgg36 w, Try.sizeOf36 w⟩
theorem sc37 : Sc Try.prog 37 := fun w => ⟨Try.isAgg37 w, Try.sizeOf37 w⟩
theorem sc38 : Sc Try.prog 38 := fun w => ⟨Try.isAgg38 w, Try.sizeOf38 w⟩
theorem sc42 : Sc Try.prog 42 := fun w => ⟨Try.isAgg42 w, Try.sizeOf42 w⟩
theorem sc46 : Sc Try.prog 46 := fun w => ⟨Try.isAgg46 w, Try.sizeOf46 w⟩
theorem sc47 : Sc Try.prog 47 := fun w => ⟨Try.isAgg47 w, Try.sizeOf47 w⟩
theorem sc48 : Sc Try.prog 48 := fun w => ⟨Try.isAgg48 w, Try.sizeOf48 w⟩
theorem sc49 : Sc Try.prog 49 := fun w => ⟨Try.isAgg49 w, Try.sizeOf49 w⟩
theorem sc50 : Sc Try.prog 50 := fun w => ⟨Try.isAgg50 w, Try.sizeOf50 w⟩
theorem sc51 : Sc Try.prog 51 := fun w => ⟨Try.isAgg51 w, Try.sizeOf51 w⟩
theorem sc52 : Sc Try.prog 52 := fun w => ⟨Try.isAgg52 w, Try.sizeOf52 w⟩
theorem sc53 : Sc Try.prog 53 := fun w => ⟨Try.isAgg53 w, Try.sizeOf53 w⟩
theorem sc54 : Sc Try.prog 54 := fun w => ⟨Try.isAgg54 w, Try.sizeOf54 w⟩
theorem sc55 : Sc Try.prog 55 := fun w => ⟨Try.isAgg55 w, Try.sizeOf55 w⟩
theorem sc56 : Sc Try.prog 56 := fun w => ⟨Try.isAgg56 w, Try.sizeOf56 w⟩
theorem sc59 : Sc Try.prog 59 := fun w => ⟨Try.isAgg59 w, Try.sizeOf59 w⟩
theorem sc61 : Sc Try.prog 61 := fun w => ⟨Try.isAgg61 w, Try.sizeOf61 w⟩
theorem sc63 : Sc Try.prog 63 := fun w => ⟨Try.isAgg63 w, Try.sizeOf63 w⟩
theorem sc64 : Sc Try.prog 64 := fun w => ⟨Try.isAgg64 w, Try.sizeOf64 w⟩
theorem sc68 : Sc Try.prog 68 := fun w => ⟨Try.isAgg68 w, Try.sizeOf68 w⟩
theorem sc69 : Sc Try.prog 69 := fun w => ⟨Try.isAgg69 w, Try.sizeOf69 w⟩
theorem sc72 : Sc Try.prog 72 := fun w => ⟨Try.isAgg72 w, Try.sizeOf72 w⟩
theorem sc73 : Sc Try.prog 73 := fun w => ⟨Try.isAgg73 w, Try.sizeOf73 w⟩
theorem sc74 : Sc Try.prog 74 := fun w => ⟨Try.isAgg74 w, Try.sizeOf74 w⟩
theorem sc75 : Sc Try.prog 75 := fun w => ⟨Try.isAgg75 w, Try.sizeOf75 w⟩
theorem sc76 : Sc Try.prog 76 := fun w => ⟨Try.isAgg76 w, Try.sizeOf76 w⟩
theorem sc77 : Sc Try.prog 77 := fun w => ⟨Try.isAgg77 w, Try.sizeOf77 w⟩
theorem sc78 : Sc Try.prog 78 := fun w => ⟨Try.isAgg78 w, Try.sizeOf78 w⟩
theorem sc79 : Sc Try.prog 79 := fun w => ⟨Try.isAgg79 w, Try.sizeOf79 w⟩
theorem sc80 : Sc Try.prog 80 := fun w => ⟨Try.isAgg80 w, Try.sizeOf80 w⟩
theorem sc82 : Sc Try.prog 82 := fun w => ⟨Try.isAgg82 w, Try.sizeOf82 w⟩
theorem sc83 : Sc Try.prog 83 := fun w => ⟨Try.isAgg83 w, Try.sizeOf83 w⟩
theorem sc84 : Sc Try.prog 84 := fun w => ⟨Try.isAgg84 w, Try.sizeOf84 w⟩
theorem sc88 : Sc Try.prog 88 := fun w => ⟨Try.isAgg88 w, Try.sizeOf88 w⟩
theorem sc89 : Sc Try.prog 89 := fun w => ⟨Try.isAgg89 w, Try.sizeOf89 w⟩
theorem sc90 : Sc Try.prog 90 := fun w => ⟨Try.isAgg90 w, Try.sizeOf90 w⟩
theorem sc91 : Sc Try.prog 91 := fun w => ⟨Try.isAgg91 w, Try.sizeOf91 w⟩
theorem sc92 : Sc Try.prog 92 := fun w => ⟨Try.isAgg92 w, Try.sizeOf92 w⟩
theorem sc93 : Sc Try.prog 93 := fun w => ⟨Try.isAgg93 w, Try.sizeOf93 w⟩
theorem sc94 : Sc Try.prog 94 := fun w => ⟨Try.isAgg94 w, Try.sizeOf94 w⟩
theorem sc95 : Sc Try.prog 95 := fun w => ⟨Try.isAgg95 w, Try.sizeOf95 w⟩
theorem sc96 : Sc Try.prog 96 := fun w => ⟨Try.isAgg96 w, Try.sizeOf96 w⟩
theorem sc98 : Sc Try.prog 98 := fun w => ⟨Try.isAgg98 w, Try.sizeOf98 w⟩
theorem sc99 : Sc Try.prog 99 := fun w => ⟨Try.isAgg99 w, Try.sizeOf99 w⟩
theorem sc100 : Sc Try.prog 100 := fun w => ⟨Try.isAgg100 w, Try.sizeOf100 w⟩
theorem sc101 : Sc Try.prog 101 := fun w => ⟨Try.isAgg101 w, Try.sizeOf101 w⟩
theorem sc102 : Sc Try.prog 102 := fun w => ⟨Try.isAgg102 w, Try.sizeOf102 w⟩
theorem sc103 : Sc Try.prog 103 := fun w => ⟨Try.isAgg103 w, Try.sizeOf103 w⟩
theorem sc104 : Sc Try.prog 104 := fun w => ⟨Try.isAgg104 w, Try.sizeOf104 w⟩
theorem sc105 : Sc Try.prog 105 := fun w => ⟨Try.isAgg105 w, Try.sizeOf105 w⟩
theorem sc106 : Sc Try.prog 106 := fun w => ⟨Try.isAgg106 w, Try.sizeOf106 w⟩
theorem sc107 : Sc Try.prog 107 := fun w => ⟨Try.isAgg107 w, Try.sizeOf107 w⟩
theorem sc108 : Sc Try.prog 108 := fun w => ⟨Try.isAgg108 w, Try.sizeOf108 w⟩
theorem sc110 : Sc Try.prog 110 := fun w => ⟨Try.isAgg110 w, Try.sizeOf110 w⟩
theorem sc112 : Sc Try.prog 112 := fun w => ⟨Try.isAgg112 w, Try.sizeOf112 w⟩
theorem sc113 : Sc Try.prog 113 := fun w => ⟨Try.isAgg113 w, Try.sizeOf113 w⟩
theorem sc114 : Sc Try.prog 114 := fun w => ⟨Try.isAgg114 w, Try.sizeOf114 w⟩
theorem sc115 : Sc Try.prog 115 := fun w => ⟨Try.isAgg115 w, Try.sizeOf115 w⟩
theorem sc116 : Sc Try.prog 116 := fun w => ⟨Try.isAgg116 w, Try.sizeOf116 w⟩
theorem sc117 : Sc Try.prog 117 := fun w => ⟨Try.isAgg117 w, Try.sizeOf117 w⟩
theorem sc118 : Sc Try.prog 118 := fun w => ⟨Try.isAgg118 w, Try.sizeOf118 w⟩
theorem sc119 : Sc Try.prog 119 := fun w => ⟨Try.isAgg119 w, Try.sizeOf119 w⟩
theorem sc125 : Sc Try.prog 125 := fun w => ⟨Try.isAgg125 w, Try.sizeOf125 w⟩
theorem sc126 : Sc Try.prog 126 := fun w => ⟨Try.isAgg126 w, Try.sizeOf126 w⟩
theorem sc127 : Sc Try.prog 127 := fun w => ⟨Try.isAgg127 w, Try.sizeOf127 w⟩
theorem sc131 : Sc Try.prog 131 := fun w => ⟨Try.isAgg131 w, Try.sizeOf131 w⟩
theorem sc132 : Sc Try.prog 132 := fun w => ⟨Try.isAgg132 w, Try.sizeOf132 w⟩
theorem sc133 : Sc Try.prog 133 := fun w => ⟨Try.isAgg133 w, Try.sizeOf133 w⟩
theorem sc134 : Sc Try.prog 134 := fun w => ⟨Try.isAgg134 w, Try.sizeOf134 w⟩
theorem sc135 : Sc Try.prog 135 := fun w => ⟨Try.isAgg135 w, Try.sizeOf135 w⟩
theorem sc136 : Sc Try.prog 136 := fun w => ⟨Try.isAgg136 w, Try.sizeOf136 w⟩
theorem sc137 : Sc Try.prog 137 := fun w => ⟨Try.isAgg137 w, Try.sizeOf137 w⟩
theorem sc140 : Sc Try.prog 140 := fun w => ⟨Try.isAgg140 w, Try.sizeOf140 w⟩
theorem sc142 : Sc Try.prog 142 := fun w => ⟨Try.isAgg142 w, Try.sizeOf142 w⟩
theorem sc145 : Sc Try.prog 145 := fun w => ⟨Try.isAgg145 w, Try.sizeOf145 w⟩
theorem sc146 : Sc Try.prog 146 := fun w => ⟨Try.isAgg146 w, Try.sizeOf146 w⟩
theorem sc147 : Sc Try.prog 147 := fun w => ⟨Try.isAgg147 w, Try.sizeOf147 w⟩
theorem sc148 : Sc Try.prog 148 := fun w => ⟨Try.isAgg148 w, Try.sizeOf148 w⟩
theorem sc149 : Sc Try.prog 149 := fun w => ⟨Try.isAgg149 w, Try.sizeOf149 w⟩
theorem sc151 : Sc Try.prog 151 := fun w => ⟨Try.isAgg151 w, Try.sizeOf151 w⟩
theorem sc152 : Sc Try.prog 152 := fun w => ⟨Try.isAgg152 w, Try.sizeOf152 w⟩
theorem sc154 : Sc Try.prog 154 := fun w => ⟨Try.isAgg154 w, Try.sizeOf154 w⟩
theorem sc155 : Sc Try.prog 155 := fun w => ⟨Try.isAgg155 w, Try.sizeOf155 w⟩
theorem sc156 : Sc Try.prog 156 := fun w => ⟨Try.isAgg156 w, Try.sizeOf156 w⟩
theorem sc157 : Sc Try.prog 157 := fun w => ⟨Try.isAgg157 w, Try.sizeOf157 w⟩
theorem sc158 : Sc Try.prog 158 := fun w => ⟨Try.isAgg158 w, Try.sizeOf158 w⟩
theorem sc159 : Sc Try.prog 159 := fun w => ⟨Try.isAgg159 w, Try.sizeOf159 w⟩
theorem sc160 : Sc Try.prog 160 := fun w => ⟨Try.isAgg160 w, Try.sizeOf160 w⟩
theorem sc161 : Sc Try.prog 161 := fun w => ⟨Try.isAgg161 w, Try.sizeOf161 w⟩
theorem sc162 : Sc Try.prog 162 := fun w => ⟨Try.isAgg162 w, Try.sizeOf162 w⟩
theorem sc163 : Sc Try.prog 163 := fun w => ⟨Try.isAgg163 w, Try.sizeOf163 w⟩
theorem sc164 : Sc Try.prog 164 := fun w => ⟨Try.isAgg164 w, Try.sizeOf164 w⟩
theorem sc165 : Sc Try.prog 165 := fun w => ⟨Try.isAgg165 w, Try.sizeOf165 w⟩
theorem sc166 : Sc Try.prog 166 := fun w => ⟨Try.isAgg166 w, Try.sizeOf166 w⟩
theorem sc167 : Sc Try.prog 167 := fun w => ⟨Try.isAgg167 w, Try.sizeOf167 w⟩
theorem sc169 : Sc Try.prog 169 := fun w => ⟨Try.isAgg169 w, Try.sizeOf169 w⟩
theorem sc170 : Sc Try.prog 170 := fun w => ⟨Try.isAgg170 w, Try.sizeOf170 w⟩
theorem sc179 : Sc Try.prog 179 := fun w => ⟨Try.isAgg179 w, Try.sizeOf179 w⟩
set_option linter.unusedSimpArgs false in
theorem eqin33_10000 (a0 b0 : Int) (a1 b1 : Int) (a2 b2 : Int) (a3 b3 : Int) (w : World) : (Op.equalIn 10000 33 (.agg #[.int .i64 a0, .int .i64 a1, .int .i64 a2, .int .i64 a3]) (.agg #[.int .i64 b0, .int .i64 b1, .int .i64 b2, .int .i64 b3])).run Try.prog w = .ok (decide (a0 = b0 ∧ a1 = b1 ∧ a2 = b2 ∧ a3 = b3)) w := by
  rw [run_equalIn_struct w 9999 33 _ _ (by simp [Program.fieldsOf, Try.underlying33]) Try.stoodInHeld33]
  by_cases h0 : a0 = b0 <;> by_cases h1 : a1 = b1 <;> by_cases h2 : a2 = b2 <;> by_cases h3 : a3 = b3 <;> simp [Program.fieldsOf, Try.underlying33, Op.eqFields, part, Try.isAgg3, run_equalIn_int w 9998 3 .i64 .i64 _ _ Try.underlying3, h0, h1, h2, h3]
theorem seq33 (a0 b0 : Int) (a1 b1 : Int) (a2 b2 : Int) (a3 b3 : Int) (w : World) : (binOp .eql 33 (.agg #[.int .i64 a0, .int .i64 a1, .int .i64 a2, .int .i64 a3]) (.agg #[.int .i64 b0, .int .i64 b1, .int .i64 b2, .int .i64 b3])).run Try.prog w = .ok (.bool (decide (a0 = b0 ∧ a1 = b1 ∧ a2 = b2 ∧ a3 = b3))) w := by
  rw [run_eql_struct, eqin33_10000]
  rfl
theorem R_seq33 {X : Ctx} {E : Env} {H : Heap} {o : Oper} {x y : Operand} {t' : TypeId} {a0 b0 : Int} {a1 b1 : Int} {a2 b2 : Int} {a3 b3 : Int} (hP : X.P = Try.prog) (ho : o.op = .binOp .eql 33 x y t') (hx : ev E x = some (.agg #[.int .i64 a0, .int .i64 a1, .int .i64 a2, .int .i64 a3])) (hy : ev E y = some (.agg #[.int .i64 b0, .int .i64 b1, .int .i64 b2, .int .i64 b3])) : Runs X o E H (.bool (decide (a0 = b0 ∧ a1 = b1 ∧ a2 = b2 ∧ a3 = b3))) :=
  R_bin ho hx hy (fun w => by rw [hP]; exact run_eqGuard_agg w _ 33 x y _ _ Try.eqGuardType33) (fun w => by rw [hP]; exact seq33 a0 b0 a1 b1 a2 b2 a3 b3 w)
theorem sne33 (a0 b0 : Int) (a1 b1 : Int) (a2 b2 : Int) (a3 b3 : Int) (w : World) : (binOp .neq 33 (.agg #[.int .i64 a0, .int .i64 a1, .int .i64 a2, .int .i64 a3]) (.agg #[.int .i64 b0, .int .i64 b1, .int .i64 b2, .int .i64 b3])).run Try.prog w = .ok (.bool (decide (¬ (a0 = b0 ∧ a1 = b1 ∧ a2 = b2 ∧ a3 = b3)))) w := by
  rw [run_neq_struct, eqin33_10000]
  simp
theorem R_sne33 {X : Ctx} {E : Env} {H : Heap} {o : Oper} {x y : Operand} {t' : TypeId} {a0 b0 : Int} {a1 b1 : Int} {a2 b2 : Int} {a3 b3 : Int} (hP : X.P = Try.prog) (ho : o.op = .binOp .neq 33 x y t') (hx : ev E x = some (.agg #[.int .i64 a0, .int .i64 a1, .int .i64 a2, .int .i64 a3])) (hy : ev E y = some (.agg #[.int .i64 b0, .int .i64 b1, .int .i64 b2, .int .i64 b3])) : Runs X o E H (.bool (decide (¬ (a0 = b0 ∧ a1 = b1 ∧ a2 = b2 ∧ a3 = b3)))) :=
  R_bin ho hx hy (fun w => by rw [hP]; exact run_eqGuard_agg w _ 33 x y _ _ Try.eqGuardType33) (fun w => by rw [hP]; exact sne33 a0 b0 a1 b1 a2 b2 a3 b3 w)
set_option linter.unusedSimpArgs false in
theorem eqin44_10000 (a0 b0 : Int) (a1 b1 : Int) (a2 b2 : Int) (w : World) : (Op.equalIn 10000 44 (.agg #[.int .i64 a0, .int .i64 a1, .int .i64 a2]) (.agg #[.int .i64 b0, .int .i64 b1, .int .i64 b2])).run Try.prog w = .ok (decide (a0 = b0 ∧ a1 = b1 ∧ a2 = b2)) w := by
  rw [run_equalIn_struct w 9999 44 _ _ (by simp [Program.fieldsOf, Try.underlying44]) Try.stoodInHeld44]
  by_cases h0 : a0 = b0 <;> by_cases h1 : a1 = b1 <;> by_cases h2 : a2 = b2 <;> simp [Program.fieldsOf, Try.underlying44, Op.eqFields, part, Try.isAgg3, Try.isAgg30, run_equalIn_int w 9998 3 .i64 .i64 _ _ Try.underlying3, run_equalIn_int w 9998 30 .i64 .i64 _ _ Try.underlying30, h0, h1, h2]
theorem seq44 (a0 b0 : Int) (a1 b1 : Int) (a2 b2 : Int) (w : World) : (binOp .eql 44 (.agg #[.int .i64 a0, .int .i64 a1, .int .i64 a2]) (.agg #[.int .i64 b0, .int .i64 b1, .int .i64 b2])).run Try.prog w = .ok (.bool (decide (a0 = b0 ∧ a1 = b1 ∧ a2 = b2))) w := by
  rw [run_eql_struct, eqin44_10000]
  rfl
theorem R_seq44 {X : Ctx} {E : Env} {H : Heap} {o : Oper} {x y : Operand} {t' : TypeId} {a0 b0 : Int} {a1 b1 : Int} {a2 b2 : Int} (hP : X.P = Try.prog) (ho : o.op = .binOp .eql 44 x y t') (hx : ev E x = some (.agg #[.int .i64 a0, .int .i64 a1, .int .i64 a2])) (hy : ev E y = some (.agg #[.int .i64 b0, .int .i64 b1, .int .i64 b2])) : Runs X o E H (.bool (decide (a0 = b0 ∧ a1 = b1 ∧ a2 = b2))) :=
  R_bin ho hx hy (fun w => by rw [hP]; exact run_eqGuard_agg w _ 44 x y _ _ Try.eqGuardType44) (fun w => by rw [hP]; exact seq44 a0 b0 a1 b1 a2 b2 w)
theorem sne44 (a0 b0 : Int) (a1 b1 : Int) (a2 b2 : Int) (w : World) : (binOp .neq 44 (.agg #[.int .i64 a0, .int .i64 a1, .int .i64 a2]) (.agg #[.int .i64 b0, .int .i64 b1, .int .i64 b2])).run Try.prog w = .ok (.bool (decide (¬ (a0 = b0 ∧ a1 = b1 ∧ a2 = b2)))) w := by
  rw [run_neq_struct, eqin44_10000]
  simp
theorem R_sne44 {X : Ctx} {E : Env} {H : Heap} {o : Oper} {x y : Operand} {t' : TypeId} {a0 b0 : Int} {a1 b1 : Int} {a2 b2 : Int} (hP : X.P = Try.prog) (ho : o.op = .binOp .neq 44 x y t') (hx : ev E x = some (.agg #[.int .i64 a0, .int .i64 a1, .int .i64 a2])) (hy : ev E y = some (.agg #[.int .i64 b0, .int .i64 b1, .int .i64 b2])) : Runs X o E H (.bool (decide (¬ (a0 = b0 ∧ a1 = b1 ∧ a2 = b2)))) :=
  R_bin ho hx hy (fun w => by rw [hP]; exact run_eqGuard_agg w _ 44 x y _ _ Try.eqGuardType44) (fun w => by rw [hP]; exact sne44 a0 b0 a1 b1 a2 b2 w)
theorem inf37 : Try.prog.info? 41 = some Try.t41 := by kernel_rfl
theorem si37 : SI Try.prog 37 41 5 40 [.int .i64 0, .int .i64 0, .int .u64 0, .int .u64 0, .bool false] := ⟨Try.underlying37, Try.t41, _, inf37, rfl, rfl, rfl, rfl, rfl, by decide⟩
theorem inf54 : Try.prog.info? 139 = some Try.t139 := by kernel_rfl
theorem si54 : SI Try.prog 54 139 4 32 [.int .i64 0, .int .i64 0, .int .i64 0, .int .u64 0] := ⟨Try.underlying54, Try.t139, _, inf54, rfl, rfl, rfl, rfl, rfl, by decide⟩
theorem inf55 : Try.prog.info? 144 = some Try.t144 := by kernel_rfl
theorem si55 : SI Try.prog 55 144 2 16 [.int .i64 0, .int .u64 0] := ⟨Try.underlying55, Try.t144, _, inf55, rfl, rfl, rfl, rfl, rfl, by decide⟩
theorem inf56 : Try.prog.info? 44 = some Try.t44 := by kernel_rfl
theorem si56 : SI Try.prog 56 44 3 24 [.int .i64 0, .int .i64 0, .int .i64 0] := ⟨Try.underlying56, Try.t44, _, inf56, rfl, rfl, rfl, rfl, rfl, by decide⟩
theorem inf72 : Try.prog.info? 23 = some Try.t23 := by kernel_rfl
theorem si72 : SI Try.prog 72 23 1 8 [.pointer none] := ⟨Try.underlying72, Try.t23, _, inf72, rfl, rfl, rfl, rfl, rfl, by decide⟩
theorem inf78 : Try.prog.info? 3 = some Try.t3 := by kernel_rfl
theorem si78 : SI Try.prog 78 3 1 8 [.int .i64 0] := ⟨Try.underlying78, Try.t3, _, inf78, rfl, rfl, rfl, rfl, rfl, by decide⟩
theorem inf89 : Try.prog.info? 66 = some Try.t66 := by kernel_rfl
theorem si89 : SI Try.prog 89 66 3 24 [.int .i64 0, .int .i64 0, .int .u64 0] := ⟨Try.underlying89, Try.t66, _, inf89, rfl, rfl, rfl, rfl, rfl, by decide⟩
theorem zv1 : Zv Try.prog 1 [.nilFunc] := ⟨_, rfl, Try.zeroValue1⟩
theorem zv2 : Zv Try.prog 2 [.int .i64 0] := ⟨_, rfl, Try.zeroValue2⟩
theorem zv3 : Zv Try.prog 3 [.int .i64 0] := ⟨_, rfl, Try.zeroValue3⟩
theorem zv4 : Zv Try.prog 4 [.bool false] := ⟨_, rfl, Try.zeroValue4⟩
theorem zv5 : Zv Try.prog 5 [.int .u8 0] := ⟨_, rfl, Try.zeroValue5⟩
theorem zv7 : Zv Try.prog 7 [.int .i64 0, .int .i64 0, .bool false, .int .u8 0] := ⟨_, rfl, Try.zeroValue7⟩
theorem zv9 : Zv Try.prog 9 [.string ByteArray.empty] := ⟨_, rfl, Try.zeroValue9⟩
theorem zv12 : Zv Try.prog 12 [.int .u64 0] := ⟨_, rfl, Try.zeroValue12⟩
theorem zv13 : Zv Try.prog 13 [.string ByteArray.empty, .int .u64 0] := ⟨_, rfl, Try.zeroValue13⟩
theorem zv18 : Zv Try.prog 18 [.pointer none] := ⟨_, rfl, Try.zeroValue18⟩
theorem zv21 : Zv Try.prog 21 [.int .i32 0] := ⟨_, rfl, Try.zeroValue21⟩
theorem zv22 : Zv Try.prog 22 [.nilFunc] := ⟨_, rfl, Try.zeroValue22⟩
theorem zv23 : Zv Try.prog 23 [.pointer none] := ⟨_, rfl, Try.zeroValue23⟩
theorem zv24 : Zv Try.prog 24 [.int .i64 0] := ⟨_, rfl, Try.zeroValue24⟩
theorem zv26 : Zv Try.prog 26 [.nilFunc] := ⟨_, rfl, Try.zeroValue26⟩
theorem zv27 : Zv Try.prog 27 [.int .u64 0] := ⟨_, rfl, Try.zeroValue27⟩
theorem zv28 : Zv Try.prog 28 [.int .u64 0] := ⟨_, rfl, Try.zeroValue28⟩
theorem zv29 : Zv Try.prog 29 [.nilFunc] := ⟨_, rfl, Try.zeroValue29⟩
theorem zv30 : Zv Try.prog 30 [.int .i64 0] := ⟨_, rfl, Try.zeroValue30⟩
theorem zv31 : Zv Try.prog 31 [.nilFunc] := ⟨_, rfl, Try.zeroValue31⟩
theorem zv32 : Zv Try.prog 32 [.int .i64 0, .int .i64 0, .int .i64 0, .int .i64 0] := ⟨_, rfl, Try.zeroValue32⟩
theorem zv33 : Zv Try.prog 33 [.int .i64 0, .int .i64 0, .int .i64 0, .int .i64 0] := ⟨_, rfl, Try.zeroValue33⟩
theorem zv34 : Zv Try.prog 34 [.nilFunc] := ⟨_, rfl, Try.zeroValue34⟩
theorem zv35 : Zv Try.prog 35 [.nilFunc] := ⟨_, rfl, Try.zeroValue35⟩
theorem zv36 : Zv Try.prog 36 [.nilFunc] := ⟨_, rfl, Try.zeroValue36⟩
theorem zv37 : Zv Try.prog 37 [.slice none 0 0] := ⟨_, rfl, Try.zeroValue37⟩
theorem zv38 : Zv Try.prog 38 [.nilFunc] := ⟨_, rfl, Try.zeroValue38⟩
theorem zv39 : Zv Try.prog 39 [.int .i64 0, .int .i64 0, .int .i64 0, .int .i64 0, .int .i64 0, .int .i64 0, .int .i64 0, .int .i64 0, .int .i64 0, .int .i64 0, .int .i64 0, .int .i64 0, .int .i64 0, .int .i64 0, .int .i64 0, .int .i64 0, .int .i64 0, .int .i64 0, .int .i64 0, .int .i64 0, .int .i64 0, .int .i64 0, .int .i64 0, .int .i64 0, .int .i64 0, .int .i64 0, .int .i64 0, .int .i64 0, .int .i64 0, .int .i64 0, .int .i64 0, .int .i64 0, .int .i64 0, .int .i64 0, .int .i64 0, .int .i64 0, .int .i64 0, .int .i64 0, .int .i64 0, .int .i64 0, .int .i64 0, .int .i64 0, .int .i64 0, .int .i64 0, .int .i64 0, .int .i64 0, .int .i64 0, .int .i64 0, .int .i64 0, .int .i64 0, .int .i64 0, .int .i64 0, .int .i64 0, .int .i64 0, .int .i64 0, .int .i64 0, .int .i64 0, .int .i64 0, .int .i64 0, .int .i64 0, .int .i64 0, .int .i64 0, .int .i64 0, .int .i64 0] := ⟨_, rfl, Try.zeroValue39⟩
theorem zv40 : Zv Try.prog 40 [.int .i64 0, .int .i64 0, .int .u64 0, .int .u64 0, .bool false] := ⟨_, rfl, Try.zeroValue40⟩
theorem zv41 : Zv Try.prog 41 [.int .i64 0, .int .i64 0, .int .u64 0, .int .u64 0, .bool false] := ⟨_, rfl, Try.zeroValue41⟩
theorem zv42 : Zv Try.prog 42 [.int .u64 0] := ⟨_, rfl, Try.zeroValue42⟩
theorem zv43 : Zv Try.prog 43 [.int .i64 0, .int .i64 0, .int .i64 0] := ⟨_, rfl, Try.zeroValue43⟩
theorem zv44 : Zv Try.prog 44 [.int .i64 0, .int .i64 0, .int .i64 0] := ⟨_, rfl, Try.zeroValue44⟩
theorem zv46 : Zv Try.prog 46 [.nilFunc] := ⟨_, rfl, Try.zeroValue46⟩
theorem zv47 : Zv Try.prog 47 [.nilFunc] := ⟨_, rfl, Try.zeroValue47⟩
theorem zv48 : Zv Try.prog 48 [.pointer none] := ⟨_, rfl, Try.zeroValue48⟩
theorem zv49 : Zv Try.prog 49 [.nilFunc] := ⟨_, rfl, Try.zeroValue49⟩
theorem zv50 : Zv Try.prog 50 [.nilFunc] := ⟨_, rfl, Try.zeroValue50⟩
theorem zv51 : Zv Try.prog 51 [.nilFunc] := ⟨_, rfl, Try.zeroValue51⟩
theorem zv52 : Zv Try.prog 52 [.nilFunc] := ⟨_, rfl, Try.zeroValue52⟩
theorem zv53 : Zv Try.prog 53 [.nilFunc] := ⟨_, rfl, Try.zeroValue53⟩
theorem zv54 : Zv Try.prog 54 [.slice none 0 0] := ⟨_, rfl, Try.zeroValue54⟩
theorem zv55 : Zv Try.prog 55 [.slice none 0 0] := ⟨_, rfl, Try.zeroValue55⟩
theorem zv56 : Zv Try.prog 56 [.slice none 0 0] := ⟨_, rfl, Try.zeroValue56⟩
theorem zv57 : Zv Try.prog 57 [.int .i64 0, .int .i64 0, .int .u64 0, .int .u64 0, .slice none 0 0, .slice none 0 0, .slice none 0 0] := ⟨_, rfl, Try.zeroValue57⟩
theorem zv58 : Zv Try.prog 58 [.int .i64 0, .int .i64 0, .int .u64 0, .int .u64 0, .slice none 0 0, .slice none 0 0, .slice none 0 0] := ⟨_, rfl, Try.zeroValue58⟩
theorem zv59 : Zv Try.prog 59 [.nilFunc] := ⟨_, rfl, Try.zeroValue59⟩
theorem zv61 : Zv Try.prog 61 [.nilFunc] := ⟨_, rfl, Try.zeroValue61⟩
theorem zv63 : Zv Try.prog 63 [.nilFunc] := ⟨_, rfl, Try.zeroValue63⟩
theorem zv64 : Zv Try.prog 64 [.int .i64 0] := ⟨_, rfl, Try.zeroValue64⟩
theorem zv65 : Zv Try.prog 65 [.int .i64 0, .int .i64 0, .int .u64 0] := ⟨_, rfl, Try.zeroValue65⟩
theorem zv66 : Zv Try.prog 66 [.int .i64 0, .int .i64 0, .int .u64 0] := ⟨_, rfl, Try.zeroValue66⟩
theorem zv67 : Zv Try.prog 67 (List.replicate 64 [.int .i64 0, .int .i64 0, .int .u64 0]).flatten := ⟨_, by kernel_rfl, Try.zeroValue67⟩
theorem zv68 : Zv Try.prog 68 [.pointer none] := ⟨_, rfl, Try.zeroValue68⟩
theorem zv69 : Zv Try.prog 69 [.map none] := ⟨_, rfl, Try.zeroValue69⟩
theorem zv70 : Zv Try.prog 70 ([.int .i64 0, .int .i64 0, .int .u64 0, .int .u64 0] ++ (List.replicate 64 [.int .i64 0, .int .i64 0, .int .u64 0]).flatten ++ [.pointer none, .map none, .slice none 0 0]) := ⟨_, by kernel_rfl, Try.zeroValue70⟩
theorem zv71 : Zv Try.prog 71 ([.int .i64 0, .int .i64 0, .int .u64 0, .int .u64 0] ++ (List.replicate 64 [.int .i64 0, .int .i64 0, .int .u64 0]).flatten ++ [.pointer none, .map none, .slice none 0 0]) := ⟨_, by kernel_rfl, Try.zeroValue71⟩
theorem zv72 : Zv Try.prog 72 [.slice none 0 0] := ⟨_, rfl, Try.zeroValue72⟩
theorem zv73 : Zv Try.prog 73 [.nilFunc] := ⟨_, rfl, Try.zeroValue73⟩
theorem zv74 : Zv Try.prog 74 [.nilFunc] := ⟨_, rfl, Try.zeroValue74⟩
theorem zv75 : Zv Try.prog 75 [.nilFunc] := ⟨_, rfl, Try.zeroValue75⟩
theorem zv76 : Zv Try.prog 76 [.nilFunc] := ⟨_, rfl, Try.zeroValue76⟩
theorem zv77 : Zv Try.prog 77 [.nilFunc] := ⟨_, rfl, Try.zeroValue77⟩
theorem zv78 : Zv Try.prog 78 [.slice none 0 0] := ⟨_, rfl, Try.zeroValue78⟩
theorem zv79 : Zv Try.prog 79 [.nilFunc] := ⟨_, rfl, Try.zeroValue79⟩
theorem zv80 : Zv Try.prog 80 [.nilFunc] := ⟨_, rfl, Try.zeroValue80⟩
theorem zv82 : Zv Try.prog 82 [.nilFunc] := ⟨_, rfl, Try.zeroValue82⟩
theorem zv83 : Zv Try.prog 83 [.nilFunc] := ⟨_, rfl, Try.zeroValue83⟩
theorem zv84 : Zv Try.prog 84 [.nilFunc] := ⟨_, rfl, Try.zeroValue84⟩
theorem zv85 : Zv Try.prog 85 [.int .u64 0, .int .u64 0] := ⟨_, rfl, Try.zeroValue85⟩
theorem zv86 : Zv Try.prog 86 [.int .u64 0, .int .u64 0] := ⟨_, rfl, Try.zeroValue86⟩
theorem zv88 : Zv Try.prog 88 [.nilFunc] := ⟨_, rfl, Try.zeroValue88⟩
theorem zv89 : Zv Try.prog 89 [.slice none 0 0] := ⟨_, rfl, Try.zeroValue89⟩
theorem zv90 : Zv Try.prog 90 [.nilFunc] := ⟨_, rfl, Try.zeroValue90⟩
theorem zv91 : Zv Try.prog 91 [.nilFunc] := ⟨_, rfl, Try.zeroValue91⟩
theorem zv92 : Zv Try.prog 92 [.nilFunc] := ⟨_, rfl, Try.zeroValue92⟩
theorem zv93 : Zv Try.prog 93 [.nilFunc] := ⟨_, rfl, Try.zeroValue93⟩
theorem zv94 : Zv Try.prog 94 [.nilFunc] := ⟨_, rfl, Try.zeroValue94⟩
theorem zv95 : Zv Try.prog 95 [.nilFunc] := ⟨_, rfl, Try.zeroValue95⟩
theorem zv96 : Zv Try.prog 96 [.nilFunc] := ⟨_, rfl, Try.zeroValue96⟩
theorem zv98 : Zv Try.prog 98 [.nilFunc] := ⟨_, rfl, Try.zeroValue98⟩
theorem zv99 : Zv Try.prog 99 [.nilFunc] := ⟨_, rfl, Try.zeroValue99⟩
theorem zv100 : Zv Try.prog 100 [.nilFunc] := ⟨_, rfl, Try.zeroValue100⟩
theorem zv101 : Zv Try.prog 101 [.nilFunc] := ⟨_, rfl, Try.zeroValue101⟩
theorem zv102 : Zv Try.prog 102 [.nilFunc] := ⟨_, rfl, Try.zeroValue102⟩
theorem zv103 : Zv Try.prog 103 [.nilFunc] := ⟨_, rfl, Try.zeroValue103⟩
theorem zv104 : Zv Try.prog 104 [.nilFunc] := ⟨_, rfl, Try.zeroValue104⟩
theorem zv105 : Zv Try.prog 105 [.nilFunc] := ⟨_, rfl, Try.zeroValue105⟩
theorem zv106 : Zv Try.prog 106 [.nilFunc] := ⟨_, rfl, Try.zeroValue106⟩
theorem zv107 : Zv Try.prog 107 [.nilFunc] := ⟨_, rfl, Try.zeroValue107⟩
theorem zv108 : Zv Try.prog 108 [.nilFunc] := ⟨_, rfl, Try.zeroValue108⟩
theorem zv110 : Zv Try.prog 110 [.nilFunc] := ⟨_, rfl, Try.zeroValue110⟩
theorem zv112 : Zv Try.prog 112 [.nilFunc] := ⟨_, rfl, Try.zeroValue112⟩
theorem zv113 : Zv Try.prog 113 [.nilFunc] := ⟨_, rfl, Try.zeroValue113⟩
theorem zv114 : Zv Try.prog 114 [.nilFunc] := ⟨_, rfl, Try.zeroValue114⟩
theorem zv115 : Zv Try.prog 115 [.nilFunc] := ⟨_, rfl, Try.zeroValue115⟩
theorem zv116 : Zv Try.prog 116 [.nilFunc] := ⟨_, rfl, Try.zeroValue116⟩
theorem zv117 : Zv Try.prog 117 [.nilFunc] := ⟨_, rfl, Try.zeroValue117⟩
theorem zv118 : Zv Try.prog 118 [.nilFunc] := ⟨_, rfl, Try.zeroValue118⟩
theorem zv119 : Zv Try.prog 119 [.map none] := ⟨_, rfl, Try.zeroValue119⟩
theorem zv120 : Zv Try.prog 120 [.int .u64 0, .int .u64 0, .int .u64 0] := ⟨_, rfl, Try.zeroValue120⟩
theorem zv121 : Zv Try.prog 121 [.int .u64 0, .int .u64 0, .int .u64 0] := ⟨_, rfl, Try.zeroValue121⟩
theorem zv122 : Zv Try.prog 122 [.int .u64 0, .int .u64 0, .int .u64 0, .map none] := ⟨_, rfl, Try.zeroValue122⟩
theorem zv123 : Zv Try.prog 123 [.int .u64 0, .int .u64 0, .int .u64 0, .map none] := ⟨_, rfl, Try.zeroValue123⟩
theorem zv125 : Zv Try.prog 125 [.nilFunc] := ⟨_, rfl, Try.zeroValue125⟩
theorem zv126 : Zv Try.prog 126 [.nilFunc] := ⟨_, rfl, Try.zeroValue126⟩
theorem zv127 : Zv Try.prog 127 [.nilFunc] := ⟨_, rfl, Try.zeroValue127⟩
theorem zv128 : Zv Try.prog 128 [.int .i64 0, .int .u64 0, .int .u64 0] := ⟨_, rfl, Try.zeroValue128⟩
theorem zv129 : Zv Try.prog 129 [.int .i64 0, .int .u64 0, .int .u64 0] := ⟨_, rfl, Try.zeroValue129⟩
theorem zv131 : Zv Try.prog 131 [.nilFunc] := ⟨_, rfl, Try.zeroValue131⟩
theorem zv132 : Zv Try.prog 132 [.nilFunc] := ⟨_, rfl, Try.zeroValue132⟩
theorem zv133 : Zv Try.prog 133 [.nilFunc] := ⟨_, rfl, Try.zeroValue133⟩
theorem zv134 : Zv Try.prog 134 [.nilFunc] := ⟨_, rfl, Try.zeroValue134⟩
theorem zv135 : Zv Try.prog 135 [.nilFunc] := ⟨_, rfl, Try.zeroValue135⟩
theorem zv136 : Zv Try.prog 136 [.nilFunc] := ⟨_, rfl, Try.zeroValue136⟩
theorem zv137 : Zv Try.prog 137 [.nilFunc] := ⟨_, rfl, Try.zeroValue137⟩
theorem zv138 : Zv Try.prog 138 [.int .i64 0, .int .i64 0, .int .i64 0, .int .u64 0] := ⟨_, rfl, Try.zeroValue138⟩
theorem zv139 : Zv Try.prog 139 [.int .i64 0, .int .i64 0, .int .i64 0, .int .u64 0] := ⟨_, rfl, Try.zeroValue139⟩
theorem zv140 : Zv Try.prog 140 [.nilFunc] := ⟨_, rfl, Try.zeroValue140⟩
theorem zv142 : Zv Try.prog 142 [.nilFunc] := ⟨_, rfl, Try.zeroValue142⟩
theorem zv143 : Zv Try.prog 143 [.int .i64 0, .int .u64 0] := ⟨_, rfl, Try.zeroValue143⟩
theorem zv144 : Zv Try.prog 144 [.int .i64 0, .int .u64 0] := ⟨_, rfl, Try.zeroValue144⟩
theorem zv145 : Zv Try.prog 145 [.nilFunc] := ⟨_, rfl, Try.zeroValue145⟩
theorem zv146 : Zv Try.prog 146 [.nilFunc] := ⟨_, rfl, Try.zeroValue146⟩
theorem zv147 : Zv Try.prog 147 [.nilFunc] := ⟨_, rfl, Try.zeroValue147⟩
theorem zv148 : Zv Try.prog 148 [.nilFunc] := ⟨_, rfl, Try.zeroValue148⟩
theorem zv149 : Zv Try.prog 149 [.nilFunc] := ⟨_, rfl, Try.zeroValue149⟩
theorem zv151 : Zv Try.prog 151 [.nilFunc] := ⟨_, rfl, Try.zeroValue151⟩
theorem zv152 : Zv Try.prog 152 [.int .i64 0] := ⟨_, rfl, Try.zeroValue152⟩
theorem zv154 : Zv Try.prog 154 [.nilFunc] := ⟨_, rfl, Try.zeroValue154⟩
theorem zv155 : Zv Try.prog 155 [.nilFunc] := ⟨_, rfl, Try.zeroValue155⟩
theorem zv156 : Zv Try.prog 156 [.nilFunc] := ⟨_, rfl, Try.zeroValue156⟩
theorem zv157 : Zv Try.prog 157 [.nilFunc] := ⟨_, rfl, Try.zeroValue157⟩
theorem zv158 : Zv Try.prog 158 [.nilFunc] := ⟨_, rfl, Try.zeroValue158⟩
theorem zv159 : Zv Try.prog 159 [.int .u32 0] := ⟨_, rfl, Try.zeroValue159⟩
theorem zv160 : Zv Try.prog 160 [.nilFunc] := ⟨_, rfl, Try.zeroValue160⟩
theorem zv161 : Zv Try.prog 161 [.int .u64 0] := ⟨_, rfl, Try.zeroValue161⟩
theorem zv162 : Zv Try.prog 162 [.nilFunc] := ⟨_, rfl, Try.zeroValue162⟩
theorem zv163 : Zv Try.prog 163 [.nilFunc] := ⟨_, rfl, Try.zeroValue163⟩
theorem zv164 : Zv Try.prog 164 [.nilFunc] := ⟨_, rfl, Try.zeroValue164⟩
theorem zv165 : Zv Try.prog 165 [.pointer none] := ⟨_, rfl, Try.zeroValue165⟩
theorem zv166 : Zv Try.prog 166 [.nilFunc] := ⟨_, rfl, Try.zeroValue166⟩
theorem zv167 : Zv Try.prog 167 [.pointer none] := ⟨_, rfl, Try.zeroValue167⟩
theorem zv169 : Zv Try.prog 169 [.nilFunc] := ⟨_, rfl, Try.zeroValue169⟩
theorem zv170 : Zv Try.prog 170 [.nilFunc] := ⟨_, rfl, Try.zeroValue170⟩
theorem zv171 : Zv Try.prog 171 [.pointer none, .pointer none, .pointer none, .string ByteArray.empty] := ⟨_, rfl, Try.zeroValue171⟩
theorem zv174 : Zv Try.prog 174 [] := ⟨_, rfl, Try.zeroValue174⟩
theorem zv179 : Zv Try.prog 179 [.pointer none] := ⟨_, rfl, Try.zeroValue179⟩
theorem zv182 : Zv Try.prog 182 [.int .u64 0, .int .u64 0, .int .u32 0, .int .u8 0, .int .u8 0, .int .u8 0, .int .u8 0, .nilFunc, .pointer none, .int .i32 0, .int .i32 0] := ⟨_, rfl, Try.zeroValue182⟩
end Go.Proofs.Yteofigbgdbpjgaa
