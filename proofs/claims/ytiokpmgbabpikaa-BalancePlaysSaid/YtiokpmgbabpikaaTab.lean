/-
  What the tables of types say.
-/
import Derived.Test.YtiokpmgbabpikaaRows
import Derived.Test.YtiokpmgbabpikaaZSLArg
namespace Go.Proofs.Ytiokpmgbabpikaa
theorem followsMixed : Try.prog.follows .mixedOrders = true := by kernel_rfl
theorem ag7 : Ag Try.prog 7 4 := fun w => ⟨Try.isAgg7 w, Try.sizeOf7 w⟩
theorem ag13 : Ag Try.prog 13 2 := fun w => ⟨Try.isAgg13 w, Try.sizeOf13 w⟩
theorem ag18 : Ag Try.prog 18 1 := fun w => ⟨Try.isAgg18 w, Try.sizeOf18 w⟩
theorem ag35 : Ag Try.prog 35 2 := fun w => ⟨Try.isAgg35 w, Try.sizeOf35 w⟩
theorem ag36 : Ag Try.prog 36 2 := fun w => ⟨Try.isAgg36 w, Try.sizeOf36 w⟩
theorem ag44 : Ag Try.prog 44 6 := fun w => ⟨Try.isAgg44 w, Try.sizeOf44 w⟩
theorem ag45 : Ag Try.prog 45 6 := fun w => ⟨Try.isAgg45 w, Try.sizeOf45 w⟩
theorem ag47 : Ag Try.prog 47 5 := fun w => ⟨Try.isAgg47 w, Try.sizeOf47 w⟩
theorem ag48 : Ag Try.prog 48 5 := fun w => ⟨Try.isAgg48 w, Try.sizeOf48 w⟩
theorem ag56 : Ag Try.prog 56 6 := fun w => ⟨Try.isAgg56 w, Try.sizeOf56 w⟩
theorem ag57 : Ag Try.prog 57 6 := fun w => ⟨Try.isAgg57 w, Try.sizeOf57 w⟩
theorem ag72 : Ag Try.prog 72 5 := fun w => ⟨Try.isAgg72 w, Try.sizeOf72 w⟩
theorem ag73 : Ag Try.prog 73 5 := fun w => ⟨Try.isAgg73 w, Try.sizeOf73 w⟩
theorem ag76 : Ag Try.prog 76 2 := fun w => ⟨Try.isAgg76 w, Try.sizeOf76 w⟩
theorem ag77 : Ag Try.prog 77 2 := fun w => ⟨Try.isAgg77 w, Try.sizeOf77 w⟩
theorem ag81 : Ag Try.prog 81 5 := fun w => ⟨Try.isAgg81 w, Try.sizeOf81 w⟩
theorem ag82 : Ag Try.prog 82 5 := fun w => ⟨Try.isAgg82 w, Try.sizeOf82 w⟩
theorem ag87 : Ag Try.prog 87 3 := fun w => ⟨Try.isAgg87 w, Try.sizeOf87 w⟩
theorem ag88 : Ag Try.prog 88 3 := fun w => ⟨Try.isAgg88 w, Try.sizeOf88 w⟩
theorem ag98 : Ag Try.prog 98 5 := fun w => ⟨Try.isAgg98 w, Try.sizeOf98 w⟩
theorem ag99 : Ag Try.prog 99 5 := fun w => ⟨Try.isAgg99 w, Try.sizeOf99 w⟩
theorem ag100 : Ag Try.prog 100 10 := fun w => ⟨Try.isAgg100 w, Try.sizeOf100 w⟩
theorem ag101 : Ag Try.prog 101 10 := fun w => ⟨Try.isAgg101 w, Try.sizeOf101 w⟩
theorem ag117 : Ag Try.prog 117 4 := fun w => ⟨Try.isAgg117 w, Try.sizeOf117 w⟩
theorem ag120 : Ag Try.prog 120 0 := fun w => ⟨Try.isAgg120 w, Try.sizeOf120 w⟩
theorem ag129 : Ag Try.prog 129 11 := fun w => ⟨Try.isAgg129 w, Try.sizeOf129 w⟩
theorem fa7_0 : FldAt Try.prog 7 0 0 := FldAt.mk Try.underlying7 rfl rfl Try.sizeOf2 (by decide)
theorem fa7_1 : FldAt Try.prog 7 1 1 := FldAt.mk Try.underlying7 rfl rfl Try.sizeOf3 (by decide)
theorem fa7_2 : FldAt Try.prog 7 2 2 := FldAt.mk Try.underlying7 rfl rfl Try.sizeOf4 (by decide)
theorem fa7_3 : FldAt Try.prog 7 3 3 := FldAt.mk Try.underlying7 rfl rfl Try.sizeOf6 (by decide)
theorem fa13_0 : FldAt Try.prog 13 0 0 := FldAt.mk Try.underlying13 rfl rfl Try.sizeOf9 (by decide)
theorem fa13_1 : FldAt Try.prog 13 1 1 := FldAt.mk Try.underlying13 rfl rfl Try.sizeOf12 (by decide)
theorem fa18_0 : FldAt Try.prog 18 0 0 := FldAt.mk Try.underlying18 rfl rfl Try.sizeOf17 (by decide)
theorem fa35_0 : FldAt Try.prog 35 0 0 := FldAt.mk Try.underlying35 rfl rfl Try.sizeOf3 (by decide)
theorem fa35_1 : FldAt Try.prog 35 1 1 := FldAt.mk Try.underlying35 rfl rfl Try.sizeOf3 (by decide)
theorem fa36_0 : FldAt Try.prog 36 0 0 := FldAt.mk Try.underlying36 rfl rfl Try.sizeOf3 (by decide)
theorem fa36_1 : FldAt Try.prog 36 1 1 := FldAt.mk Try.underlying36 rfl rfl Try.sizeOf3 (by decide)
theorem fa44_0 : FldAt Try.prog 44 0 0 := FldAt.mk Try.underlying44 rfl rfl Try.sizeOf28 (by decide)
theorem fa44_1 : FldAt Try.prog 44 1 1 := FldAt.mk Try.underlying44 rfl rfl Try.sizeOf42 (by decide)
theorem fa44_2 : FldAt Try.prog 44 2 2 := FldAt.mk Try.underlying44 rfl rfl Try.sizeOf3 (by decide)
theorem fa44_3 : FldAt Try.prog 44 3 3 := FldAt.mk Try.underlying44 rfl rfl Try.sizeOf3 (by decide)
theorem fa44_4 : FldAt Try.prog 44 4 4 := FldAt.mk Try.underlying44 rfl rfl Try.sizeOf43 (by decide)
theorem fa44_5 : FldAt Try.prog 44 5 5 := FldAt.mk Try.underlying44 rfl rfl Try.sizeOf30 (by decide)
theorem fa45_0 : FldAt Try.prog 45 0 0 := FldAt.mk Try.underlying45 rfl rfl Try.sizeOf28 (by decide)
theorem fa45_1 : FldAt Try.prog 45 1 1 := FldAt.mk Try.underlying45 rfl rfl Try.sizeOf42 (by decide)
theorem fa45_2 : FldAt Try.prog 45 2 2 := FldAt.mk Try.underlying45 rfl rfl Try.sizeOf3 (by decide)
theorem fa45_3 : FldAt Try.prog 45 3 3 := FldAt.mk Try.underlying45 rfl rfl Try.sizeOf3 (by decide)
theorem fa45_4 : FldAt Try.prog 45 4 4 := FldAt.mk Try.underlying45 rfl rfl Try.sizeOf43 (by decide)
theorem fa45_5 : FldAt Try.prog 45 5 5 := FldAt.mk Try.underlying45 rfl rfl Try.sizeOf30 (by decide)
theorem fa47_0 : FldAt Try.prog 47 0 0 := FldAt.mk Try.underlying47 rfl rfl Try.sizeOf3 (by decide)
theorem fa47_1 : FldAt Try.prog 47 1 1 := FldAt.mk Try.underlying47 rfl rfl Try.sizeOf3 (by decide)
theorem fa47_2 : FldAt Try.prog 47 2 2 := FldAt.mk Try.underlying47 rfl rfl Try.sizeOf30 (by decide)
theorem fa47_3 : FldAt Try.prog 47 3 3 := FldAt.mk Try.underlying47 rfl rfl Try.sizeOf9 (by decide)
theorem fa47_4 : FldAt Try.prog 47 4 4 := FldAt.mk Try.underlying47 rfl rfl Try.sizeOf4 (by decide)
theorem fa48_0 : FldAt Try.prog 48 0 0 := FldAt.mk Try.underlying48 rfl rfl Try.sizeOf3 (by decide)
theorem fa48_1 : FldAt Try.prog 48 1 1 := FldAt.mk Try.underlying48 rfl rfl Try.sizeOf3 (by decide)
theorem fa48_2 : FldAt Try.prog 48 2 2 := FldAt.mk Try.underlying48 rfl rfl Try.sizeOf30 (by decide)
theorem fa48_3 : FldAt Try.prog 48 3 3 := FldAt.mk Try.underlying48 rfl rfl Try.sizeOf9 (by decide)
theorem fa48_4 : FldAt Try.prog 48 4 4 := FldAt.mk Try.underlying48 rfl rfl Try.sizeOf4 (by decide)
theorem fa56_0 : FldAt Try.prog 56 0 0 := FldAt.mk Try.underlying56 rfl rfl Try.sizeOf53 (by decide)
theorem fa56_1 : FldAt Try.prog 56 1 1 := FldAt.mk Try.underlying56 rfl rfl Try.sizeOf54 (by decide)
theorem fa56_2 : FldAt Try.prog 56 2 2 := FldAt.mk Try.underlying56 rfl rfl Try.sizeOf3 (by decide)
theorem fa56_3 : FldAt Try.prog 56 3 3 := FldAt.mk Try.underlying56 rfl rfl Try.sizeOf3 (by decide)
theorem fa56_4 : FldAt Try.prog 56 4 4 := FldAt.mk Try.underlying56 rfl rfl Try.sizeOf55 (by decide)
theorem fa56_5 : FldAt Try.prog 56 5 5 := FldAt.mk Try.underlying56 rfl rfl Try.sizeOf30 (by decide)
theorem fa57_0 : FldAt Try.prog 57 0 0 := FldAt.mk Try.underlying57 rfl rfl Try.sizeOf53 (by decide)
theorem fa57_1 : FldAt Try.prog 57 1 1 := FldAt.mk Try.underlying57 rfl rfl Try.sizeOf54 (by decide)
theorem fa57_2 : FldAt Try.prog 57 2 2 := FldAt.mk Try.underlying57 rfl rfl Try.sizeOf3 (by decide)
theorem fa57_3 : FldAt Try.prog 57 3 3 := FldAt.mk Try.underlying57 rfl rfl Try.sizeOf3 (by decide)
theorem fa57_4 : FldAt Try.prog 57 4 4 := FldAt.mk Try.underlying57 rfl rfl Try.sizeOf55 (by decide)
theorem fa57_5 : FldAt Try.prog 57 5 5 := FldAt.mk Try.underlying57 rfl rfl Try.sizeOf30 (by decide)
theorem fa72_0 : FldAt Try.prog 72 0 0 := FldAt.mk Try.underlying72 rfl rfl Try.sizeOf3 (by decide)
theorem fa72_1 : FldAt Try.prog 72 1 1 := FldAt.mk Try.underlying72 rfl rfl Try.sizeOf3 (by decide)
theorem fa72_2 : FldAt Try.prog 72 2 2 := FldAt.mk Try.underlying72 rfl rfl Try.sizeOf3 (by decide)
theorem fa72_3 : FldAt Try.prog 72 3 3 := FldAt.mk Try.underlying72 rfl rfl Try.sizeOf4 (by decide)
theorem fa72_4 : FldAt Try.prog 72 4 4 := FldAt.mk Try.underlying72 rfl rfl Try.sizeOf69 (by decide)
theorem fa73_0 : FldAt Try.prog 73 0 0 := FldAt.mk Try.underlying73 rfl rfl Try.sizeOf3 (by decide)
theorem fa73_1 : FldAt Try.prog 73 1 1 := FldAt.mk Try.underlying73 rfl rfl Try.sizeOf3 (by decide)
theorem fa73_2 : FldAt Try.prog 73 2 2 := FldAt.mk Try.underlying73 rfl rfl Try.sizeOf3 (by decide)
theorem fa73_3 : FldAt Try.prog 73 3 3 := FldAt.mk Try.underlying73 rfl rfl Try.sizeOf4 (by decide)
theorem fa73_4 : FldAt Try.prog 73 4 4 := FldAt.mk Try.underlying73 rfl rfl Try.sizeOf69 (by decide)
theorem fa76_0 : FldAt Try.prog 76 0 0 := FldAt.mk Try.underlying76 rfl rfl Try.sizeOf3 (by decide)
theorem fa76_1 : FldAt Try.prog 76 1 1 := FldAt.mk Try.underlying76 rfl rfl Try.sizeOf3 (by decide)
theorem fa77_0 : FldAt Try.prog 77 0 0 := FldAt.mk Try.underlying77 rfl rfl Try.sizeOf3 (by decide)
theorem fa77_1 : FldAt Try.prog 77 1 1 := FldAt.mk Try.underlying77 rfl rfl Try.sizeOf3 (by decide)
theorem fa81_0 : FldAt Try.prog 81 0 0 := FldAt.mk Try.underlying81 rfl rfl Try.sizeOf3 (by decide)
theorem fa81_1 : FldAt Try.prog 81 1 1 := FldAt.mk Try.underlying81 rfl rfl Try.sizeOf3 (by decide)
theorem fa81_2 : FldAt Try.prog 81 2 2 := FldAt.mk Try.underlying81 rfl rfl Try.sizeOf3 (by decide)
theorem fa81_3 : FldAt Try.prog 81 3 3 := FldAt.mk Try.underlying81 rfl rfl Try.sizeOf4 (by decide)
theorem fa81_4 : FldAt Try.prog 81 4 4 := FldAt.mk Try.underlying81 rfl rfl Try.sizeOf69 (by decide)
theorem fa82_0 : FldAt Try.prog 82 0 0 := FldAt.mk Try.underlying82 rfl rfl Try.sizeOf3 (by decide)
theorem fa82_1 : FldAt Try.prog 82 1 1 := FldAt.mk Try.underlying82 rfl rfl Try.sizeOf3 (by decide)
theorem fa82_2 : FldAt Try.prog 82 2 2 := FldAt.mk Try.underlying82 rfl rfl Try.sizeOf3 (by decide)
theorem fa82_3 : FldAt Try.prog 82 3 3 := FldAt.mk Try.underlying82 rfl rfl Try.sizeOf4 (by decide)
theorem fa82_4 : FldAt Try.prog 82 4 4 := FldAt.mk Try.underlying82 rfl rfl Try.sizeOf69 (by decide)
theorem fa87_0 : FldAt Try.prog 87 0 0 := FldAt.mk Try.underlying87 rfl rfl Try.sizeOf3 (by decide)
theorem fa87_1 : FldAt Try.prog 87 1 1 := FldAt.mk Try.underlying87 rfl rfl Try.sizeOf3 (by decide)
theorem fa87_2 : FldAt Try.prog 87 2 2 := FldAt.mk Try.underlying87 rfl rfl Try.sizeOf3 (by decide)
theorem fa88_0 : FldAt Try.prog 88 0 0 := FldAt.mk Try.underlying88 rfl rfl Try.sizeOf3 (by decide)
theorem fa88_1 : FldAt Try.prog 88 1 1 := FldAt.mk Try.underlying88 rfl rfl Try.sizeOf3 (by decide)
theorem fa88_2 : FldAt Try.prog 88 2 2 := FldAt.mk Try.underlying88 rfl rfl Try.sizeOf3 (by decide)
theorem fa98_0 : FldAt Try.prog 98 0 0 := FldAt.mk Try.underlying98 rfl rfl Try.sizeOf97 (by decide)
theorem fa98_1 : FldAt Try.prog 98 1 1 := FldAt.mk Try.underlying98 rfl rfl Try.sizeOf30 (by decide)
theorem fa98_2 : FldAt Try.prog 98 2 2 := FldAt.mk Try.underlying98 rfl rfl Try.sizeOf3 (by decide)
theorem fa98_3 : FldAt Try.prog 98 3 3 := FldAt.mk Try.underlying98 rfl rfl Try.sizeOf3 (by decide)
theorem fa98_4 : FldAt Try.prog 98 4 4 := FldAt.mk Try.underlying98 rfl rfl Try.sizeOf3 (by decide)
theorem fa99_0 : FldAt Try.prog 99 0 0 := FldAt.mk Try.underlying99 rfl rfl Try.sizeOf97 (by decide)
theorem fa99_1 : FldAt Try.prog 99 1 1 := FldAt.mk Try.underlying99 rfl rfl Try.sizeOf30 (by decide)
theorem fa99_2 : FldAt Try.prog 99 2 2 := FldAt.mk Try.underlying99 rfl rfl Try.sizeOf3 (by decide)
theorem fa99_3 : FldAt Try.prog 99 3 3 := FldAt.mk Try.underlying99 rfl rfl Try.sizeOf3 (by decide)
theorem fa99_4 : FldAt Try.prog 99 4 4 := FldAt.mk Try.underlying99 rfl rfl Try.sizeOf3 (by decide)
theorem fa100_0 : FldAt Try.prog 100 0 0 := FldAt.mk Try.underlying100 rfl rfl Try.sizeOf3 (by decide)
theorem fa100_1 : FldAt Try.prog 100 1 1 := FldAt.mk Try.underlying100 rfl rfl Try.sizeOf3 (by decide)
theorem fa100_2 : FldAt Try.prog 100 2 2 := FldAt.mk Try.underlying100 rfl rfl Try.sizeOf30 (by decide)
theorem fa100_3 : FldAt Try.prog 100 3 3 := FldAt.mk Try.underlying100 rfl rfl Try.sizeOf30 (by decide)
theorem fa100_4 : FldAt Try.prog 100 4 4 := FldAt.mk Try.underlying100 rfl rfl Try.sizeOf3 (by decide)
theorem fa100_5 : FldAt Try.prog 100 5 5 := FldAt.mk Try.underlying100 rfl rfl Try.sizeOf99 (by decide)
theorem fa101_0 : FldAt Try.prog 101 0 0 := FldAt.mk Try.underlying101 rfl rfl Try.sizeOf3 (by decide)
theorem fa101_1 : FldAt Try.prog 101 1 1 := FldAt.mk Try.underlying101 rfl rfl Try.sizeOf3 (by decide)
theorem fa101_2 : FldAt Try.prog 101 2 2 := FldAt.mk Try.underlying101 rfl rfl Try.sizeOf30 (by decide)
theorem fa101_3 : FldAt Try.prog 101 3 3 := FldAt.mk Try.underlying101 rfl rfl Try.sizeOf30 (by decide)
theorem fa101_4 : FldAt Try.prog 101 4 4 := FldAt.mk Try.underlying101 rfl rfl Try.sizeOf3 (by decide)
theorem fa101_5 : FldAt Try.prog 101 5 5 := FldAt.mk Try.underlying101 rfl rfl Try.sizeOf99 (by decide)
theorem fa117_0 : FldAt Try.prog 117 0 0 := FldAt.mk Try.underlying117 rfl rfl Try.sizeOf17 (by decide)
theorem fa117_1 : FldAt Try.prog 117 1 1 := FldAt.mk Try.underlying117 rfl rfl Try.sizeOf17 (by decide)
theorem fa117_2 : FldAt Try.prog 117 2 2 := FldAt.mk Try.underlying117 rfl rfl Try.sizeOf17 (by decide)
theorem fa117_3 : FldAt Try.prog 117 3 3 := FldAt.mk Try.underlying117 rfl rfl Try.sizeOf9 (by decide)
theorem fa129_0 : FldAt Try.prog 129 0 0 := FldAt.mk Try.underlying129 rfl rfl Try.sizeOf12 (by decide)
theorem fa129_1 : FldAt Try.prog 129 1 1 := FldAt.mk Try.underlying129 rfl rfl Try.sizeOf12 (by decide)
theorem fa129_2 : FldAt Try.prog 129 2 2 := FldAt.mk Try.underlying129 rfl rfl Try.sizeOf22 (by decide)
theorem fa129_3 : FldAt Try.prog 129 3 3 := FldAt.mk Try.underlying129 rfl rfl Try.sizeOf123 (by decide)
theorem fa129_4 : FldAt Try.prog 129 4 4 := FldAt.mk Try.underlying129 rfl rfl Try.sizeOf5 (by decide)
theorem fa129_5 : FldAt Try.prog 129 5 5 := FldAt.mk Try.underlying129 rfl rfl Try.sizeOf5 (by decide)
theorem fa129_6 : FldAt Try.prog 129 6 6 := FldAt.mk Try.underlying129 rfl rfl Try.sizeOf124 (by decide)
theorem fa129_7 : FldAt Try.prog 129 7 7 := FldAt.mk Try.underlying129 rfl rfl Try.sizeOf125 (by decide)
theorem fa129_8 : FldAt Try.prog 129 8 8 := FldAt.mk Try.underlying129 rfl rfl Try.sizeOf126 (by decide)
theorem fa129_9 : FldAt Try.prog 129 9 9 := FldAt.mk Try.underlying129 rfl rfl Try.sizeOf127 (by decide)
theorem fa129_10 : FldAt Try.prog 129 10 10 := FldAt.mk Try.underlying129 rfl rfl Try.sizeOf128 (by decide)
theorem pl7 : Places Try.prog 7 [(0, 1), (1, 1), (2, 1), (3, 1)] := ⟨_, Try.underlying7, fun w => by simp [Try.sizeOf2, Try.sizeOf3, Try.sizeOf4, Try.sizeOf6]⟩
theorem pl13 : Places Try.prog 13 [(0, 1), (1, 1)] := ⟨_, Try.underlying13, fun w => by simp [Try.sizeOf12, Try.sizeOf9]⟩
theorem pl18 : Places Try.prog 18 [(0, 1)] := ⟨_, Try.underlying18, fun w => by simp [Try.sizeOf17]⟩
theorem pl35 : Places Try.prog 35 [(0, 1), (1, 1)] := ⟨_, Try.underlying35, fun w => by simp [Try.sizeOf3]⟩
theorem pl36 : Places Try.prog 36 [(0, 1), (1, 1)] := ⟨_, Try.underlying36, fun w => by simp [Try.sizeOf3]⟩
theorem pl44 : Places Try.prog 44 [(0, 1), (1, 1), (2, 1), (3, 1), (4, 1), (5, 1)] := ⟨_, Try.underlying44, fun w => by simp [Try.sizeOf28, Try.sizeOf3, Try.sizeOf30, Try.sizeOf42, Try.sizeOf43]⟩
theorem pl45 : Places Try.prog 45 [(0, 1), (1, 1), (2, 1), (3, 1), (4, 1), (5, 1)] := ⟨_, Try.underlying45, fun w => by simp [Try.sizeOf28, Try.sizeOf3, Try.sizeOf30, Try.sizeOf42, Try.sizeOf43]⟩
theorem pl47 : Places Try.prog 47 [(0, 1), (1, 1), (2, 1), (3, 1), (4, 1)] := ⟨_, Try.underlying47, fun w => by simp [Try.sizeOf3, Try.sizeOf30, Try.sizeOf4, Try.sizeOf9]⟩
theorem pl48 : Places Try.prog 48 [(0, 1), (1, 1), (2, 1), (3, 1), (4, 1)] := ⟨_, Try.underlying48, fun w => by simp [Try.sizeOf3, Try.sizeOf30, Try.sizeOf4, Try.sizeOf9]⟩
theorem pl56 : Places Try.prog 56 [(0, 1), (1, 1), (2, 1), (3, 1), (4, 1), (5, 1)] := ⟨_, Try.underlying56, fun w => by simp [Try.sizeOf3, Try.sizeOf30, Try.sizeOf53, Try.sizeOf54, Try.sizeOf55]⟩
theorem pl57 : Places Try.prog 57 [(0, 1), (1, 1), (2, 1), (3, 1), (4, 1), (5, 1)] := ⟨_, Try.underlying57, fun w => by simp [Try.sizeOf3, Try.sizeOf30, Try.sizeOf53, Try.sizeOf54, Try.sizeOf55]⟩
theorem pl72 : Places Try.prog 72 [(0, 1), (1, 1), (2, 1), (3, 1), (4, 1)] := ⟨_, Try.underlying72, fun w => by simp [Try.sizeOf3, Try.sizeOf4, Try.sizeOf69]⟩
theorem pl73 : Places Try.prog 73 [(0, 1), (1, 1), (2, 1), (3, 1), (4, 1)] := ⟨_, Try.underlying73, fun w => by simp [Try.sizeOf3, Try.sizeOf4, Try.sizeOf69]⟩
theorem pl76 : Places Try.prog 76 [(0, 1), (1, 1)] := ⟨_, Try.underlying76, fun w => by simp [Try.sizeOf3]⟩
theorem pl77 : Places Try.prog 77 [(0, 1), (1, 1)] := ⟨_, Try.underlying77, fun w => by simp [Try.sizeOf3]⟩
theorem pl81 : Places Try.prog 81 [(0, 1), (1, 1), (2, 1), (3, 1), (4, 1)] := ⟨_, Try.underlying81, fun w => by simp [Try.sizeOf3, Try.sizeOf4, Try.sizeOf69]⟩
theorem pl82 : Places Try.prog 82 [(0, 1), (1, 1), (2, 1), (3, 1), (4, 1)] := ⟨_, Try.underlying82, fun w => by simp [Try.sizeOf3, Try.sizeOf4, Try.sizeOf69]⟩
theorem pl87 : Places Try.prog 87 [(0, 1), (1, 1), (2, 1)] := ⟨_, Try.underlying87, fun w => by simp [Try.sizeOf3]⟩
theorem pl88 : Places Try.prog 88 [(0, 1), (1, 1), (2, 1)] := ⟨_, Try.underlying88, fun w => by simp [Try.sizeOf3]⟩
theorem pl98 : Places Try.prog 98 [(0, 1), (1, 1), (2, 1), (3, 1), (4, 1)] := ⟨_, Try.underlying98, fun w => by simp [Try.sizeOf3, Try.sizeOf30, Try.sizeOf97]⟩
theorem pl99 : Places Try.prog 99 [(0, 1), (1, 1), (2, 1), (3, 1), (4, 1)] := ⟨_, Try.underlying99, fun w => by simp [Try.sizeOf3, Try.sizeOf30, Try.sizeOf97]⟩
theorem pl100 : Places Try.prog 100 [(0, 1), (1, 1), (2, 1), (3, 1), (4, 1), (5, 5)] := ⟨_, Try.underlying100, fun w => by simp [Try.sizeOf3, Try.sizeOf30, Try.sizeOf99]⟩
theorem pl101 : Places Try.prog 101 [(0, 1), (1, 1), (2, 1), (3, 1), (4, 1), (5, 5)] := ⟨_, Try.underlying101, fun w => by simp [Try.sizeOf3, Try.sizeOf30, Try.sizeOf99]⟩
theorem pl117 : Places Try.prog 117 [(0, 1), (1, 1), (2, 1), (3, 1)] := ⟨_, Try.underlying117, fun w => by simp [Try.sizeOf17, Try.sizeOf9]⟩
theorem pl120 : Places Try.prog 120 [(0, 0)] := ⟨_, Try.underlying120, fun w => by simp [Try.sizeOf119]⟩
theorem pl129 : Places Try.prog 129 [(0, 1), (1, 1), (2, 1), (3, 1), (4, 1), (5, 1), (6, 1), (7, 1), (8, 1), (9, 1), (10, 1)] := ⟨_, Try.underlying129, fun w => by simp [Try.sizeOf12, Try.sizeOf123, Try.sizeOf124, Try.sizeOf125, Try.sizeOf126, Try.sizeOf127, Try.sizeOf128, Try.sizeOf22, Try.sizeOf5]⟩
theorem sc1 : Sc Try.prog 1 := fun w => ⟨Try.isAgg1 w, Try.sizeOf1 w⟩
theorem sc2 : Sc Try.prog 2 := fun w => ⟨Try.isAgg2 w, Try.sizeOf2 w⟩
theorem sc3 : Sc Try.prog 3 := fun w => ⟨Try.isAgg3 w, Try.sizeOf3 w⟩
theorem sc4 : Sc Try.prog 4 := fun w => ⟨Try.isAgg4 w, Try.sizeOf4 w⟩
theorem sc5 : Sc Try.prog 5 := fun w => ⟨Try.isAgg5 w, Try.sizeOf5 w⟩
theorem sc9 : Sc Try.prog 9 := fun w => ⟨Try.isAgg9 w, Try.sizeOf9 w⟩
theorem sc12 : Sc Try.prog 12 := fun w => ⟨Try.isAgg12 w, Try.sizeOf12 w⟩
theorem sc21 : Sc Try.prog 21 := fun w => ⟨Try.isAgg21 w, Try.sizeOf21 w⟩
theorem sc22 : Sc Try.prog 22 := fun w => ⟨Try.isAgg22 w, Try.sizeOf22 w⟩
theorem sc23 : Sc Try.prog 23 := fun w => ⟨Try.isAgg23 w, Try.sizeOf23 w⟩
theorem sc24 : Sc Try.prog 24 := fun w => ⟨Try.isAgg24 w, Try.sizeOf24 w⟩
theorem sc25 : Sc Try.prog 25 := fun w => ⟨Try.isAgg25 w, Try.sizeOf25 w⟩
theorem sc26 : Sc Try.prog 26 := fun w => ⟨Try.isAgg26 w, Try.sizeOf26 w⟩
theorem sc27 : Sc Try.prog 27 := fun w => ⟨Try.isAgg27 w, Try.sizeOf27 w⟩
theorem sc28 : Sc Try.prog 28 := fun w => ⟨Try.isAgg28 w, Try.sizeOf28 w⟩
theorem sc29 : Sc Try.prog 29 := fun w => ⟨Try.isAgg29 w, Try.sizeOf29 w⟩
theorem sc30 : Sc Try.prog 30 := fun w => ⟨Try.isAgg30 w, Try.sizeOf30 w⟩
theorem sc31 : Sc Try.prog 31 := fun w => ⟨Try.isAgg31 w, Try.sizeOf31 w⟩
theorem sc32 : Sc Try.prog 32 := fun w => ⟨Try.isAgg32 w, Try.sizeOf32 w⟩
theorem sc34 : Sc Try.prog 34 := fun w => ⟨Try.isAgg34 w, Try.sizeOf34 w⟩
theorem sc38 : Sc Try.prog 38 := fun w => ⟨Try.isAgg38 w, Try.sizeOf38 w⟩
theorem sc39 : Sc Try.prog 39 := fun w => ⟨Try.isAgg39 w, Try.sizeOf39 w⟩
theorem sc40 : Sc Try.prog 40 := fun w => ⟨Try.isAgg40 w, Try.sizeOf40 w⟩
theorem sc41 : Sc Try.prog 41 := fun w => ⟨Try.isAgg41 w, Try.sizeOf41 w⟩
theorem sc42 : Sc Try.prog 42 := fun w => ⟨Try.isAgg42 w, Try.sizeOf42 w⟩
theorem sc43 : Sc Try.prog 43 := fun w => ⟨Try.isAgg43 w, Try.sizeOf43 w⟩
theorem sc46 : Sc Try.prog 46 := fun w => ⟨Try.isAgg46 w, Try.sizeOf46 w⟩
theorem sc50 : Sc Try.prog 50 := fun w => ⟨Try.isAgg50 w, Try.sizeOf50 w⟩
theorem sc51 : Sc Try.prog 51 := fun w => ⟨Try.isAgg51 w, Try.sizeOf51 w⟩
theorem sc52 : Sc Try.prog 52 := fun w => ⟨Try.isAgg52 w, Try.sizeOf52 w⟩
theorem sc53 : Sc Try.prog 53 := fun w => ⟨Try.isAgg53 w, Try.sizeOf53 w⟩
theorem sc54 : Sc Try.prog 54 := fun w => ⟨Try.isAgg54 w, Try.sizeOf54 w⟩
theorem sc55 : Sc Try.prog 55 := fun w => ⟨Try.isAgg55 w, Try.sizeOf55 w⟩
theorem sc58 : Sc Try.prog 58 := fun w => ⟨Try.isAgg58 w, Try.sizeOf58 w⟩
theorem sc60 : Sc Try.prog 60 := fun w => ⟨Try.isAgg60 w, Try.sizeOf60 w⟩
theorem sc61 : Sc Try.prog 61 := fun w => ⟨Try.isAgg61 w, Try.sizeOf61 w⟩
theorem sc62 : Sc Try.prog 62 := fun w => ⟨Try.isAgg62 w, Try.sizeOf62 w⟩
theorem sc63 : Sc Try.prog 63 := fun w => ⟨Try.isAgg63 w, Try.sizeOf63 w⟩
theorem sc64 : Sc Try.prog 64 := fun w => ⟨Try.isAgg64 w, Try.sizeOf64 w⟩
theorem sc65 : Sc Try.prog 65 := fun w => ⟨Try.isAgg65 w, Try.sizeOf65 w⟩
theorem sc66 : Sc Try.prog 66 := fun w => ⟨Try.isAgg66 w, Try.sizeOf66 w⟩
theorem sc67 : Sc Try.prog 67 := fun w => ⟨Try.isAgg67 w, Try.sizeOf67 w⟩
theorem sc68 : Sc Try.prog 68 := fun w => ⟨Try.isAgg68 w, Try.sizeOf68 w⟩
theorem sc69 : Sc Try.prog 69 := fun w => ⟨Try.isAgg69 w, Try.sizeOf69 w⟩
theorem sc71 : Sc Try.prog 71 := fun w => ⟨Try.isAgg71 w, Try.sizeOf71 w⟩
theorem sc74 : Sc Try.prog 74 := fun w => ⟨Try.isAgg74 w, Try.sizeOf74 w⟩
theorem sc75 : Sc Try.prog 75 := fun w => ⟨Try.isAgg75 w, Try.sizeOf75 w⟩
theorem sc78 : Sc Try.prog 78 := fun w => ⟨Try.isAgg78 w, Try.sizeOf78 w⟩
theorem sc80 : Sc Try.prog 80 := fun w => ⟨Try.isAgg80 w, Try.sizeOf80 w⟩
theorem sc84 : Sc Try.prog 84 := fun w => ⟨Try.isAgg84 w, Try.sizeOf84 w⟩
theorem sc85 : Sc Try.prog 85 := fun w => ⟨Try.isAgg85 w, Try.sizeOf85 w⟩
theorem sc86 : Sc Try.prog 86 := fun w => ⟨Try.isAgg86 w, Try.sizeOf86 w⟩
theorem sc91 : Sc Try.prog 91 := fun w => ⟨Try.isAgg91 w, Try.sizeOf91 w⟩
theorem sc92 : Sc Try.prog 92 := fun w => ⟨Try.isAgg92 w, Try.sizeOf92 w⟩
theorem sc93 : Sc Try.prog 93 := fun w => ⟨Try.isAgg93 w, Try.sizeOf93 w⟩
theorem sc94 : Sc Try.prog 94 := fun w => ⟨Try.isAgg94 w, Try.sizeOf94 w⟩
theorem sc95 : Sc Try.prog 95 := fun w => ⟨Try.isAgg95 w, Try.sizeOf95 w⟩
theorem sc96 : Sc Try.prog 96 := fun w => ⟨Try.isAgg96 w, Try.sizeOf96 w⟩
theorem sc97 : Sc Try.prog 97 := fun w => ⟨Try.isAgg97 w, Try.sizeOf97 w⟩
theorem sc102 : Sc Try.prog 102 := fun w => ⟨Try.isAgg102 w, Try.sizeOf102 w⟩
theorem sc103 : Sc Try.prog 103 := fun w => ⟨Try.isAgg103 w, Try.sizeOf103 w⟩
theorem sc104 : Sc Try.prog 104 := fun w => ⟨Try.isAgg104 w, Try.sizeOf104 w⟩
theorem sc105 : Sc Try.prog 105 := fun w => ⟨Try.isAgg105 w, Try.sizeOf105 w⟩
theorem sc106 : Sc Try.prog 106 := fun w => ⟨Try.isAgg106 w, Try.sizeOf106 w⟩
theorem sc107 : Sc Try.prog 107 := fun w => ⟨Try.isAgg107 w, Try.sizeOf107 w⟩
theorem sc108 : Sc Try.prog 108 := fun w => ⟨Try.isAgg108 w, Try.sizeOf108 w⟩
theorem sc109 : Sc Try.prog 109 := fun w => ⟨Try.isAgg109 w, Try.sizeOf109 w⟩
theorem sc110 : Sc Try.prog 110 := fun w => ⟨Try.isAgg110 w, Try.sizeOf110 w⟩
theorem sc111 : Sc Try.prog 111 := fun w => ⟨Try.isAgg111 w, Try.sizeOf111 w⟩
theorem sc112 : Sc Try.prog 112 := fun w => ⟨Try.isAgg112 w, Try.sizeOf112 w⟩
theorem sc113 : Sc Try.prog 113 := fun w => ⟨Try.isAgg113 w, Try.sizeOf113 w⟩
theorem sc114 : Sc Try.prog 114 := fun w => ⟨Try.isAgg114 w, Try.sizeOf114 w⟩
theorem sc115 : Sc Try.prog 115 := fun w => ⟨Try.isAgg115 w, Try.sizeOf115 w⟩
theorem sc116 : Sc Try.prog 116 := fun w => ⟨Try.isAgg116 w, Try.sizeOf116 w⟩
theorem sc122 : Sc Try.prog 122 := fun w => ⟨Try.isAgg122 w, Try.sizeOf122 w⟩
theorem sc126 : Sc Try.prog 126 := fun w => ⟨Try.isAgg126 w, Try.sizeOf126 w⟩
set_option linter.unusedSimpArgs false in
theorem eqin7_10000 (a0 b0 : Int) (a1 b1 : Int) (a2 b2 : Bool) (a3 b3 : Int) (w : World) : (Op.equalIn 10000 7 (.agg #[.int .i64 a0, .int .i64 a1, .bool a2, .int .u8 a3]) (.agg #[.int .i64 b0, .int .i64 b1, .bool b2, .int .u8 b3])).run Try.prog w = .ok (decide (a0 = b0 ∧ a1 = b1 ∧ a2 = b2 ∧ a3 = b3)) w := by
  rw [run_equalIn_struct w 9999 7 _ _ (by simp [Program.fieldsOf, Try.underlying7]) Try.stoodInHeld7]
  by_cases h0 : a0 = b0 <;> by_cases h1 : a1 = b1 <;> by_cases h2 : a2 = b2 <;> by_cases h3 : a3 = b3 <;> simp [Program.fieldsOf, Try.underlying7, Op.eqFields, part, Try.isAgg2, Try.isAgg3, Try.isAgg4, Try.isAgg6, run_equalIn_bool' w 9998 4 _ _ Try.underlying4, run_equalIn_int w 9998 2 .i64 .i64 _ _ Try.underlying2, run_equalIn_int w 9998 3 .i64 .i64 _ _ Try.underlying3, run_equalIn_int w 9998 6 .u8 .u8 _ _ Try.underlying6, h0, h1, h2, h3]
theorem seq7 (a0 b0 : Int) (a1 b1 : Int) (a2 b2 : Bool) (a3 b3 : Int) (w : World) : (binOp .eql 7 (.agg #[.int .i64 a0, .int .i64 a1, .bool a2, .int .u8 a3]) (.agg #[.int .i64 b0, .int .i64 b1, .bool b2, .int .u8 b3])).run Try.prog w = .ok (.bool (decide (a0 = b0 ∧ a1 = b1 ∧ a2 = b2 ∧ a3 = b3))) w := by
  rw [run_eql_struct, eqin7_10000]
  rfl
theorem R_seq7 {X : Ctx} {E : Env} {H : Heap} {o : Oper} {x y : Operand} {t' : TypeId} {a0 b0 : Int} {a1 b1 : Int} {a2 b2 : Bool} {a3 b3 : Int} (hP : X.P = Try.prog) (ho : o.op = .binOp .eql 7 x y t') (hx : ev E x = some (.agg #[.int .i64 a0, .int .i64 a1, .bool a2, .int .u8 a3])) (hy : ev E y = some (.agg #[.int .i64 b0, .int .i64 b1, .bool b2, .int .u8 b3])) : Runs X o E H (.bool (decide (a0 = b0 ∧ a1 = b1 ∧ a2 = b2 ∧ a3 = b3))) :=
  R_bin ho hx hy (fun w => by rw [hP]; exact run_eqGuard_agg w _ 7 x y _ _ Try.eqGuardType7) (fun w => by rw [hP]; exact seq7 a0 b0 a1 b1 a2 b2 a3 b3 w)
theorem sne7 (a0 b0 : Int) (a1 b1 : Int) (a2 b2 : Bool) (a3 b3 : Int) (w : World) : (binOp .neq 7 (.agg #[.int .i64 a0, .int .i64 a1, .bool a2, .int .u8 a3]) (.agg #[.int .i64 b0, .int .i64 b1, .bool b2, .int .u8 b3])).run Try.prog w = .ok (.bool (decide (¬ (a0 = b0 ∧ a1 = b1 ∧ a2 = b2 ∧ a3 = b3)))) w := by
  rw [run_neq_struct, eqin7_10000]
  simp
theorem R_sne7 {X : Ctx} {E : Env} {H : Heap} {o : Oper} {x y : Operand} {t' : TypeId} {a0 b0 : Int} {a1 b1 : Int} {a2 b2 : Bool} {a3 b3 : Int} (hP : X.P = Try.prog) (ho : o.op = .binOp .neq 7 x y t') (hx : ev E x = some (.agg #[.int .i64 a0, .int .i64 a1, .bool a2, .int .u8 a3])) (hy : ev E y = some (.agg #[.int .i64 b0, .int .i64 b1, .bool b2, .int .u8 b3])) : Runs X o E H (.bool (decide (¬ (a0 = b0 ∧ a1 = b1 ∧ a2 = b2 ∧ a3 = b3)))) :=
  R_bin ho hx hy (fun w => by rw [hP]; exact run_eqGuard_agg w _ 7 x y _ _ Try.eqGuardType7) (fun w => by rw [hP]; exact sne7 a0 b0 a1 b1 a2 b2 a3 b3 w)
set_option linter.unusedSimpArgs false in
theorem eqin35_10000 (a0 b0 : Int) (a1 b1 : Int) (w : World) : (Op.equalIn 10000 35 (.agg #[.int .i64 a0, .int .i64 a1]) (.agg #[.int .i64 b0, .int .i64 b1])).run Try.prog w = .ok (decide (a0 = b0 ∧ a1 = b1)) w := by
  rw [run_equalIn_struct w 9999 35 _ _ (by simp [Program.fieldsOf, Try.underlying35]) Try.stoodInHeld35]
  by_cases h0 : a0 = b0 <;> by_cases h1 : a1 = b1 <;> simp [Program.fieldsOf, Try.underlying35, Op.eqFields, part, Try.isAgg3, run_equalIn_int w 9998 3 .i64 .i64 _ _ Try.underlying3, h0, h1]
theorem seq35 (a0 b0 : Int) (a1 b1 : Int) (w : World) : (binOp .eql 35 (.agg #[.int .i64 a0, .int .i64 a1]) (.agg #[.int .i64 b0, .int .i64 b1])).run Try.prog w = .ok (.bool (decide (a0 = b0 ∧ a1 = b1))) w := by
  rw [run_eql_struct, eqin35_10000]
  rfl
theorem R_seq35 {X : Ctx} {E : Env} {H : Heap} {o : Oper} {x y : Operand} {t' : TypeId} {a0 b0 : Int} {a1 b1 : Int} (hP : X.P = Try.prog) (ho : o.op = .binOp .eql 35 x y t') (hx : ev E x = some (.agg #[.int .i64 a0, .int .i64 a1])) (hy : ev E y = some (.agg #[.int .i64 b0, .int .i64 b1])) : Runs X o E H (.bool (decide (a0 = b0 ∧ a1 = b1))) :=
  R_bin ho hx hy (fun w => by rw [hP]; exact run_eqGuard_agg w _ 35 x y _ _ Try.eqGuardType35) (fun w => by rw [hP]; exact seq35 a0 b0 a1 b1 w)
theorem sne35 (a0 b0 : Int) (a1 b1 : Int) (w : World) : (binOp .neq 35 (.agg #[.int .i64 a0, .int .i64 a1]) (.agg #[.int .i64 b0, .int .i64 b1])).run Try.prog w = .ok (.bool (decide (¬ (a0 = b0 ∧ a1 = b1)))) w := by
  rw [run_neq_struct, eqin35_10000]
  simp
theorem R_sne35 {X : Ctx} {E : Env} {H : Heap} {o : Oper} {x y : Operand} {t' : TypeId} {a0 b0 : Int} {a1 b1 : Int} (hP : X.P = Try.prog) (ho : o.op = .binOp .neq 35 x y t') (hx : ev E x = some (.agg #[.int .i64 a0, .int .i64 a1])) (hy : ev E y = some (.agg #[.int .i64 b0, .int .i64 b1])) : Runs X o E H (.bool (decide (¬ (a0 = b0 ∧ a1 = b1)))) :=
  R_bin ho hx hy (fun w => by rw [hP]; exact run_eqGuard_agg w _ 35 x y _ _ Try.eqGuardType35) (fun w => by rw [hP]; exact sne35 a0 b0 a1 b1 w)
set_option linter.unusedSimpArgs false in
theorem eqin36_10000 (a0 b0 : Int) (a1 b1 : Int) (w : World) : (Op.equalIn 10000 36 (.agg #[.int .i64 a0, .int .i64 a1]) (.agg #[.int .i64 b0, .int .i64 b1])).run Try.prog w = .ok (decide (a0 = b0 ∧ a1 = b1)) w := by
  rw [run_equalIn_struct w 9999 36 _ _ (by simp [Program.fieldsOf, Try.underlying36]) Try.stoodInHeld36]
  by_cases h0 : a0 = b0 <;> by_cases h1 : a1 = b1 <;> simp [Program.fieldsOf, Try.underlying36, Op.eqFields, part, Try.isAgg3, run_equalIn_int w 9998 3 .i64 .i64 _ _ Try.underlying3, h0, h1]
theorem seq36 (a0 b0 : Int) (a1 b1 : Int) (w : World) : (binOp .eql 36 (.agg #[.int .i64 a0, .int .i64 a1]) (.agg #[.int .i64 b0, .int .i64 b1])).run Try.prog w = .ok (.bool (decide (a0 = b0 ∧ a1 = b1))) w := by
  rw [run_eql_struct, eqin36_10000]
  rfl
theorem R_seq36 {X : Ctx} {E : Env} {H : Heap} {o : Oper} {x y : Operand} {t' : TypeId} {a0 b0 : Int} {a1 b1 : Int} (hP : X.P = Try.prog) (ho : o.op = .binOp .eql 36 x y t') (hx : ev E x = some (.agg #[.int .i64 a0, .int .i64 a1])) (hy : ev E y = some (.agg #[.int .i64 b0, .int .i64 b1])) : Runs X o E H (.bool (decide (a0 = b0 ∧ a1 = b1))) :=
  R_bin ho hx hy (fun w => by rw [hP]; exact run_eqGuard_agg w _ 36 x y _ _ Try.eqGuardType36) (fun w => by rw [hP]; exact seq36 a0 b0 a1 b1 w)
theorem sne36 (a0 b0 : Int) (a1 b1 : Int) (w : World) : (binOp .neq 36 (.agg #[.int .i64 a0, .int .i64 a1]) (.agg #[.int .i64 b0, .int .i64 b1])).run Try.prog w = .ok (.bool (decide (¬ (a0 = b0 ∧ a1 = b1)))) w := by
  rw [run_neq_struct, eqin36_10000]
  simp
theorem R_sne36 {X : Ctx} {E : Env} {H : Heap} {o : Oper} {x y : Operand} {t' : TypeId} {a0 b0 : Int} {a1 b1 : Int} (hP : X.P = Try.prog) (ho : o.op = .binOp .neq 36 x y t') (hx : ev E x = some (.agg #[.int .i64 a0, .int .i64 a1])) (hy : ev E y = some (.agg #[.int .i64 b0, .int .i64 b1])) : Runs X o E H (.bool (decide (¬ (a0 = b0 ∧ a1 = b1)))) :=
  R_bin ho hx hy (fun w => by rw [hP]; exact run_eqGuard_agg w _ 36 x y _ _ Try.eqGuardType36) (fun w => by rw [hP]; exact sne36 a0 b0 a1 b1 w)
set_option linter.unusedSimpArgs false in
theorem eqin76_10000 (a0 b0 : Int) (a1 b1 : Int) (w : World) : (Op.equalIn 10000 76 (.agg #[.int .i64 a0, .int .i64 a1]) (.agg #[.int .i64 b0, .int .i64 b1])).run Try.prog w = .ok (decide (a0 = b0 ∧ a1 = b1)) w := by
  rw [run_equalIn_struct w 9999 76 _ _ (by simp [Program.fieldsOf, Try.underlying76]) Try.stoodInHeld76]
  by_cases h0 : a0 = b0 <;> by_cases h1 : a1 = b1 <;> simp [Program.fieldsOf, Try.underlying76, Op.eqFields, part, Try.isAgg3, run_equalIn_int w 9998 3 .i64 .i64 _ _ Try.underlying3, h0, h1]
theorem seq76 (a0 b0 : Int) (a1 b1 : Int) (w : World) : (binOp .eql 76 (.agg #[.int .i64 a0, .int .i64 a1]) (.agg #[.int .i64 b0, .int .i64 b1])).run Try.prog w = .ok (.bool (decide (a0 = b0 ∧ a1 = b1))) w := by
  rw [run_eql_struct, eqin76_10000]
  rfl
theorem R_seq76 {X : Ctx} {E : Env} {H : Heap} {o : Oper} {x y : Operand} {t' : TypeId} {a0 b0 : Int} {a1 b1 : Int} (hP : X.P = Try.prog) (ho : o.op = .binOp .eql 76 x y t') (hx : ev E x = some (.agg #[.int .i64 a0, .int .i64 a1])) (hy : ev E y = some (.agg #[.int .i64 b0, .int .i64 b1])) : Runs X o E H (.bool (decide (a0 = b0 ∧ a1 = b1))) :=
  R_bin ho hx hy (fun w => by rw [hP]; exact run_eqGuard_agg w _ 76 x y _ _ Try.eqGuardType76) (fun w => by rw [hP]; exact seq76 a0 b0 a1 b1 w)
theorem sne76 (a0 b0 : Int) (a1 b1 : Int) (w : World) : (binOp .neq 76 (.agg #[.int .i64 a0, .int .i64 a1]) (.agg #[.int .i64 b0, .int .i64 b1])).run Try.prog w = .ok (.bool (decide (¬ (a0 = b0 ∧ a1 = b1)))) w := by
  rw [run_neq_struct, eqin76_10000]
  simp
theorem R_sne76 {X : Ctx} {E : Env} {H : Heap} {o : Oper} {x y : Operand} {t' : TypeId} {a0 b0 : Int} {a1 b1 : Int} (hP : X.P = Try.prog) (ho : o.op = .binOp .neq 76 x y t') (hx : ev E x = some (.agg #[.int .i64 a0, .int .i64 a1])) (hy : ev E y = some (.agg #[.int .i64 b0, .int .i64 b1])) : Runs X o E H (.bool (decide (¬ (a0 = b0 ∧ a1 = b1)))) :=
  R_bin ho hx hy (fun w => by rw [hP]; exact run_eqGuard_agg w _ 76 x y _ _ Try.eqGuardType76) (fun w => by rw [hP]; exact sne76 a0 b0 a1 b1 w)
set_option linter.unusedSimpArgs false in
theorem eqin77_10000 (a0 b0 : Int) (a1 b1 : Int) (w : World) : (Op.equalIn 10000 77 (.agg #[.int .i64 a0, .int .i64 a1]) (.agg #[.int .i64 b0, .int .i64 b1])).run Try.prog w = .ok (decide (a0 = b0 ∧ a1 = b1)) w := by
  rw [run_equalIn_struct w 9999 77 _ _ (by simp [Program.fieldsOf, Try.underlying77]) Try.stoodInHeld77]
  by_cases h0 : a0 = b0 <;> by_cases h1 : a1 = b1 <;> simp [Program.fieldsOf, Try.underlying77, Op.eqFields, part, Try.isAgg3, run_equalIn_int w 9998 3 .i64 .i64 _ _ Try.underlying3, h0, h1]
theorem seq77 (a0 b0 : Int) (a1 b1 : Int) (w : World) : (binOp .eql 77 (.agg #[.int .i64 a0, .int .i64 a1]) (.agg #[.int .i64 b0, .int .i64 b1])).run Try.prog w = .ok (.bool (decide (a0 = b0 ∧ a1 = b1))) w := by
  rw [run_eql_struct, eqin77_10000]
  rfl
theorem R_seq77 {X : Ctx} {E : Env} {H : Heap} {o : Oper} {x y : Operand} {t' : TypeId} {a0 b0 : Int} {a1 b1 : Int} (hP : X.P = Try.prog) (ho : o.op = .binOp .eql 77 x y t') (hx : ev E x = some (.agg #[.int .i64 a0, .int .i64 a1])) (hy : ev E y = some (.agg #[.int .i64 b0, .int .i64 b1])) : Runs X o E H (.bool (decide (a0 = b0 ∧ a1 = b1))) :=
  R_bin ho hx hy (fun w => by rw [hP]; exact run_eqGuard_agg w _ 77 x y _ _ Try.eqGuardType77) (fun w => by rw [hP]; exact seq77 a0 b0 a1 b1 w)
theorem sne77 (a0 b0 : Int) (a1 b1 : Int) (w : World) : (binOp .neq 77 (.agg #[.int .i64 a0, .int .i64 a1]) (.agg #[.int .i64 b0, .int .i64 b1])).run Try.prog w = .ok (.bool (decide (¬ (a0 = b0 ∧ a1 = b1)))) w := by
  rw [run_neq_struct, eqin77_10000]
  simp
theorem R_sne77 {X : Ctx} {E : Env} {H : Heap} {o : Oper} {x y : Operand} {t' : TypeId} {a0 b0 : Int} {a1 b1 : Int} (hP : X.P = Try.prog) (ho : o.op = .binOp .neq 77 x y t') (hx : ev E x = some (.agg #[.int .i64 a0, .int .i64 a1])) (hy : ev E y = some (.agg #[.int .i64 b0, .int .i64 b1])) : Runs X o E H (.bool (decide (¬ (a0 = b0 ∧ a1 = b1)))) :=
  R_bin ho hx hy (fun w => by rw [hP]; exact run_eqGuard_agg w _ 77 x y _ _ Try.eqGuardType77) (fun w => by rw [hP]; exact sne77 a0 b0 a1 b1 w)
set_option linter.unusedSimpArgs false in
theorem eqin87_10000 (a0 b0 : Int) (a1 b1 : Int) (a2 b2 : Int) (w : World) : (Op.equalIn 10000 87 (.agg #[.int .i64 a0, .int .i64 a1, .int .i64 a2]) (.agg #[.int .i64 b0, .int .i64 b1, .int .i64 b2])).run Try.prog w = .ok (decide (a0 = b0 ∧ a1 = b1 ∧ a2 = b2)) w := by
  rw [run_equalIn_struct w 9999 87 _ _ (by simp [Program.fieldsOf, Try.underlying87]) Try.stoodInHeld87]
  by_cases h0 : a0 = b0 <;> by_cases h1 : a1 = b1 <;> by_cases h2 : a2 = b2 <;> simp [Program.fieldsOf, Try.underlying87, Op.eqFields, part, Try.isAgg3, run_equalIn_int w 9998 3 .i64 .i64 _ _ Try.underlying3, h0, h1, h2]
theorem seq87 (a0 b0 : Int) (a1 b1 : Int) (a2 b2 : Int) (w : World) : (binOp .eql 87 (.agg #[.int .i64 a0, .int .i64 a1, .int .i64 a2]) (.agg #[.int .i64 b0, .int .i64 b1, .int .i64 b2])).run Try.prog w = .ok (.bool (decide (a0 = b0 ∧ a1 = b1 ∧ a2 = b2))) w := by
  rw [run_eql_struct, eqin87_10000]
  rfl
theorem R_seq87 {X : Ctx} {E : Env} {H : Heap} {o : Oper} {x y : Operand} {t' : TypeId} {a0 b0 : Int} {a1 b1 : Int} {a2 b2 : Int} (hP : X.P = Try.prog) (ho : o.op = .binOp .eql 87 x y t') (hx : ev E x = some (.agg #[.int .i64 a0, .int .i64 a1, .int .i64 a2])) (hy : ev E y = some (.agg #[.int .i64 b0, .int .i64 b1, .int .i64 b2])) : Runs X o E H (.bool (decide (a0 = b0 ∧ a1 = b1 ∧ a2 = b2))) :=
  R_bin ho hx hy (fun w => by rw [hP]; exact run_eqGuard_agg w _ 87 x y _ _ Try.eqGuardType87) (fun w => by rw [hP]; exact seq87 a0 b0 a1 b1 a2 b2 w)
theorem sne87 (a0 b0 : Int) (a1 b1 : Int) (a2 b2 : Int) (w : World) : (binOp .neq 87 (.agg #[.int .i64 a0, .int .i64 a1, .int .i64 a2]) (.agg #[.int .i64 b0, .int .i64 b1, .int .i64 b2])).run Try.prog w = .ok (.bool (decide (¬ (a0 = b0 ∧ a1 = b1 ∧ a2 = b2)))) w := by
  rw [run_neq_struct, eqin87_10000]
  simp
theorem R_sne87 {X : Ctx} {E : Env} {H : Heap} {o : Oper} {x y : Operand} {t' : TypeId} {a0 b0 : Int} {a1 b1 : Int} {a2 b2 : Int} (hP : X.P = Try.prog) (ho : o.op = .binOp .neq 87 x y t') (hx : ev E x = some (.agg #[.int .i64 a0, .int .i64 a1, .int .i64 a2])) (hy : ev E y = some (.agg #[.int .i64 b0, .int .i64 b1, .int .i64 b2])) : Runs X o E H (.bool (decide (¬ (a0 = b0 ∧ a1 = b1 ∧ a2 = b2)))) :=
  R_bin ho hx hy (fun w => by rw [hP]; exact run_eqGuard_agg w _ 87 x y _ _ Try.eqGuardType87) (fun w => by rw [hP]; exact sne87 a0 b0 a1 b1 a2 b2 w)
set_option linter.unusedSimpArgs false in
theorem eqin88_10000 (a0 b0 : Int) (a1 b1 : Int) (a2 b2 : Int) (w : World) : (Op.equalIn 10000 88 (.agg #[.int .i64 a0, .int .i64 a1, .int .i64 a2]) (.agg #[.int .i64 b0, .int .i64 b1, .int .i64 b2])).run Try.prog w = .ok (decide (a0 = b0 ∧ a1 = b1 ∧ a2 = b2)) w := by
  rw [run_equalIn_struct w 9999 88 _ _ (by simp [Program.fieldsOf, Try.underlying88]) Try.stoodInHeld88]
  by_cases h0 : a0 = b0 <;> by_cases h1 : a1 = b1 <;> by_cases h2 : a2 = b2 <;> simp [Program.fieldsOf, Try.underlying88, Op.eqFields, part, Try.isAgg3, run_equalIn_int w 9998 3 .i64 .i64 _ _ Try.underlying3, h0, h1, h2]
theorem seq88 (a0 b0 : Int) (a1 b1 : Int) (a2 b2 : Int) (w : World) : (binOp .eql 88 (.agg #[.int .i64 a0, .int .i64 a1, .int .i64 a2]) (.agg #[.int .i64 b0, .int .i64 b1, .int .i64 b2])).run Try.prog w = .ok (.bool (decide (a0 = b0 ∧ a1 = b1 ∧ a2 = b2))) w := by
  rw [run_eql_struct, eqin88_10000]
  rfl
theorem R_seq88 {X : Ctx} {E : Env} {H : Heap} {o : Oper} {x y : Operand} {t' : TypeId} {a0 b0 : Int} {a1 b1 : Int} {a2 b2 : Int} (hP : X.P = Try.prog) (ho : o.op = .binOp .eql 88 x y t') (hx : ev E x = some (.agg #[.int .i64 a0, .int .i64 a1, .int .i64 a2])) (hy : ev E y = some (.agg #[.int .i64 b0, .int .i64 b1, .int .i64 b2])) : Runs X o E H (.bool (decide (a0 = b0 ∧ a1 = b1 ∧ a2 = b2))) :=
  R_bin ho hx hy (fun w => by rw [hP]; exact run_eqGuard_agg w _ 88 x y _ _ Try.eqGuardType88) (fun w => by rw [hP]; exact seq88 a0 b0 a1 b1 a2 b2 w)
theorem sne88 (a0 b0 : Int) (a1 b1 : Int) (a2 b2 : Int) (w : World) : (binOp .neq 88 (.agg #[.int .i64 a0, .int .i64 a1, .int .i64 a2]) (.agg #[.int .i64 b0, .int .i64 b1, .int .i64 b2])).run Try.prog w = .ok (.bool (decide (¬ (a0 = b0 ∧ a1 = b1 ∧ a2 = b2)))) w := by
  rw [run_neq_struct, eqin88_10000]
  simp
theorem R_sne88 {X : Ctx} {E : Env} {H : Heap} {o : Oper} {x y : Operand} {t' : TypeId} {a0 b0 : Int} {a1 b1 : Int} {a2 b2 : Int} (hP : X.P = Try.prog) (ho : o.op = .binOp .neq 88 x y t') (hx : ev E x = some (.agg #[.int .i64 a0, .int .i64 a1, .int .i64 a2])) (hy : ev E y = some (.agg #[.int .i64 b0, .int .i64 b1, .int .i64 b2])) : Runs X o E H (.bool (decide (¬ (a0 = b0 ∧ a1 = b1 ∧ a2 = b2)))) :=
  R_bin ho hx hy (fun w => by rw [hP]; exact run_eqGuard_agg w _ 88 x y _ _ Try.eqGuardType88) (fun w => by rw [hP]; exact sne88 a0 b0 a1 b1 a2 b2 w)
set_option linter.unusedSimpArgs false in
theorem eqin98_10000 (a0 b0 : Int) (a1 b1 : Int) (a2 b2 : Int) (a3 b3 : Int) (a4 b4 : Int) (w : World) : (Op.equalIn 10000 98 (.agg #[.int .i64 a0, .int .u64 a1, .int .i64 a2, .int .i64 a3, .int .i64 a4]) (.agg #[.int .i64 b0, .int .u64 b1, .int .i64 b2, .int .i64 b3, .int .i64 b4])).run Try.prog w = .ok (decide (a0 = b0 ∧ a1 = b1 ∧ a2 = b2 ∧ a3 = b3 ∧ a4 = b4)) w := by
  rw [run_equalIn_struct w 9999 98 _ _ (by simp [Program.fieldsOf, Try.underlying98]) Try.stoodInHeld98]
  by_cases h0 : a0 = b0 <;> by_cases h1 : a1 = b1 <;> by_cases h2 : a2 = b2 <;> by_cases h3 : a3 = b3 <;> by_cases h4 : a4 = b4 <;> simp [Program.fieldsOf, Try.underlying98, Op.eqFields, part, Try.isAgg3, Try.isAgg30, Try.isAgg97, run_equalIn_int w 9998 3 .i64 .i64 _ _ Try.underlying3, run_equalIn_int w 9998 30 .u64 .u64 _ _ Try.underlying30, run_equalIn_int w 9998 97 .i64 .i64 _ _ Try.underlying97, h0, h1, h2, h3, h4]
theorem seq98 (a0 b0 : Int) (a1 b1 : Int) (a2 b2 : Int) (a3 b3 : Int) (a4 b4 : Int) (w : World) : (binOp .eql 98 (.agg #[.int .i64 a0, .int .u64 a1, .int .i64 a2, .int .i64 a3, .int .i64 a4]) (.agg #[.int .i64 b0, .int .u64 b1, .int .i64 b2, .int .i64 b3, .int .i64 b4])).run Try.prog w = .ok (.bool (decide (a0 = b0 ∧ a1 = b1 ∧ a2 = b2 ∧ a3 = b3 ∧ a4 = b4))) w := by
  rw [run_eql_struct, eqin98_10000]
  rfl
theorem R_seq98 {X : Ctx} {E : Env} {H : Heap} {o : Oper} {x y : Operand} {t' : TypeId} {a0 b0 : Int} {a1 b1 : Int} {a2 b2 : Int} {a3 b3 : Int} {a4 b4 : Int} (hP : X.P = Try.prog) (ho : o.op = .binOp .eql 98 x y t') (hx : ev E x = some (.agg #[.int .i64 a0, .int .u64 a1, .int .i64 a2, .int .i64 a3, .int .i64 a4])) (hy : ev E y = some (.agg #[.int .i64 b0, .int .u64 b1, .int .i64 b2, .int .i64 b3, .int .i64 b4])) : Runs X o E H (.bool (decide (a0 = b0 ∧ a1 = b1 ∧ a2 = b2 ∧ a3 = b3 ∧ a4 = b4))) :=
  R_bin ho hx hy (fun w => by rw [hP]; exact run_eqGuard_agg w _ 98 x y _ _ Try.eqGuardType98) (fun w => by rw [hP]; exact seq98 a0 b0 a1 b1 a2 b2 a3 b3 a4 b4 w)
theorem sne98 (a0 b0 : Int) (a1 b1 : Int) (a2 b2 : Int) (a3 b3 : Int) (a4 b4 : Int) (w : World) : (binOp .neq 98 (.agg #[.int .i64 a0, .int .u64 a1, .int .i64 a2, .int .i64 a3, .int .i64 a4]) (.agg #[.int .i64 b0, .int .u64 b1, .int .i64 b2, .int .i64 b3, .int .i64 b4])).run Try.prog w = .ok (.bool (decide (¬ (a0 = b0 ∧ a1 = b1 ∧ a2 = b2 ∧ a3 = b3 ∧ a4 = b4)))) w := by
  rw [run_neq_struct, eqin98_10000]
  simp
theorem R_sne98 {X : Ctx} {E : Env} {H : Heap} {o : Oper} {x y : Operand} {t' : TypeId} {a0 b0 : Int} {a1 b1 : Int} {a2 b2 : Int} {a3 b3 : Int} {a4 b4 : Int} (hP : X.P = Try.prog) (ho : o.op = .binOp .neq 98 x y t') (hx : ev E x = some (.agg #[.int .i64 a0, .int .u64 a1, .int .i64 a2, .int .i64 a3, .int .i64 a4])) (hy : ev E y = some (.agg #[.int .i64 b0, .int .u64 b1, .int .i64 b2, .int .i64 b3, .int .i64 b4])) : Runs X o E H (.bool (decide (¬ (a0 = b0 ∧ a1 = b1 ∧ a2 = b2 ∧ a3 = b3 ∧ a4 = b4)))) :=
  R_bin ho hx hy (fun w => by rw [hP]; exact run_eqGuard_agg w _ 98 x y _ _ Try.eqGuardType98) (fun w => by rw [hP]; exact sne98 a0 b0 a1 b1 a2 b2 a3 b3 a4 b4 w)
set_option linter.unusedSimpArgs false in
theorem eqin99_10000 (a0 b0 : Int) (a1 b1 : Int) (a2 b2 : Int) (a3 b3 : Int) (a4 b4 : Int) (w : World) : (Op.equalIn 10000 99 (.agg #[.int .i64 a0, .int .u64 a1, .int .i64 a2, .int .i64 a3, .int .i64 a4]) (.agg #[.int .i64 b0, .int .u64 b1, .int .i64 b2, .int .i64 b3, .int .i64 b4])).run Try.prog w = .ok (decide (a0 = b0 ∧ a1 = b1 ∧ a2 = b2 ∧ a3 = b3 ∧ a4 = b4)) w := by
  rw [run_equalIn_struct w 9999 99 _ _ (by simp [Program.fieldsOf, Try.underlying99]) Try.stoodInHeld99]
  by_cases h0 : a0 = b0 <;> by_cases h1 : a1 = b1 <;> by_cases h2 : a2 = b2 <;> by_cases h3 : a3 = b3 <;> by_cases h4 : a4 = b4 <;> simp [Program.fieldsOf, Try.underlying99, Op.eqFields, part, Try.isAgg3, Try.isAgg30, Try.isAgg97, run_equalIn_int w 9998 3 .i64 .i64 _ _ Try.underlying3, run_equalIn_int w 9998 30 .u64 .u64 _ _ Try.underlying30, run_equalIn_int w 9998 97 .i64 .i64 _ _ Try.underlying97, h0, h1, h2, h3, h4]
theorem seq99 (a0 b0 : Int) (a1 b1 : Int) (a2 b2 : Int) (a3 b3 : Int) (a4 b4 : Int) (w : World) : (binOp .eql 99 (.agg #[.int .i64 a0, .int .u64 a1, .int .i64 a2, .int .i64 a3, .int .i64 a4]) (.agg #[.int .i64 b0, .int .u64 b1, .int .i64 b2, .int .i64 b3, .int .i64 b4])).run Try.prog w = .ok (.bool (decide (a0 = b0 ∧ a1 = b1 ∧ a2 = b2 ∧ a3 = b3 ∧ a4 = b4))) w := by
  rw [run_eql_struct, eqin99_10000]
  rfl
theorem R_seq99 {X : Ctx} {E : Env} {H : Heap} {o : Oper} {x y : Operand} {t' : TypeId} {a0 b0 : Int} {a1 b1 : Int} {a2 b2 : Int} {a3 b3 : Int} {a4 b4 : Int} (hP : X.P = Try.prog) (ho : o.op = .binOp .eql 99 x y t') (hx : ev E x = some (.agg #[.int .i64 a0, .int .u64 a1, .int .i64 a2, .int .i64 a3, .int .i64 a4])) (hy : ev E y = some (.agg #[.int .i64 b0, .int .u64 b1, .int .i64 b2, .int .i64 b3, .int .i64 b4])) : Runs X o E H (.bool (decide (a0 = b0 ∧ a1 = b1 ∧ a2 = b2 ∧ a3 = b3 ∧ a4 = b4))) :=
  R_bin ho hx hy (fun w => by rw [hP]; exact run_eqGuard_agg w _ 99 x y _ _ Try.eqGuardType99) (fun w => by rw [hP]; exact seq99 a0 b0 a1 b1 a2 b2 a3 b3 a4 b4 w)
theorem sne99 (a0 b0 : Int) (a1 b1 : Int) (a2 b2 : Int) (a3 b3 : Int) (a4 b4 : Int) (w : World) : (binOp .neq 99 (.agg #[.int .i64 a0, .int .u64 a1, .int .i64 a2, .int .i64 a3, .int .i64 a4]) (.agg #[.int .i64 b0, .int .u64 b1, .int .i64 b2, .int .i64 b3, .int .i64 b4])).run Try.prog w = .ok (.bool (decide (¬ (a0 = b0 ∧ a1 = b1 ∧ a2 = b2 ∧ a3 = b3 ∧ a4 = b4)))) w := by
  rw [run_neq_struct, eqin99_10000]
  simp
theorem R_sne99 {X : Ctx} {E : Env} {H : Heap} {o : Oper} {x y : Operand} {t' : TypeId} {a0 b0 : Int} {a1 b1 : Int} {a2 b2 : Int} {a3 b3 : Int} {a4 b4 : Int} (hP : X.P = Try.prog) (ho : o.op = .binOp .neq 99 x y t') (hx : ev E x = some (.agg #[.int .i64 a0, .int .u64 a1, .int .i64 a2, .int .i64 a3, .int .i64 a4])) (hy : ev E y = some (.agg #[.int .i64 b0, .int .u64 b1, .int .i64 b2, .int .i64 b3, .int .i64 b4])) : Runs X o E H (.bool (decide (¬ (a0 = b0 ∧ a1 = b1 ∧ a2 = b2 ∧ a3 = b3 ∧ a4 = b4)))) :=
  R_bin ho hx hy (fun w => by rw [hP]; exact run_eqGuard_agg w _ 99 x y _ _ Try.eqGuardType99) (fun w => by rw [hP]; exact sne99 a0 b0 a1 b1 a2 b2 a3 b3 a4 b4 w)
theorem inf26 : Try.prog.info? 3 = some Try.t3 := by kernel_rfl
theorem si26 : SI Try.prog 26 3 1 8 [.int .i64 0] := ⟨Try.underlying26, Try.t3, _, inf26, rfl, rfl, rfl, rfl, rfl, by decide⟩
theorem inf41 : Try.prog.info? 48 = some Try.t48 := by kernel_rfl
theorem si41 : SI Try.prog 41 48 5 48 [.int .i64 0, .int .i64 0, .int .u64 0, .string ByteArray.empty, .bool false] := ⟨Try.underlying41, Try.t48, _, inf41, rfl, rfl, rfl, rfl, rfl, by decide⟩
theorem inf42 : Try.prog.info? 82 = some Try.t82 := by kernel_rfl
theorem si42 : SI Try.prog 42 82 5 40 [.int .i64 0, .int .i64 0, .int .i64 0, .bool false, .pointer none] := ⟨Try.underlying42, Try.t82, _, inf42, rfl, rfl, rfl, rfl, rfl, by decide⟩
theorem inf43 : Try.prog.info? 88 = some Try.t88 := by kernel_rfl
theorem si43 : SI Try.prog 43 88 3 24 [.int .i64 0, .int .i64 0, .int .i64 0] := ⟨Try.underlying43, Try.t88, _, inf43, rfl, rfl, rfl, rfl, rfl, by decide⟩
theorem inf54 : Try.prog.info? 73 = some Try.t73 := by kernel_rfl
theorem si54 : SI Try.prog 54 73 5 40 [.int .i64 0, .int .i64 0, .int .i64 0, .bool false, .pointer none] := ⟨Try.underlying54, Try.t73, _, inf54, rfl, rfl, rfl, rfl, rfl, by decide⟩
theorem inf58 : Try.prog.info? 31 = some Try.t31 := by kernel_rfl
theorem si58 : SI Try.prog 58 31 1 8 [.pointer none] := ⟨Try.underlying58, Try.t31, _, inf58, rfl, rfl, rfl, rfl, rfl, by decide⟩
theorem inf85 : Try.prog.info? 4 = some Try.t4 := by kernel_rfl
theorem si85 : SI Try.prog 85 4 1 1 [.bool false] := ⟨Try.underlying85, Try.t4, _, inf85, rfl, rfl, rfl, rfl, rfl, by decide⟩
theorem zv1 : Zv Try.prog 1 [.nilFunc] := ⟨_, rfl, Try.zeroValue1⟩
theorem zv2 : Zv Try.prog 2 [.int .i64 0] := ⟨_, rfl, Try.zeroValue2⟩
theorem zv3 : Zv Try.prog 3 [.int .i64 0] := ⟨_, rfl, Try.zeroValue3⟩
theorem zv4 : Zv Try.prog 4 [.bool false] := ⟨_, rfl, Try.zeroValue4⟩
theorem zv5 : Zv Try.prog 5 [.int .u8 0] := ⟨_, rfl, Try.zeroValue5⟩
theorem zv7 : Zv Try.prog 7 [.int .i64 0, .int .i64 0, .bool false, .int .u8 0] := ⟨_, rfl, Try.zeroValue7⟩
theorem zv9 : Zv Try.prog 9 [.string ByteArray.empty] := ⟨_, rfl, Try.zeroValue9⟩
theorem zv12 : Zv Try.prog 12 [.int .u64 0] := ⟨_, rfl, Try.zeroValue12⟩
theorem zv13 : Zv Try.prog 13 [.string ByteArray.empty, .int .u64 0] := ⟨_, rfl, Try.zeroValue13⟩
theorem zv18 : Zv Try.prog 18 [.pointer none] := ⟨_, rfl, Try.zeroValue18⟩
theorem zv21 : Zv Try.prog 21 [.int .i32 0] := ⟨_, rfl, Try.zeroValue21⟩
theorem zv22 : Zv Try.prog 22 [.int .u32 0] := ⟨_, rfl, Try.zeroValue22⟩
theorem zv23 : Zv Try.prog 23 [.nilFunc] := ⟨_, rfl, Try.zeroValue23⟩
theorem zv24 : Zv Try.prog 24 [.nilFunc] := ⟨_, rfl, Try.zeroValue24⟩
theorem zv25 : Zv Try.prog 25 [.nilFunc] := ⟨_, rfl, Try.zeroValue25⟩
theorem zv26 : Zv Try.prog 26 [.slice none 0 0] := ⟨_, rfl, Try.zeroValue26⟩
theorem zv27 : Zv Try.prog 27 [.nilFunc] := ⟨_, rfl, Try.zeroValue27⟩
theorem zv28 : Zv Try.prog 28 [.int .i64 0] := ⟨_, rfl, Try.zeroValue28⟩
theorem zv29 : Zv Try.prog 29 [.int .u64 0] := ⟨_, rfl, Try.zeroValue29⟩
theorem zv30 : Zv Try.prog 30 [.int .u64 0] := ⟨_, rfl, Try.zeroValue30⟩
theorem zv31 : Zv Try.prog 31 [.pointer none] := ⟨_, rfl, Try.zeroValue31⟩
theorem zv32 : Zv Try.prog 32 [.int .i64 0] := ⟨_, rfl, Try.zeroValue32⟩
theorem zv34 : Zv Try.prog 34 [.nilFunc] := ⟨_, rfl, Try.zeroValue34⟩
theorem zv35 : Zv Try.prog 35 [.int .i64 0, .int .i64 0] := ⟨_, rfl, Try.zeroValue35⟩
theorem zv36 : Zv Try.prog 36 [.int .i64 0, .int .i64 0] := ⟨_, rfl, Try.zeroValue36⟩
theorem zv38 : Zv Try.prog 38 [.nilFunc] := ⟨_, rfl, Try.zeroValue38⟩
theorem zv39 : Zv Try.prog 39 [.nilFunc] := ⟨_, rfl, Try.zeroValue39⟩
theorem zv40 : Zv Try.prog 40 [.nilFunc] := ⟨_, rfl, Try.zeroValue40⟩
theorem zv41 : Zv Try.prog 41 [.slice none 0 0] := ⟨_, rfl, Try.zeroValue41⟩
theorem zv42 : Zv Try.prog 42 [.slice none 0 0] := ⟨_, rfl, Try.zeroValue42⟩
theorem zv43 : Zv Try.prog 43 [.slice none 0 0] := ⟨_, rfl, Try.zeroValue43⟩
theorem zv44 : Zv Try.prog 44 [.int .i64 0, .slice none 0 0, .int .i64 0, .int .i64 0, .slice none 0 0, .int .u64 0] := ⟨_, rfl, Try.zeroValue44⟩
theorem zv45 : Zv Try.prog 45 [.int .i64 0, .slice none 0 0, .int .i64 0, .int .i64 0, .slice none 0 0, .int .u64 0] := ⟨_, rfl, Try.zeroValue45⟩
theorem zv46 : Zv Try.prog 46 [.nilFunc] := ⟨_, rfl, Try.zeroValue46⟩
theorem zv47 : Zv Try.prog 47 [.int .i64 0, .int .i64 0, .int .u64 0, .string ByteArray.empty, .bool false] := ⟨_, rfl, Try.zeroValue47⟩
theorem zv48 : Zv Try.prog 48 [.int .i64 0, .int .i64 0, .int .u64 0, .string ByteArray.empty, .bool false] := ⟨_, rfl, Try.zeroValue48⟩
theorem zv50 : Zv Try.prog 50 [.nilFunc] := ⟨_, rfl, Try.zeroValue50⟩
theorem zv51 : Zv Try.prog 51 [.nilFunc] := ⟨_, rfl, Try.zeroValue51⟩
theorem zv52 : Zv Try.prog 52 [.nilFunc] := ⟨_, rfl, Try.zeroValue52⟩
theorem zv53 : Zv Try.prog 53 [.nilFunc] := ⟨_, rfl, Try.zeroValue53⟩
theorem zv54 : Zv Try.prog 54 [.slice none 0 0] := ⟨_, rfl, Try.zeroValue54⟩
theorem zv55 : Zv Try.prog 55 [.map none] := ⟨_, rfl, Try.zeroValue55⟩
theorem zv56 : Zv Try.prog 56 [.nilFunc, .slice none 0 0, .int .i64 0, .int .i64 0, .map none, .int .u64 0] := ⟨_, rfl, Try.zeroValue56⟩
theorem zv57 : Zv Try.prog 57 [.nilFunc, .slice none 0 0, .int .i64 0, .int .i64 0, .map none, .int .u64 0] := ⟨_, rfl, Try.zeroValue57⟩
theorem zv58 : Zv Try.prog 58 [.slice none 0 0] := ⟨_, rfl, Try.zeroValue58⟩
theorem zv60 : Zv Try.prog 60 [.nilFunc] := ⟨_, rfl, Try.zeroValue60⟩
theorem zv61 : Zv Try.prog 61 [.nilFunc] := ⟨_, rfl, Try.zeroValue61⟩
theorem zv62 : Zv Try.prog 62 [.nilFunc] := ⟨_, rfl, Try.zeroValue62⟩
theorem zv63 : Zv Try.prog 63 [.nilFunc] := ⟨_, rfl, Try.zeroValue63⟩
theorem zv64 : Zv Try.prog 64 [.nilFunc] := ⟨_, rfl, Try.zeroValue64⟩
theorem zv65 : Zv Try.prog 65 [.int .u64 0] := ⟨_, rfl, Try.zeroValue65⟩
theorem zv66 : Zv Try.prog 66 [.nilFunc] := ⟨_, rfl, Try.zeroValue66⟩
theorem zv67 : Zv Try.prog 67 [.map none] := ⟨_, rfl, Try.zeroValue67⟩
theorem zv68 : Zv Try.prog 68 [.nilFunc] := ⟨_, rfl, Try.zeroValue68⟩
theorem zv69 : Zv Try.prog 69 [.pointer none] := ⟨_, rfl, Try.zeroValue69⟩
theorem zv71 : Zv Try.prog 71 [.nilFunc] := ⟨_, rfl, Try.zeroValue71⟩
theorem zv72 : Zv Try.prog 72 [.int .i64 0, .int .i64 0, .int .i64 0, .bool false, .pointer none] := ⟨_, rfl, Try.zeroValue72⟩
theorem zv73 : Zv Try.prog 73 [.int .i64 0, .int .i64 0, .int .i64 0, .bool false, .pointer none] := ⟨_, rfl, Try.zeroValue73⟩
theorem zv74 : Zv Try.prog 74 [.nilFunc] := ⟨_, rfl, Try.zeroValue74⟩
theorem zv75 : Zv Try.prog 75 [.nilFunc] := ⟨_, rfl, Try.zeroValue75⟩
theorem zv76 : Zv Try.prog 76 [.int .i64 0, .int .i64 0] := ⟨_, rfl, Try.zeroValue76⟩
theorem zv77 : Zv Try.prog 77 [.int .i64 0, .int .i64 0] := ⟨_, rfl, Try.zeroValue77⟩
theorem zv78 : Zv Try.prog 78 [.pointer none] := ⟨_, rfl, Try.zeroValue78⟩
theorem zv80 : Zv Try.prog 80 [.nilFunc] := ⟨_, rfl, Try.zeroValue80⟩
theorem zv81 : Zv Try.prog 81 [.int .i64 0, .int .i64 0, .int .i64 0, .bool false, .pointer none] := ⟨_, rfl, Try.zeroValue81⟩
theorem zv82 : Zv Try.prog 82 [.int .i64 0, .int .i64 0, .int .i64 0, .bool false, .pointer none] := ⟨_, rfl, Try.zeroValue82⟩
theorem zv84 : Zv Try.prog 84 [.nilFunc] := ⟨_, rfl, Try.zeroValue84⟩
theorem zv85 : Zv Try.prog 85 [.slice none 0 0] := ⟨_, rfl, Try.zeroValue85⟩
theorem zv86 : Zv Try.prog 86 [.nilFunc] := ⟨_, rfl, Try.zeroValue86⟩
theorem zv87 : Zv Try.prog 87 [.int .i64 0, .int .i64 0, .int .i64 0] := ⟨_, rfl, Try.zeroValue87⟩
theorem zv88 : Zv Try.prog 88 [.int .i64 0, .int .i64 0, .int .i64 0] := ⟨_, rfl, Try.zeroValue88⟩
theorem zv91 : Zv Try.prog 91 [.nilFunc] := ⟨_, rfl, Try.zeroValue91⟩
theorem zv92 : Zv Try.prog 92 [.nilFunc] := ⟨_, rfl, Try.zeroValue92⟩
theorem zv93 : Zv Try.prog 93 [.nilFunc] := ⟨_, rfl, Try.zeroValue93⟩
theorem zv94 : Zv Try.prog 94 [.nilFunc] := ⟨_, rfl, Try.zeroValue94⟩
theorem zv95 : Zv Try.prog 95 [.nilFunc] := ⟨_, rfl, Try.zeroValue95⟩
theorem zv96 : Zv Try.prog 96 [.nilFunc] := ⟨_, rfl, Try.zeroValue96⟩
theorem zv97 : Zv Try.prog 97 [.int .i64 0] := ⟨_, rfl, Try.zeroValue97⟩
theorem zv98 : Zv Try.prog 98 [.int .i64 0, .int .u64 0, .int .i64 0, .int .i64 0, .int .i64 0] := ⟨_, rfl, Try.zeroValue98⟩
theorem zv99 : Zv Try.prog 99 [.int .i64 0, .int .u64 0, .int .i64 0, .int .i64 0, .int .i64 0] := ⟨_, rfl, Try.zeroValue99⟩
theorem zv100 : Zv Try.prog 100 [.int .i64 0, .int .i64 0, .int .u64 0, .int .u64 0, .int .i64 0, .int .i64 0, .int .u64 0, .int .i64 0, .int .i64 0, .int .i64 0] := ⟨_, rfl, Try.zeroValue100⟩
theorem zv101 : Zv Try.prog 101 [.int .i64 0, .int .i64 0, .int .u64 0, .int .u64 0, .int .i64 0, .int .i64 0, .int .u64 0, .int .i64 0, .int .i64 0, .int .i64 0] := ⟨_, rfl, Try.zeroValue101⟩
theorem zv102 : Zv Try.prog 102 [.nilFunc] := ⟨_, rfl, Try.zeroValue102⟩
theorem zv103 : Zv Try.prog 103 [.nilFunc] := ⟨_, rfl, Try.zeroValue103⟩
theorem zv104 : Zv Try.prog 104 [.nilFunc] := ⟨_, rfl, Try.zeroValue104⟩
theorem zv105 : Zv Try.prog 105 [.nilFunc] := ⟨_, rfl, Try.zeroValue105⟩
theorem zv106 : Zv Try.prog 106 [.pointer none] := ⟨_, rfl, Try.zeroValue106⟩
theorem zv107 : Zv Try.prog 107 [.pointer none] := ⟨_, rfl, Try.zeroValue107⟩
theorem zv108 : Zv Try.prog 108 [.nilFunc] := ⟨_, rfl, Try.zeroValue108⟩
theorem zv109 : Zv Try.prog 109 [.nilFunc] := ⟨_, rfl, Try.zeroValue109⟩
theorem zv110 : Zv Try.prog 110 [.nilFunc] := ⟨_, rfl, Try.zeroValue110⟩
theorem zv111 : Zv Try.prog 111 [.nilFunc] := ⟨_, rfl, Try.zeroValue111⟩
theorem zv112 : Zv Try.prog 112 [.nilFunc] := ⟨_, rfl, Try.zeroValue112⟩
theorem zv113 : Zv Try.prog 113 [.nilFunc] := ⟨_, rfl, Try.zeroValue113⟩
theorem zv114 : Zv Try.prog 114 [.nilFunc] := ⟨_, rfl, Try.zeroValue114⟩
theorem zv115 : Zv Try.prog 115 [.nilFunc] := ⟨_, rfl, Try.zeroValue115⟩
theorem zv116 : Zv Try.prog 116 [.nilFunc] := ⟨_, rfl, Try.zeroValue116⟩
theorem zv117 : Zv Try.prog 117 [.pointer none, .pointer none, .pointer none, .string ByteArray.empty] := ⟨_, rfl, Try.zeroValue117⟩
theorem zv120 : Zv Try.prog 120 [] := ⟨_, rfl, Try.zeroValue120⟩
theorem zv122 : Zv Try.prog 122 [.nilFunc] := ⟨_, rfl, Try.zeroValue122⟩
theorem zv126 : Zv Try.prog 126 [.pointer none] := ⟨_, rfl, Try.zeroValue126⟩
theorem zv129 : Zv Try.prog 129 [.int .u64 0, .int .u64 0, .int .u32 0, .int .u8 0, .int .u8 0, .int .u8 0, .int .u8 0, .nilFunc, .pointer none, .int .i32 0, .int .i32 0] := ⟨_, rfl, Try.zeroValue129⟩
end Go.Proofs.Ytiokpmgbabpikaa
