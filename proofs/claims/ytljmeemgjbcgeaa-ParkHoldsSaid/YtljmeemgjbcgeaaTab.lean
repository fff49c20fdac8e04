/-
  What the tables of types say.
-/
import Derived.Test.YtljmeemgjbcgeaaRows
import Derived.Test.YtljmeemgjbcgeaaZSLArg
namespace Go.Proofs.Ytljmeemgjbcgeaa
theorem followsMixed : Try.prog.follows .mixedOrders = true := by kernel_rfl
theorem ag7 : Ag Try.prog 7 4 := fun w => ⟨Try.isAgg7 w, Try.sizeOf7 w⟩
theorem ag13 : Ag Try.prog 13 2 := fun w => ⟨Try.isAgg13 w, Try.sizeOf13 w⟩
theorem ag18 : Ag Try.prog 18 1 := fun w => ⟨Try.isAgg18 w, Try.sizeOf18 w⟩
theorem ag24 : Ag Try.prog 24 2 := fun w => ⟨Try.isAgg24 w, Try.sizeOf24 w⟩
theorem ag25 : Ag Try.prog 25 2 := fun w => ⟨Try.isAgg25 w, Try.sizeOf25 w⟩
theorem ag47 : Ag Try.prog 47 4 := fun w => ⟨Try.isAgg47 w, Try.sizeOf47 w⟩
theorem ag48 : Ag Try.prog 48 4 := fun w => ⟨Try.isAgg48 w, Try.sizeOf48 w⟩
theorem ag53 : Ag Try.prog 53 2 := fun w => ⟨Try.isAgg53 w, Try.sizeOf53 w⟩
theorem ag54 : Ag Try.prog 54 2 := fun w => ⟨Try.isAgg54 w, Try.sizeOf54 w⟩
theorem ag56 : Ag Try.prog 56 3 := fun w => ⟨Try.isAgg56 w, Try.sizeOf56 w⟩
theorem ag57 : Ag Try.prog 57 3 := fun w => ⟨Try.isAgg57 w, Try.sizeOf57 w⟩
theorem ag68 : Ag Try.prog 68 3 := fun w => ⟨Try.isAgg68 w, Try.sizeOf68 w⟩
theorem ag69 : Ag Try.prog 69 3 := fun w => ⟨Try.isAgg69 w, Try.sizeOf69 w⟩
theorem ag80 : Ag Try.prog 80 3 := fun w => ⟨Try.isAgg80 w, Try.sizeOf80 w⟩
theorem ag81 : Ag Try.prog 81 3 := fun w => ⟨Try.isAgg81 w, Try.sizeOf81 w⟩
theorem ag99 : Ag Try.prog 99 3 := fun w => ⟨Try.isAgg99 w, Try.sizeOf99 w⟩
theorem ag100 : Ag Try.prog 100 3 := fun w => ⟨Try.isAgg100 w, Try.sizeOf100 w⟩
theorem ag106 : Ag Try.prog 106 2 := fun w => ⟨Try.isAgg106 w, Try.sizeOf106 w⟩
theorem ag107 : Ag Try.prog 107 2 := fun w => ⟨Try.isAgg107 w, Try.sizeOf107 w⟩
theorem ag111 : Ag Try.prog 111 3 := fun w => ⟨Try.isAgg111 w, Try.sizeOf111 w⟩
theorem ag112 : Ag Try.prog 112 3 := fun w => ⟨Try.isAgg112 w, Try.sizeOf112 w⟩
theorem ag113 : Ag Try.prog 113 4 := fun w => ⟨Try.isAgg113 w, Try.sizeOf113 w⟩
theorem ag114 : Ag Try.prog 114 4 := fun w => ⟨Try.isAgg114 w, Try.sizeOf114 w⟩
theorem ag115 : Ag Try.prog 115 3 := fun w => ⟨Try.isAgg115 w, Try.sizeOf115 w⟩
theorem ag116 : Ag Try.prog 116 3 := fun w => ⟨Try.isAgg116 w, Try.sizeOf116 w⟩
theorem ag119 : Ag Try.prog 119 2 := fun w => ⟨Try.isAgg119 w, Try.sizeOf119 w⟩
theorem ag120 : Ag Try.prog 120 2 := fun w => ⟨Try.isAgg120 w, Try.sizeOf120 w⟩
theorem ag125 : Ag Try.prog 125 2 := fun w => ⟨Try.isAgg125 w, Try.sizeOf125 w⟩
theorem ag126 : Ag Try.prog 126 2 := fun w => ⟨Try.isAgg126 w, Try.sizeOf126 w⟩
theorem ag131 : Ag Try.prog 131 10 := fun w => ⟨Try.isAgg131 w, Try.sizeOf131 w⟩
theorem ag134 : Ag Try.prog 134 4 := fun w => ⟨Try.isAgg134 w, Try.sizeOf134 w⟩
theorem ag137 : Ag Try.prog 137 0 := fun w => ⟨Try.isAgg137 w, Try.sizeOf137 w⟩
theorem ag146 : Ag Try.prog 146 11 := fun w => ⟨Try.isAgg146 w, Try.sizeOf146 w⟩
theorem fa7_0 : FldAt Try.prog 7 0 0 := FldAt.mk Try.underlying7 rfl rfl Try.sizeOf2 (by decide)
theorem fa7_1 : FldAt Try.prog 7 1 1 := FldAt.mk Try.underlying7 rfl rfl Try.sizeOf3 (by decide)
theorem fa7_2 : FldAt Try.prog 7 2 2 := FldAt.mk Try.underlying7 rfl rfl Try.sizeOf4 (by decide)
theorem fa7_3 : FldAt Try.prog 7 3 3 := FldAt.mk Try.underlying7 rfl rfl Try.sizeOf6 (by decide)
theorem fa13_0 : FldAt Try.prog 13 0 0 := FldAt.mk Try.underlying13 rfl rfl Try.sizeOf9 (by decide)
theorem fa13_1 : FldAt Try.prog 13 1 1 := FldAt.mk Try.underlying13 rfl rfl Try.sizeOf12 (by decide)
theorem fa18_0 : FldAt Try.prog 18 0 0 := FldAt.mk Try.underlying18 rfl rfl Try.sizeOf17 (by decide)
theorem fa24_0 : FldAt Try.prog 24 0 0 := FldAt.mk Try.underlying24 rfl rfl Try.sizeOf3 (by decide)
theorem fa24_1 : FldAt Try.prog 24 1 1 := FldAt.mk Try.underlying24 rfl rfl Try.sizeOf23 (by decide)
theorem fa25_0 : FldAt Try.prog 25 0 0 := FldAt.mk Try.underlying25 rfl rfl Try.sizeOf3 (by decide)
theorem fa25_1 : FldAt Try.prog 25 1 1 := FldAt.mk Try.underlying25 rfl rfl Try.sizeOf23 (by decide)
theorem fa47_0 : FldAt Try.prog 47 0 0 := FldAt.mk Try.underlying47 rfl rfl Try.sizeOf3 (by decide)
theorem fa47_1 : FldAt Try.prog 47 1 1 := FldAt.mk Try.underlying47 rfl rfl Try.sizeOf3 (by decide)
theorem fa47_2 : FldAt Try.prog 47 2 2 := FldAt.mk Try.underlying47 rfl rfl Try.sizeOf25 (by decide)
theorem fa48_0 : FldAt Try.prog 48 0 0 := FldAt.mk Try.underlying48 rfl rfl Try.sizeOf3 (by decide)
theorem fa48_1 : FldAt Try.prog 48 1 1 := FldAt.mk Try.underlying48 rfl rfl Try.sizeOf3 (by decide)
theorem fa48_2 : FldAt Try.prog 48 2 2 := FldAt.mk Try.underlying48 rfl rfl Try.sizeOf25 (by decide)
theorem fa53_0 : FldAt Try.prog 53 0 0 := FldAt.mk Try.underlying53 rfl rfl Try.sizeOf32 (by decide)
theorem fa53_1 : FldAt Try.prog 53 1 1 := FldAt.mk Try.underlying53 rfl rfl Try.sizeOf32 (by decide)
theorem fa54_0 : FldAt Try.prog 54 0 0 := FldAt.mk Try.underlying54 rfl rfl Try.sizeOf32 (by decide)
theorem fa54_1 : FldAt Try.prog 54 1 1 := FldAt.mk Try.underlying54 rfl rfl Try.sizeOf32 (by decide)
theorem fa56_0 : FldAt Try.prog 56 0 0 := FldAt.mk Try.underlying56 rfl rfl Try.sizeOf54 (by decide)
theorem fa56_1 : FldAt Try.prog 56 1 2 := FldAt.mk Try.underlying56 rfl rfl Try.sizeOf55 (by decide)
theorem fa57_0 : FldAt Try.prog 57 0 0 := FldAt.mk Try.underlying57 rfl rfl Try.sizeOf54 (by decide)
theorem fa57_1 : FldAt Try.prog 57 1 2 := FldAt.mk Try.underlying57 rfl rfl Try.sizeOf55 (by decide)
theorem fa68_0 : FldAt Try.prog 68 0 0 := FldAt.mk Try.underlying68 rfl rfl Try.sizeOf65 (by decide)
theorem fa68_1 : FldAt Try.prog 68 1 1 := FldAt.mk Try.underlying68 rfl rfl Try.sizeOf66 (by decide)
theorem fa68_2 : FldAt Try.prog 68 2 2 := FldAt.mk Try.underlying68 rfl rfl Try.sizeOf67 (by decide)
theorem fa69_0 : FldAt Try.prog 69 0 0 := FldAt.mk Try.underlying69 rfl rfl Try.sizeOf65 (by decide)
theorem fa69_1 : FldAt Try.prog 69 1 1 := FldAt.mk Try.underlying69 rfl rfl Try.sizeOf66 (by decide)
theorem fa69_2 : FldAt Try.prog 69 2 2 := FldAt.mk Try.underlying69 rfl rfl Try.sizeOf67 (by decide)
theorem fa80_0 : FldAt Try.prog 80 0 0 := FldAt.mk Try.underlying80 rfl rfl Try.sizeOf25 (by decide)
theorem fa80_1 : FldAt Try.prog 80 1 2 := FldAt.mk Try.underlying80 rfl rfl Try.sizeOf22 (by decide)
theorem fa81_0 : FldAt Try.prog 81 0 0 := FldAt.mk Try.underlying81 rfl rfl Try.sizeOf25 (by decide)
theorem fa81_1 : FldAt Try.prog 81 1 2 := FldAt.mk Try.underlying81 rfl rfl Try.sizeOf22 (by decide)
theorem fa99_0 : FldAt Try.prog 99 0 0 := FldAt.mk Try.underlying99 rfl rfl Try.sizeOf3 (by decide)
theorem fa99_1 : FldAt Try.prog 99 1 1 := FldAt.mk Try.underlying99 rfl rfl Try.sizeOf25 (by decide)
theorem fa100_0 : FldAt Try.prog 100 0 0 := FldAt.mk Try.underlying100 rfl rfl Try.sizeOf3 (by decide)
theorem fa100_1 : FldAt Try.prog 100 1 1 := FldAt.mk Try.underlying100 rfl rfl Try.sizeOf25 (by decide)
theorem fa106_0 : FldAt Try.prog 106 0 0 := FldAt.mk Try.underlying106 rfl rfl Try.sizeOf105 (by decide)
theorem fa106_1 : FldAt Try.prog 106 1 1 := FldAt.mk Try.underlying106 rfl rfl Try.sizeOf76 (by decide)
theorem fa107_0 : FldAt Try.prog 107 0 0 := FldAt.mk Try.underlying107 rfl rfl Try.sizeOf105 (by decide)
theorem fa107_1 : FldAt Try.prog 107 1 1 := FldAt.mk Try.underlying107 rfl rfl Try.sizeOf76 (by decide)
theorem fa111_0 : FldAt Try.prog 111 0 0 := FldAt.mk Try.underlying111 rfl rfl Try.sizeOf22 (by decide)
theorem fa111_1 : FldAt Try.prog 111 1 1 := FldAt.mk Try.underlying111 rfl rfl Try.sizeOf22 (by decide)
theorem fa111_2 : FldAt Try.prog 111 2 2 := FldAt.mk Try.underlying111 rfl rfl Try.sizeOf22 (by decide)
theorem fa112_0 : FldAt Try.prog 112 0 0 := FldAt.mk Try.underlying112 rfl rfl Try.sizeOf22 (by decide)
theorem fa112_1 : FldAt Try.prog 112 1 1 := FldAt.mk Try.underlying112 rfl rfl Try.sizeOf22 (by decide)
theorem fa112_2 : FldAt Try.prog 112 2 2 := FldAt.mk Try.underlying112 rfl rfl Try.sizeOf22 (by decide)
theorem fa113_0 : FldAt Try.prog 113 0 0 := FldAt.mk Try.underlying113 rfl rfl Try.sizeOf112 (by decide)
theorem fa113_1 : FldAt Try.prog 113 1 3 := FldAt.mk Try.underlying113 rfl rfl Try.sizeOf110 (by decide)
theorem fa114_0 : FldAt Try.prog 114 0 0 := FldAt.mk Try.underlying114 rfl rfl Try.sizeOf112 (by decide)
theorem fa114_1 : FldAt Try.prog 114 1 3 := FldAt.mk Try.underlying114 rfl rfl Try.sizeOf110 (by decide)
theorem fa115_0 : FldAt Try.prog 115 0 0 := FldAt.mk Try.underlying115 rfl rfl Try.sizeOf3 (by decide)
theorem fa115_1 : FldAt Try.prog 115 1 1 := FldAt.mk Try.underlying115 rfl rfl Try.sizeOf22 (by decide)
theorem fa115_2 : FldAt Try.prog 115 2 2 := FldAt.mk Try.underlying115 rfl rfl Try.sizeOf22 (by decide)
theorem fa116_0 : FldAt Try.prog 116 0 0 := FldAt.mk Try.underlying116 rfl rfl Try.sizeOf3 (by decide)
theorem fa116_1 : FldAt Try.prog 116 1 1 := FldAt.mk Try.underlying116 rfl rfl Try.sizeOf22 (by decide)
theorem fa116_2 : FldAt Try.prog 116 2 2 := FldAt.mk Try.underlying116 rfl rfl Try.sizeOf22 (by decide)
theorem fa119_0 : FldAt Try.prog 119 0 0 := FldAt.mk Try.underlying119 rfl rfl Try.sizeOf49 (by decide)
theorem fa119_1 : FldAt Try.prog 119 1 1 := FldAt.mk Try.underlying119 rfl rfl Try.sizeOf22 (by decide)
theorem fa120_0 : FldAt Try.prog 120 0 0 := FldAt.mk Try.underlying120 rfl rfl Try.sizeOf49 (by decide)
theorem fa120_1 : FldAt Try.prog 120 1 1 := FldAt.mk Try.underlying120 rfl rfl Try.sizeOf22 (by decide)
theorem fa125_0 : FldAt Try.prog 125 0 0 := FldAt.mk Try.underlying125 rfl rfl Try.sizeOf49 (by decide)
theorem fa125_1 : FldAt Try.prog 125 1 1 := FldAt.mk Try.underlying125 rfl rfl Try.sizeOf49 (by decide)
theorem fa126_0 : FldAt Try.prog 126 0 0 := FldAt.mk Try.underlying126 rfl rfl Try.sizeOf49 (by decide)
theorem fa126_1 : FldAt Try.prog 126 1 1 := FldAt.mk Try.underlying126 rfl rfl Try.sizeOf49 (by decide)
theorem fa134_0 : FldAt Try.prog 134 0 0 := FldAt.mk Try.underlying134 rfl rfl Try.sizeOf17 (by decide)
theorem fa134_1 : FldAt Try.prog 134 1 1 := FldAt.mk Try.underlying134 rfl rfl Try.sizeOf17 (by decide)
theorem fa134_2 : FldAt Try.prog 134 2 2 := FldAt.mk Try.underlying134 rfl rfl Try.sizeOf17 (by decide)
theorem fa134_3 : FldAt Try.prog 134 3 3 := FldAt.mk Try.underlying134 rfl rfl Try.sizeOf9 (by decide)
theorem fa146_0 : FldAt Try.prog 146 0 0 := FldAt.mk Try.underlying146 rfl rfl Try.sizeOf12 (by decide)
theorem fa146_1 : FldAt Try.prog 146 1 1 := FldAt.mk Try.underlying146 rfl rfl Try.sizeOf12 (by decide)
theorem fa146_2 : FldAt Try.prog 146 2 2 := FldAt.mk Try.underlying146 rfl rfl Try.sizeOf139 (by decide)
theorem fa146_3 : FldAt Try.prog 146 3 3 := FldAt.mk Try.underlying146 rfl rfl Try.sizeOf140 (by decide)
theorem fa146_4 : FldAt Try.prog 146 4 4 := FldAt.mk Try.underlying146 rfl rfl Try.sizeOf5 (by decide)
theorem fa146_5 : FldAt Try.prog 146 5 5 := FldAt.mk Try.underlying146 rfl rfl Try.sizeOf5 (by decide)
theorem fa146_6 : FldAt Try.prog 146 6 6 := FldAt.mk Try.underlying146 rfl rfl Try.sizeOf141 (by decide)
theorem fa146_7 : FldAt Try.prog 146 7 7 := FldAt.mk Try.underlying146 rfl rfl Try.sizeOf142 (by decide)
theorem fa146_8 : FldAt Try.prog 146 8 8 := FldAt.mk Try.underlying146 rfl rfl Try.sizeOf143 (by decide)
theorem fa146_9 : FldAt Try.prog 146 9 9 := FldAt.mk Try.underlying146 rfl rfl Try.sizeOf144 (by decide)
theorem fa146_10 : FldAt Try.prog 146 10 10 := FldAt.mk Try.underlying146 rfl rfl Try.sizeOf145 (by decide)
theorem pl7 : Places Try.prog 7 [(0, 1), (1, 1), (2, 1), (3, 1)] := ⟨_, Try.underlying7, fun w => by simp [Try.sizeOf2, Try.sizeOf3, Try.sizeOf4, Try.sizeOf6]⟩
theorem pl13 : Places Try.prog 13 [(0, 1), (1, 1)] := ⟨_, Try.underlying13, fun w => by simp [Try.sizeOf12, Try.sizeOf9]⟩
theorem pl18 : Places Try.prog 18 [(0, 1)] := ⟨_, Try.underlying18, fun w => by simp [Try.sizeOf17]⟩
theorem pl24 : Places Try.prog 24 [(0, 1), (1, 1)] := ⟨_, Try.underlying24, fun w => by simp [Try.sizeOf23, Try.sizeOf3]⟩
theorem pl25 : Places Try.prog 25 [(0, 1), (1, 1)] := ⟨_, Try.underlying25, fun w => by simp [Try.sizeOf23, Try.sizeOf3]⟩
theorem pl47 : Places Try.prog 47 [(0, 1), (1, 1), (2, 2)] := ⟨_, Try.underlying47, fun w => by simp [Try.sizeOf25, Try.sizeOf3]⟩
theorem pl48 : Places Try.prog 48 [(0, 1), (1, 1), (2, 2)] := ⟨_, Try.underlying48, fun w => by simp [Try.sizeOf25, Try.sizeOf3]⟩
theorem pl53 : Places Try.prog 53 [(0, 1), (1, 1)] := ⟨_, Try.underlying53, fun w => by simp [Try.sizeOf32]⟩
theorem pl54 : Places Try.prog 54 [(0, 1), (1, 1)] := ⟨_, Try.underlying54, fun w => by simp [Try.sizeOf32]⟩
theorem pl56 : Places Try.prog 56 [(0, 2), (2, 1)] := ⟨_, Try.underlying56, fun w => by simp [Try.sizeOf54, Try.sizeOf55]⟩
theorem pl57 : Places Try.prog 57 [(0, 2), (2, 1)] := ⟨_, Try.underlying57, fun w => by simp [Try.sizeOf54, Try.sizeOf55]⟩
theorem pl68 : Places Try.prog 68 [(0, 1), (1, 1), (2, 1)] := ⟨_, Try.underlying68, fun w => by simp [Try.sizeOf65, Try.sizeOf66, Try.sizeOf67]⟩
theorem pl69 : Places Try.prog 69 [(0, 1), (1, 1), (2, 1)] := ⟨_, Try.underlying69, fun w => by simp [Try.sizeOf65, Try.sizeOf66, Try.sizeOf67]⟩
theorem pl80 : Places Try.prog 80 [(0, 2), (2, 1)] := ⟨_, Try.underlying80, fun w => by simp [Try.sizeOf22, Try.sizeOf25]⟩
theorem pl81 : Places Try.prog 81 [(0, 2), (2, 1)] := ⟨_, Try.underlying81, fun w => by simp [Try.sizeOf22, Try.sizeOf25]⟩
theorem pl99 : Places Try.prog 99 [(0, 1), (1, 2)] := ⟨_, Try.underlying99, fun w => by simp [Try.sizeOf25, Try.sizeOf3]⟩
theorem pl100 : Places Try.prog 100 [(0, 1), (1, 2)] := ⟨_, Try.underlying100, fun w => by simp [Try.sizeOf25, Try.sizeOf3]⟩
theorem pl106 : Places Try.prog 106 [(0, 1), (1, 1)] := ⟨_, Try.underlying106, fun w => by simp [Try.sizeOf105, Try.sizeOf76]⟩
theorem pl107 : Places Try.prog 107 [(0, 1), (1, 1)] := ⟨_, Try.underlying107, fun w => by simp [Try.sizeOf105, Try.sizeOf76]⟩
theorem pl111 : Places Try.prog 111 [(0, 1), (1, 1), (2, 1)] := ⟨_, Try.underlying111, fun w => by simp [Try.sizeOf22]⟩
theorem pl112 : Places Try.prog 112 [(0, 1), (1, 1), (2, 1)] := ⟨_, Try.underlying112, fun w => by simp [Try.sizeOf22]⟩
theorem pl113 : Places Try.prog 113 [(0, 3), (3, 1)] := ⟨_, Try.underlying113, fun w => by simp [Try.sizeOf110, Try.sizeOf112]⟩
theorem pl114 : Places Try.prog 114 [(0, 3), (3, 1)] := ⟨_, Try.underlying114, fun w => by simp [Try.sizeOf110, Try.sizeOf112]⟩
theorem pl115 : Places Try.prog 115 [(0, 1), (1, 1), (2, 1)] := ⟨_, Try.underlying115, fun w => by simp [Try.sizeOf22, Try.sizeOf3]⟩
theorem pl116 : Places Try.prog 116 [(0, 1), (1, 1), (2, 1)] := ⟨_, Try.underlying116, fun w => by simp [Try.sizeOf22, Try.sizeOf3]⟩
theorem pl119 : Places Try.prog 119 [(0, 1), (1, 1)] := ⟨_, Try.underlying119, fun w => by simp [Try.sizeOf22, Try.sizeOf49]⟩
theorem pl120 : Places Try.prog 120 [(0, 1), (1, 1)] := ⟨_, Try.underlying120, fun w => by simp [Try.sizeOf22, Try.sizeOf49]⟩
theorem pl125 : Places Try.prog 125 [(0, 1), (1, 1)] := ⟨_, Try.underlying125, fun w => by simp [Try.sizeOf49]⟩
theorem pl126 : Places Try.prog 126 [(0, 1), (1, 1)] := ⟨_, Try.underlying126, fun w => by simp [Try.sizeOf49]⟩
theorem pl134 : Places Try.prog 134 [(0, 1), (1, 1), (2, 1), (3, 1)] := ⟨_, Try.underlying134, fun w => by simp [Try.sizeOf17, Try.sizeOf9]⟩
theorem pl137 : Places Try.prog 137 [(0, 0)] := ⟨_, Try.underlying137, fun w => by simp [Try.sizeOf136]⟩
theorem pl146 : Places Try.prog 146 [(0, 1), (1, 1), (2, 1), (3, 1), (4, 1), (5, 1), (6, 1), (7, 1), (8, 1), (9, 1), (10, 1)] := ⟨_, Try.underlying146, fun w => by simp [Try.sizeOf12, Try.sizeOf139, Try.sizeOf140, Try.sizeOf141, Try.sizeOf142, Try.sizeOf143, Try.sizeOf144, Try.sizeOf145, Try.sizeOf5]⟩
theorem sc1 : Sc Try.prog 1 := fun w => ⟨Try.isAgg1 w, Try.sizeOf1 w⟩
theorem sc2 : Sc Try.prog 2 := fun w => ⟨Try.isAgg2 w, Try.sizeOf2 w⟩
theorem sc3 : Sc Try.prog 3 := fun w => ⟨Try.isAgg3 w, Try.sizeOf3 w⟩
theorem sc4 : Sc Try.prog 4 := fun w => ⟨Try.isAgg4 w, Try.sizeOf4 w⟩
theorem sc5 : Sc Try.prog 5 := fun w => ⟨Try.isAgg5 w, Try.sizeOf5 w⟩
theorem sc9 : Sc Try.prog 9 := fun w => ⟨Try.isAgg9 w, Try.sizeOf9 w⟩
theorem sc12 : Sc Try.prog 12 := fun w => ⟨Try.isAgg12 w, Try.sizeOf12 w⟩
theorem sc21 : Sc Try.prog 21 := fun w => ⟨Try.isAgg21 w, Try.sizeOf21 w⟩
theorem sc22 : Sc Try.prog 22 := fun w => ⟨Try.isAgg22 w, Try.sizeOf22 w⟩
theorem sc23 : Sc Try.prog 23 := fun w => ⟨Try.isAgg23 w, Try.sizeOf23 w⟩
theorem sc26 : Sc Try.prog 26 := fun w => ⟨Try.isAgg26 w, Try.sizeOf26 w⟩
theorem sc27 : Sc Try.prog 27 := fun w => ⟨Try.isAgg27 w, Try.sizeOf27 w⟩
theorem sc28 : Sc Try.prog 28 := fun w => ⟨Try.isAgg28 w, Try.sizeOf28 w⟩
theorem sc29 : Sc Try.prog 29 := fun w => ⟨Try.isAgg29 w, Try.sizeOf29 w⟩
theorem sc31 : Sc Try.prog 31 := fun w => ⟨Try.isAgg31 w, Try.sizeOf31 w⟩
theorem sc32 : Sc Try.prog 32 := fun w => ⟨Try.isAgg32 w, Try.sizeOf32 w⟩
theorem sc33 : Sc Try.prog 33 := fun w => ⟨Try.isAgg33 w, Try.sizeOf33 w⟩
theorem sc34 : Sc Try.prog 34 := fun w => ⟨Try.isAgg34 w, Try.sizeOf34 w⟩
theorem sc35 : Sc Try.prog 35 := fun w => ⟨Try.isAgg35 w, Try.sizeOf35 w⟩
theorem sc37 : Sc Try.prog 37 := fun w => ⟨Try.isAgg37 w, Try.sizeOf37 w⟩
theorem sc38 : Sc Try.prog 38 := fun w => ⟨Try.isAgg38 w, Try.sizeOf38 w⟩
theorem sc39 : Sc Try.prog 39 := fun w => ⟨Try.isAgg39 w, Try.sizeOf39 w⟩
theorem sc41 : Sc Try.prog 41 := fun w => ⟨Try.isAgg41 w, Try.sizeOf41 w⟩
theorem sc42 : Sc Try.prog 42 := fun w => ⟨Try.isAgg42 w, Try.sizeOf42 w⟩
theorem sc44 : Sc Try.prog 44 := fun w => ⟨Try.isAgg44 w, Try.sizeOf44 w⟩
theorem sc45 : Sc Try.prog 45 := fun w => ⟨Try.isAgg45 w, Try.sizeOf45 w⟩
theorem sc46 : Sc Try.prog 46 := fun w => ⟨Try.isAgg46 w, Try.sizeOf46 w⟩
theorem sc49 : Sc Try.prog 49 := fun w => ⟨Try.isAgg49 w, Try.sizeOf49 w⟩
theorem sc51 : Sc Try.prog 51 := fun w => ⟨Try.isAgg51 w, Try.sizeOf51 w⟩
theorem sc52 : Sc Try.prog 52 := fun w => ⟨Try.isAgg52 w, Try.sizeOf52 w⟩
theorem sc55 : Sc Try.prog 55 := fun w => ⟨Try.isAgg55 w, Try.sizeOf55 w⟩
theorem sc59 : Sc Try.prog 59 := fun w => ⟨Try.isAgg59 w, Try.sizeOf59 w⟩
theorem sc61 : Sc Try.prog 61 := fun w => ⟨Try.isAgg61 w, Try.sizeOf61 w⟩
theorem sc62 : Sc Try.prog 62 := fun w => ⟨Try.isAgg62 w, Try.sizeOf62 w⟩
theorem sc63 : Sc Try.prog 63 := fun w => ⟨Try.isAgg63 w, Try.sizeOf63 w⟩
theorem sc64 : Sc Try.prog 64 := fun w => ⟨Try.isAgg64 w, Try.sizeOf64 w⟩
theorem sc65 : Sc Try.prog 65 := fun w => ⟨Try.isAgg65 w, Try.sizeOf65 w⟩
theorem sc66 : Sc Try.prog 66 := fun w => ⟨Try.isAgg66 w, Try.sizeOf66 w⟩
theorem sc67 : Sc Try.prog 67 := fun w => ⟨Try.isAgg67 w, Try.sizeOf67 w⟩
theorem sc70 : Sc Try.prog 70 := fun w => ⟨Try.isAgg70 w, Try.sizeOf70 w⟩
theorem sc71 : Sc Try.prog 71 := fun w => ⟨Try.isAgg71 w, Try.sizeOf71 w⟩
theorem sc72 : Sc Try.prog 72 := fun w => ⟨Try.isAgg72 w, Try.sizeOf72 w⟩
theorem sc73 : Sc Try.prog 73 := fun w => ⟨Try.isAgg73 w, Try.sizeOf73 w⟩
theorem sc75 : Sc Try.prog 75 := fun w => ⟨Try.isAgg75 w, Try.sizeOf75 w⟩
theorem sc76 : Sc Try.prog 76 := fun w => ⟨Try.isAgg76 w, Try.sizeOf76 w⟩
theorem sc77 : Sc Try.prog 77 := fun w => ⟨Try.isAgg77 w, Try.sizeOf77 w⟩
theorem sc79 : Sc Try.prog 79 := fun w => ⟨Try.isAgg79 w, Try.sizeOf79 w⟩
theorem sc82 : Sc Try.prog 82 := fun w => ⟨Try.isAgg82 w, Try.sizeOf82 w⟩
theorem sc83 : Sc Try.prog 83 := fun w => ⟨Try.isAgg83 w, Try.sizeOf83 w⟩
theorem sc84 : Sc Try.prog 84 := fun w => ⟨Try.isAgg84 w, Try.sizeOf84 w⟩
theorem sc85 : Sc Try.prog 85 := fun w => ⟨Try.isAgg85 w, Try.sizeOf85 w⟩
theorem sc87 : Sc Try.prog 87 := fun w => ⟨Try.isAgg87 w, Try.sizeOf87 w⟩
theorem sc88 : Sc Try.prog 88 := fun w => ⟨Try.isAgg88 w, Try.sizeOf88 w⟩
theorem sc90 : Sc Try.prog 90 := fun w => ⟨Try.isAgg90 w, Try.sizeOf90 w⟩
theorem sc92 : Sc Try.prog 92 := fun w => ⟨Try.isAgg92 w, Try.sizeOf92 w⟩
theorem sc94 : Sc Try.prog 94 := fun w => ⟨Try.isAgg94 w, Try.sizeOf94 w⟩
theorem sc96 : Sc Try.prog 96 := fun w => ⟨Try.isAgg96 w, Try.sizeOf96 w⟩
theorem sc98 : Sc Try.prog 98 := fun w => ⟨Try.isAgg98 w, Try.sizeOf98 w⟩
theorem sc102 : Sc Try.prog 102 := fun w => ⟨Try.isAgg102 w, Try.sizeOf102 w⟩
theorem sc103 : Sc Try.prog 103 := fun w => ⟨Try.isAgg103 w, Try.sizeOf103 w⟩
theorem sc104 : Sc Try.prog 104 := fun w => ⟨Try.isAgg104 w, Try.sizeOf104 w⟩
theorem sc105 : Sc Try.prog 105 := fun w => ⟨Try.isAgg105 w, Try.sizeOf105 w⟩
theorem sc108 : Sc Try.prog 108 := fun w => ⟨Try.isAgg108 w, Try.sizeOf108 w⟩
theorem sc109 : Sc Try.prog 109 := fun w => ⟨Try.isAgg109 w, Try.sizeOf109 w⟩
theorem sc110 : Sc Try.prog 110 := fun w => ⟨Try.isAgg110 w, Try.sizeOf110 w⟩
theorem sc117 : Sc Try.prog 117 := fun w => ⟨Try.isAgg117 w, Try.sizeOf117 w⟩
theorem sc118 : Sc Try.prog 118 := fun w => ⟨Try.isAgg118 w, Try.sizeOf118 w⟩
theorem sc121 : Sc Try.prog 121 := fun w => ⟨Try.isAgg121 w, Try.sizeOf121 w⟩
theorem sc122 : Sc Try.prog 122 := fun w => ⟨Try.isAgg122 w, Try.sizeOf122 w⟩
theorem sc123 : Sc Try.prog 123 := fun w => ⟨Try.isAgg123 w, Try.sizeOf123 w⟩
theorem sc124 : Sc Try.prog 124 := fun w => ⟨Try.isAgg124 w, Try.sizeOf124 w⟩
theorem sc127 : Sc Try.prog 127 := fun w => ⟨Try.isAgg127 w, Try.sizeOf127 w⟩
theorem sc129 : Sc Try.prog 129 := fun w => ⟨Try.isAgg129 w, Try.sizeOf129 w⟩
theorem sc130 : Sc Try.prog 130 := fun w => ⟨Try.isAgg130 w, Try.sizeOf130 w⟩
theorem sc132 : Sc Try.prog 132 := fun w => ⟨Try.isAgg132 w, Try.sizeOf132 w⟩
theorem sc133 : Sc Try.prog 133 := fun w => ⟨Try.isAgg133 w, Try.sizeOf133 w⟩
theorem sc139 : Sc Try.prog 139 := fun w => ⟨Try.isAgg139 w, Try.sizeOf139 w⟩
theorem sc143 : Sc Try.prog 143 := fun w => ⟨Try.isAgg143 w, Try.sizeOf143 w⟩
theorem sc148 : Sc Try.prog 148 := fun w => ⟨Try.isAgg148 w, Try.sizeOf148 w⟩
set_option linter.unusedSimpArgs false in
theorem eqin7_10000 (a0 b0 : Int) (a1 b1 : Int) (a2 b2 : Bool) (a3 b3 : Int) (w : World) : (Op.equalIn 10000 7 (.agg #[.int .i64 a0, .int .i64 a1, .bool a2, .int .u8 a3]) (.agg #[.int .i64 b0, .int .i64 b1, .bool b2, .int .u8 b3])).run Try.prog w = .ok (decide (a0 = b0 ∧ a1 = b1 ∧ a2 = b2 ∧ a3 = b3)) w := by
  rw [run_equalIn_struct w 9999 7 _ _ (by simp [Program.fieldsOf, Try.underlying7]) Try.stoodInHeld7]
  by_cases h0 : a0 = b0 <;> by_cases h1 : a1 = b1 <;> by_cases h2 : a2 = b2 <;> by_cases h3 : a3 = b3 <;> simp [Program.fieldsOf, Try.underlying7, Op.eqFields, part, Try.isAgg2, Try.isAgg3, Try.isAgg4, Try.isAgg6, run_equalIn_bool' w 9998 4 _ _ Try.underlying4, run_equalIn_int w 9998 2 .i64 .i64 _ _ Try.underlying2, run_equalIn_int w 9998 3 .i64 .i64 _ _ Try.underlying3, run_equalIn_int w 9998 6 .u8 .u8 _ _ Try.underlying6, h0, h1, h2, h3]
theorem seq7 (a0 b0 : Int) (a1 b1 : Int) (a2 b2 : Bool) (a3 b3 : Int) (w : World) : (binOp .eql 7 (.agg #[.int .i64 a0, .int .i64 a1, .bool a2, .int .u8 a3]) (.agg #[.int .i64 b0, .int .i64 b1, .bool b2, .int .u8 b3])).run Try.prog w = .ok (.bool (decide (a0 = b0 ∧ a1 = b1 ∧ a2 = b2 ∧ a3 = b3))) w := by
  rw [run_eql_struct, eqin7_10000]
  rfl
theorem R_seq7 {X : Ctx} {E : Env} {H : Heap} {o : Oper} {x y : Operand} {t' : TypeId} {a0 b0 : Int} {a1 b1 : Int} {a2 b2 : Bool} {a3 b3 : Int} (hP : X.P = Try.prog) (ho : o.op = .binOp .eql 7 x y t') (hx : ev E x = some (.agg #[.int .i64 a0, .int .i64 a1, .bool a2, .int .u8 a3])) (hy : ev E y = some (.agg #[.int .i64 b0, .int .i64 b1, .bool b2, .int .u8 b3])) : Runs X o E H (.bool (decide (a0 = b0 ∧ a1 = b1 ∧ a2 = b2 ∧ a3 = b3))) :=
  R_bin ho hx hy (fun w => by rw [hP]; exact run_eqGuard_agg w _ 7 x y _ _ Try.eqGuardType7) (fun w => by rw [hP]; exact seq7 a0 b0 a1 b1 a2 b2 a3 b3 w)
theorem sne7 (a0 b0 : Int) (a1 b1 : Int) (a2 b2 : Bool) (a3 b3 : Int) (w : World) : (binOp .neq 7 (.agg #[.int .i64 a0, .int .i64 a1, .bool a2, .int .u8 a3]) (.agg #[.int .i64 b0, .int .i64 b1, .bool b2, .int .u8 b3])).run Try.prog w = .ok (.bool (decide (¬ (a0 = b0 ∧ a1 = b1 ∧ a2 = b2 ∧ a3 = b3)))) w := by
  rw [run_neq_struct, eqin7_10000]
  simp
theorem R_sne7 {X : Ctx} {E : Env} {H : Heap} {o : Oper} {x y : Operand} {t' : TypeId} {a0 b0 : Int} {a1 b1 : Int} {a2 b2 : Bool} {a3 b3 : Int} (hP : X.P = Try.prog) (ho : o.op = .binOp .neq 7 x y t') (hx : ev E x = some (.agg #[.int .i64 a0, .int .i64 a1, .bool a2, .int .u8 a3])) (hy : ev E y = some (.agg #[.int .i64 b0, .int .i64 b1, .bool b2, .int .u8 b3])) : Runs X o E H (.bool (decide (¬ (a0 = b0 ∧ a1 = b1 ∧ a2 = b2 ∧ a3 = b3)))) :=
  R_bin ho hx hy (fun w => by rw [hP]; exact run_eqGuard_agg w _ 7 x y _ _ Try.eqGuardType7) (fun w => by rw [hP]; exact sne7 a0 b0 a1 b1 a2 b2 a3 b3 w)
set_option linter.unusedSimpArgs false in
theorem eqin24_10000 (a0 b0 : Int) (a1 b1 : Int) (w : World) : (Op.equalIn 10000 24 (.agg #[.int .i64 a0, .int .i64 a1]) (.agg #[.int .i64 b0, .int .i64 b1])).run Try.prog w = .ok (decide (a0 = b0 ∧ a1 = b1)) w := by
  rw [run_equalIn_struct w 9999 24 _ _ (by simp [Program.fieldsOf, Try.underlying24]) Try.stoodInHeld24]
  by_cases h0 : a0 = b0 <;> by_cases h1 : a1 = b1 <;> simp [Program.fieldsOf, Try.underlying24, Op.eqFields, part, Try.isAgg23, Try.isAgg3, run_equalIn_int w 9998 23 .i64 .i64 _ _ Try.underlying23, run_equalIn_int w 9998 3 .i64 .i64 _ _ Try.underlying3, h0, h1]
theorem seq24 (a0 b0 : Int) (a1 b1 : Int) (w : World) : (binOp .eql 24 (.agg #[.int .i64 a0, .int .i64 a1]) (.agg #[.int .i64 b0, .int .i64 b1])).run Try.prog w = .ok (.bool (decide (a0 = b0 ∧ a1 = b1))) w := by
  rw [run_eql_struct, eqin24_10000]
  rfl
theorem R_seq24 {X : Ctx} {E : Env} {H : Heap} {o : Oper} {x y : Operand} {t' : TypeId} {a0 b0 : Int} {a1 b1 : Int} (hP : X.P = Try.prog) (ho : o.op = .binOp .eql 24 x y t') (hx : ev E x = some (.agg #[.int .i64 a0, .int .i64 a1])) (hy : ev E y = some (.agg #[.int .i64 b0, .int .i64 b1])) : Runs X o E H (.bool (decide (a0 = b0 ∧ a1 = b1))) :=
  R_bin ho hx hy (fun w => by rw [hP]; exact run_eqGuard_agg w _ 24 x y _ _ Try.eqGuardType24) (fun w => by rw [hP]; exact seq24 a0 b0 a1 b1 w)
theorem sne24 (a0 b0 : Int) (a1 b1 : Int) (w : World) : (binOp .neq 24 (.agg #[.int .i64 a0, .int .i64 a1]) (.agg #[.int .i64 b0, .int .i64 b1])).run Try.prog w = .ok (.bool (decide (¬ (a0 = b0 ∧ a1 = b1)))) w := by
  rw [run_neq_struct, eqin24_10000]
  simp
theorem R_sne24 {X : Ctx} {E : Env} {H : Heap} {o : Oper} {x y : Operand} {t' : TypeId} {a0 b0 : Int} {a1 b1 : Int} (hP : X.P = Try.prog) (ho : o.op = .binOp .neq 24 x y t') (hx : ev E x = some (.agg #[.int .i64 a0, .int .i64 a1])) (hy : ev E y = some (.agg #[.int .i64 b0, .int .i64 b1])) : Runs X o E H (.bool (decide (¬ (a0 = b0 ∧ a1 = b1)))) :=
  R_bin ho hx hy (fun w => by rw [hP]; exact run_eqGuard_agg w _ 24 x y _ _ Try.eqGuardType24) (fun w => by rw [hP]; exact sne24 a0 b0 a1 b1 w)
set_option linter.unusedSimpArgs false in
theorem eqin25_10000 (a0 b0 : Int) (a1 b1 : Int) (w : World) : (Op.equalIn 10000 25 (.agg #[.int .i64 a0, .int .i64 a1]) (.agg #[.int .i64 b0, .int .i64 b1])).run Try.prog w = .ok (decide (a0 = b0 ∧ a1 = b1)) w := by
  rw [run_equalIn_struct w 9999 25 _ _ (by simp [Program.fieldsOf, Try.underlying25]) Try.stoodInHeld25]
  by_cases h0 : a0 = b0 <;> by_cases h1 : a1 = b1 <;> simp [Program.fieldsOf, Try.underlying25, Op.eqFields, part, Try.isAgg23, Try.isAgg3, run_equalIn_int w 9998 23 .i64 .i64 _ _ Try.underlying23, run_equalIn_int w 9998 3 .i64 .i64 _ _ Try.underlying3, h0, h1]
theorem seq25 (a0 b0 : Int) (a1 b1 : Int) (w : World) : (binOp .eql 25 (.agg #[.int .i64 a0, .int .i64 a1]) (.agg #[.int .i64 b0, .int .i64 b1])).run Try.prog w = .ok (.bool (decide (a0 = b0 ∧ a1 = b1))) w := by
  rw [run_eql_struct, eqin25_10000]
  rfl
theorem R_seq25 {X : Ctx} {E : Env} {H : Heap} {o : Oper} {x y : Operand} {t' : TypeId} {a0 b0 : Int} {a1 b1 : Int} (hP : X.P = Try.prog) (ho : o.op = .binOp .eql 25 x y t') (hx : ev E x = some (.agg #[.int .i64 a0, .int .i64 a1])) (hy : ev E y = some (.agg #[.int .i64 b0, .int .i64 b1])) : Runs X o E H (.bool (decide (a0 = b0 ∧ a1 = b1))) :=
  R_bin ho hx hy (fun w => by rw [hP]; exact run_eqGuard_agg w _ 25 x y _ _ Try.eqGuardType25) (fun w => by rw [hP]; exact seq25 a0 b0 a1 b1 w)
theorem sne25 (a0 b0 : Int) (a1 b1 : Int) (w : World) : (binOp .neq 25 (.agg #[.int .i64 a0, .int .i64 a1]) (.agg #[.int .i64 b0, .int .i64 b1])).run Try.prog w = .ok (.bool (decide (¬ (a0 = b0 ∧ a1 = b1)))) w := by
  rw [run_neq_struct, eqin25_10000]
  simp
theorem R_sne25 {X : Ctx} {E : Env} {H : Heap} {o : Oper} {x y : Operand} {t' : TypeId} {a0 b0 : Int} {a1 b1 : Int} (hP : X.P = Try.prog) (ho : o.op = .binOp .neq 25 x y t') (hx : ev E x = some (.agg #[.int .i64 a0, .int .i64 a1])) (hy : ev E y = some (.agg #[.int .i64 b0, .int .i64 b1])) : Runs X o E H (.bool (decide (¬ (a0 = b0 ∧ a1 = b1)))) :=
  R_bin ho hx hy (fun w => by rw [hP]; exact run_eqGuard_agg w _ 25 x y _ _ Try.eqGuardType25) (fun w => by rw [hP]; exact sne25 a0 b0 a1 b1 w)
set_option linter.unusedSimpArgs false in
theorem eqin25_9999 (a0 b0 : Int) (a1 b1 : Int) (w : World) : (Op.equalIn 9999 25 (.agg #[.int .i64 a0, .int .i64 a1]) (.agg #[.int .i64 b0, .int .i64 b1])).run Try.prog w = .ok (decide (a0 = b0 ∧ a1 = b1)) w := by
  rw [run_equalIn_struct w 9998 25 _ _ (by simp [Program.fieldsOf, Try.underlying25]) Try.stoodInHeld25]
  by_cases h0 : a0 = b0 <;> by_cases h1 : a1 = b1 <;> simp [Program.fieldsOf, Try.underlying25, Op.eqFields, part, Try.isAgg23, Try.isAgg3, run_equalIn_int w 9997 23 .i64 .i64 _ _ Try.underlying23, run_equalIn_int w 9997 3 .i64 .i64 _ _ Try.underlying3, h0, h1]
set_option linter.unusedSimpArgs false in
theorem eqin47_10000 (a0 b0 : Int) (a1 b1 : Int) (a2 b2 : Int) (a3 b3 : Int) (w : World) : (Op.equalIn 10000 47 (.agg #[.int .i64 a0, .int .i64 a1, .int .i64 a2, .int .i64 a3]) (.agg #[.int .i64 b0, .int .i64 b1, .int .i64 b2, .int .i64 b3])).run Try.prog w = .ok (decide (a0 = b0 ∧ a1 = b1 ∧ a2 = b2 ∧ a3 = b3)) w := by
  rw [run_equalIn_struct w 9999 47 _ _ (by simp [Program.fieldsOf, Try.underlying47]) Try.stoodInHeld47]
  by_cases h0 : a0 = b0 <;> by_cases h1 : a1 = b1 <;> by_cases h2 : a2 = b2 <;> by_cases h3 : a3 = b3 <;> simp [Program.fieldsOf, Try.underlying47, Op.eqFields, part, Try.isAgg25, Try.isAgg3, Try.sizeOf25, eqin25_9999, run_equalIn_int w 9998 3 .i64 .i64 _ _ Try.underlying3, h0, h1, h2, h3]
theorem seq47 (a0 b0 : Int) (a1 b1 : Int) (a2 b2 : Int) (a3 b3 : Int) (w : World) : (binOp .eql 47 (.agg #[.int .i64 a0, .int .i64 a1, .int .i64 a2, .int .i64 a3]) (.agg #[.int .i64 b0, .int .i64 b1, .int .i64 b2, .int .i64 b3])).run Try.prog w = .ok (.bool (decide (a0 = b0 ∧ a1 = b1 ∧ a2 = b2 ∧ a3 = b3))) w := by
  rw [run_eql_struct, eqin47_10000]
  rfl
theorem R_seq47 {X : Ctx} {E : Env} {H : Heap} {o : Oper} {x y : Operand} {t' : TypeId} {a0 b0 : Int} {a1 b1 : Int} {a2 b2 : Int} {a3 b3 : Int} (hP : X.P = Try.prog) (ho : o.op = .binOp .eql 47 x y t') (hx : ev E x = some (.agg #[.int .i64 a0, .int .i64 a1, .int .i64 a2, .int .i64 a3])) (hy : ev E y = some (.agg #[.int .i64 b0, .int .i64 b1, .int .i64 b2, .int .i64 b3])) : Runs X o E H (.bool (decide (a0 = b0 ∧ a1 = b1 ∧ a2 = b2 ∧ a3 = b3))) :=
  R_bin ho hx hy (fun w => by rw [hP]; exact run_eqGuard_agg w _ 47 x y _ _ Try.eqGuardType47) (fun w => by rw [hP]; exact seq47 a0 b0 a1 b1 a2 b2 a3 b3 w)
theorem sne47 (a0 b0 : Int) (a1 b1 : Int) (a2 b2 : Int) (a3 b3 : Int) (w : World) : (binOp .neq 47 (.agg #[.int .i64 a0, .int .i64 a1, .int .i64 a2, .int .i64 a3]) (.agg #[.int .i64 b0, .int .i64 b1, .int .i64 b2, .int .i64 b3])).run Try.prog w = .ok (.bool (decide (¬ (a0 = b0 ∧ a1 = b1 ∧ a2 = b2 ∧ a3 = b3)))) w := by
  rw [run_neq_struct, eqin47_10000]
  simp
theorem R_sne47 {X : Ctx} {E : Env} {H : Heap} {o : Oper} {x y : Operand} {t' : TypeId} {a0 b0 : Int} {a1 b1 : Int} {a2 b2 : Int} {a3 b3 : Int} (hP : X.P = Try.prog) (ho : o.op = .binOp .neq 47 x y t') (hx : ev E x = some (.agg #[.int .i64 a0, .int .i64 a1, .int .i64 a2, .int .i64 a3])) (hy : ev E y = some (.agg #[.int .i64 b0, .int .i64 b1, .int .i64 b2, .int .i64 b3])) : Runs X o E H (.bool (decide (¬ (a0 = b0 ∧ a1 = b1 ∧ a2 = b2 ∧ a3 = b3)))) :=
  R_bin ho hx hy (fun w => by rw [hP]; exact run_eqGuard_agg w _ 47 x y _ _ Try.eqGuardType47) (fun w => by rw [hP]; exact sne47 a0 b0 a1 b1 a2 b2 a3 b3 w)
set_option linter.unusedSimpArgs false in
theorem eqin48_10000 (a0 b0 : Int) (a1 b1 : Int) (a2 b2 : Int) (a3 b3 : Int) (w : World) : (Op.equalIn 10000 48 (.agg #[.int .i64 a0, .int .i64 a1, .int .i64 a2, .int .i64 a3]) (.agg #[.int .i64 b0, .int .i64 b1, .int .i64 b2, .int .i64 b3])).run Try.prog w = .ok (decide (a0 = b0 ∧ a1 = b1 ∧ a2 = b2 ∧ a3 = b3)) w := by
  rw [run_equalIn_struct w 9999 48 _ _ (by simp [Program.fieldsOf, Try.underlying48]) Try.stoodInHeld48]
  by_cases h0 : a0 = b0 <;> by_cases h1 : a1 = b1 <;> by_cases h2 : a2 = b2 <;> by_cases h3 : a3 = b3 <;> simp [Program.fieldsOf, Try.underlying48, Op.eqFields, part, Try.isAgg25, Try.isAgg3, Try.sizeOf25, eqin25_9999, run_equalIn_int w 9998 3 .i64 .i64 _ _ Try.underlying3, h0, h1, h2, h3]
theorem seq48 (a0 b0 : Int) (a1 b1 : Int) (a2 b2 : Int) (a3 b3 : Int) (w : World) : (binOp .eql 48 (.agg #[.int .i64 a0, .int .i64 a1, .int .i64 a2, .int .i64 a3]) (.agg #[.int .i64 b0, .int .i64 b1, .int .i64 b2, .int .i64 b3])).run Try.prog w = .ok (.bool (decide (a0 = b0 ∧ a1 = b1 ∧ a2 = b2 ∧ a3 = b3))) w := by
  rw [run_eql_struct, eqin48_10000]
  rfl
theorem R_seq48 {X : Ctx} {E : Env} {H : Heap} {o : Oper} {x y : Operand} {t' : TypeId} {a0 b0 : Int} {a1 b1 : Int} {a2 b2 : Int} {a3 b3 : Int} (hP : X.P = Try.prog) (ho : o.op = .binOp .eql 48 x y t') (hx : ev E x = some (.agg #[.int .i64 a0, .int .i64 a1, .int .i64 a2, .int .i64 a3])) (hy : ev E y = some (.agg #[.int .i64 b0, .int .i64 b1, .int .i64 b2, .int .i64 b3])) : Runs X o E H (.bool (decide (a0 = b0 ∧ a1 = b1 ∧ a2 = b2 ∧ a3 = b3))) :=
  R_bin ho hx hy (fun w => by rw [hP]; exact run_eqGuard_agg w _ 48 x y _ _ Try.eqGuardType48) (fun w => by rw [hP]; exact seq48 a0 b0 a1 b1 a2 b2 a3 b3 w)
theorem sne48 (a0 b0 : Int) (a1 b1 : Int) (a2 b2 : Int) (a3 b3 : Int) (w : World) : (binOp .neq 48 (.agg #[.int .i64 a0, .int .i64 a1, .int .i64 a2, .int .i64 a3]) (.agg #[.int .i64 b0, .int .i64 b1, .int .i64 b2, .int .i64 b3])).run Try.prog w = .ok (.bool (decide (¬ (a0 = b0 ∧ a1 = b1 ∧ a2 = b2 ∧ a3 = b3)))) w := by
  rw [run_neq_struct, eqin48_10000]
  simp
theorem R_sne48 {X : Ctx} {E : Env} {H : Heap} {o : Oper} {x y : Operand} {t' : TypeId} {a0 b0 : Int} {a1 b1 : Int} {a2 b2 : Int} {a3 b3 : Int} (hP : X.P = Try.prog) (ho : o.op = .binOp .neq 48 x y t') (hx : ev E x = some (.agg #[.int .i64 a0, .int .i64 a1, .int .i64 a2, .int .i64 a3])) (hy : ev E y = some (.agg #[.int .i64 b0, .int .i64 b1, .int .i64 b2, .int .i64 b3])) : Runs X o E H (.bool (decide (¬ (a0 = b0 ∧ a1 = b1 ∧ a2 = b2 ∧ a3 = b3)))) :=
  R_bin ho hx hy (fun w => by rw [hP]; exact run_eqGuard_agg w _ 48 x y _ _ Try.eqGuardType48) (fun w => by rw [hP]; exact sne48 a0 b0 a1 b1 a2 b2 a3 b3 w)
set_option linter.unusedSimpArgs false in
theorem eqin80_10000 (a0 b0 : Int) (a1 b1 : Int) (a2 b2 : Int) (w : World) : (Op.equalIn 10000 80 (.agg #[.int .i64 a0, .int .i64 a1, .int .u64 a2]) (.agg #[.int .i64 b0, .int .i64 b1, .int .u64 b2])).run Try.prog w = .ok (decide (a0 = b0 ∧ a1 = b1 ∧ a2 = b2)) w := by
  rw [run_equalIn_struct w 9999 80 _ _ (by simp [Program.fieldsOf, Try.underlying80]) Try.stoodInHeld80]
  by_cases h0 : a0 = b0 <;> by_cases h1 : a1 = b1 <;> by_cases h2 : a2 = b2 <;> simp [Program.fieldsOf, Try.underlying80, Op.eqFields, part, Try.isAgg22, Try.isAgg25, Try.sizeOf25, eqin25_9999, run_equalIn_int w 9998 22 .u64 .u64 _ _ Try.underlying22, h0, h1, h2]
theorem seq80 (a0 b0 : Int) (a1 b1 : Int) (a2 b2 : Int) (w : World) : (binOp .eql 80 (.agg #[.int .i64 a0, .int .i64 a1, .int .u64 a2]) (.agg #[.int .i64 b0, .int .i64 b1, .int .u64 b2])).run Try.prog w = .ok (.bool (decide (a0 = b0 ∧ a1 = b1 ∧ a2 = b2))) w := by
  rw [run_eql_struct, eqin80_10000]
  rfl
theorem R_seq80 {X : Ctx} {E : Env} {H : Heap} {o : Oper} {x y : Operand} {t' : TypeId} {a0 b0 : Int} {a1 b1 : Int} {a2 b2 : Int} (hP : X.P = Try.prog) (ho : o.op = .binOp .eql 80 x y t') (hx : ev E x = some (.agg #[.int .i64 a0, .int .i64 a1, .int .u64 a2])) (hy : ev E y = some (.agg #[.int .i64 b0, .int .i64 b1, .int .u64 b2])) : Runs X o E H (.bool (decide (a0 = b0 ∧ a1 = b1 ∧ a2 = b2))) :=
  R_bin ho hx hy (fun w => by rw [hP]; exact run_eqGuard_agg w _ 80 x y _ _ Try.eqGuardType80) (fun w => by rw [hP]; exact seq80 a0 b0 a1 b1 a2 b2 w)
theorem sne80 (a0 b0 : Int) (a1 b1 : Int) (a2 b2 : Int) (w : World) : (binOp .neq 80 (.agg #[.int .i64 a0, .int .i64 a1, .int .u64 a2]) (.agg #[.int .i64 b0, .int .i64 b1, .int .u64 b2])).run Try.prog w = .ok (.bool (decide (¬ (a0 = b0 ∧ a1 = b1 ∧ a2 = b2)))) w := by
  rw [run_neq_struct, eqin80_10000]
  simp
theorem R_sne80 {X : Ctx} {E : Env} {H : Heap} {o : Oper} {x y : Operand} {t' : TypeId} {a0 b0 : Int} {a1 b1 : Int} {a2 b2 : Int} (hP : X.P = Try.prog) (ho : o.op = .binOp .neq 80 x y t') (hx : ev E x = some (.agg #[.int .i64 a0, .int .i64 a1, .int .u64 a2])) (hy : ev E y = some (.agg #[.int .i64 b0, .int .i64 b1, .int .u64 b2])) : Runs X o E H (.bool (decide (¬ (a0 = b0 ∧ a1 = b1 ∧ a2 = b2)))) :=
  R_bin ho hx hy (fun w => by rw [hP]; exact run_eqGuard_agg w _ 80 x y _ _ Try.eqGuardType80) (fun w => by rw [hP]; exact sne80 a0 b0 a1 b1 a2 b2 w)
set_option linter.unusedSimpArgs false in
theorem eqin81_10000 (a0 b0 : Int) (a1 b1 : Int) (a2 b2 : Int) (w : World) : (Op.equalIn 10000 81 (.agg #[.int .i64 a0, .int .i64 a1, .int .u64 a2]) (.agg #[.int .i64 b0, .int .i64 b1, .int .u64 b2])).run Try.prog w = .ok (decide (a0 = b0 ∧ a1 = b1 ∧ a2 = b2)) w := by
  rw [run_equalIn_struct w 9999 81 _ _ (by simp [Program.fieldsOf, Try.underlying81]) Try.stoodInHeld81]
  by_cases h0 : a0 = b0 <;> by_cases h1 : a1 = b1 <;> by_cases h2 : a2 = b2 <;> simp [Program.fieldsOf, Try.underlying81, Op.eqFields, part, Try.isAgg22, Try.isAgg25, Try.sizeOf25, eqin25_9999, run_equalIn_int w 9998 22 .u64 .u64 _ _ Try.underlying22, h0, h1, h2]
theorem seq81 (a0 b0 : Int) (a1 b1 : Int) (a2 b2 : Int) (w : World) : (binOp .eql 81 (.agg #[.int .i64 a0, .int .i64 a1, .int .u64 a2]) (.agg #[.int .i64 b0, .int .i64 b1, .int .u64 b2])).run Try.prog w = .ok (.bool (decide (a0 = b0 ∧ a1 = b1 ∧ a2 = b2))) w := by
  rw [run_eql_struct, eqin81_10000]
  rfl
theorem R_seq81 {X : Ctx} {E : Env} {H : Heap} {o : Oper} {x y : Operand} {t' : TypeId} {a0 b0 : Int} {a1 b1 : Int} {a2 b2 : Int} (hP : X.P = Try.prog) (ho : o.op = .binOp .eql 81 x y t') (hx : ev E x = some (.agg #[.int .i64 a0, .int .i64 a1, .int .u64 a2])) (hy : ev E y = some (.agg #[.int .i64 b0, .int .i64 b1, .int .u64 b2])) : Runs X o E H (.bool (decide (a0 = b0 ∧ a1 = b1 ∧ a2 = b2))) :=
  R_bin ho hx hy (fun w => by rw [hP]; exact run_eqGuard_agg w _ 81 x y _ _ Try.eqGuardType81) (fun w => by rw [hP]; exact seq81 a0 b0 a1 b1 a2 b2 w)
theorem sne81 (a0 b0 : Int) (a1 b1 : Int) (a2 b2 : Int) (w : World) : (binOp .neq 81 (.agg #[.int .i64 a0, .int .i64 a1, .int .u64 a2]) (.agg #[.int .i64 b0, .int .i64 b1, .int .u64 b2])).run Try.prog w = .ok (.bool (decide (¬ (a0 = b0 ∧ a1 = b1 ∧ a2 = b2)))) w := by
  rw [run_neq_struct, eqin81_10000]
  simp
theorem R_sne81 {X : Ctx} {E : Env} {H : Heap} {o : Oper} {x y : Operand} {t' : TypeId} {a0 b0 : Int} {a1 b1 : Int} {a2 b2 : Int} (hP : X.P = Try.prog) (ho : o.op = .binOp .neq 81 x y t') (hx : ev E x = some (.agg #[.int .i64 a0, .int .i64 a1, .int .u64 a2])) (hy : ev E y = some (.agg #[.int .i64 b0, .int .i64 b1, .int .u64 b2])) : Runs X o E H (.bool (decide (¬ (a0 = b0 ∧ a1 = b1 ∧ a2 = b2)))) :=
  R_bin ho hx hy (fun w => by rw [hP]; exact run_eqGuard_agg w _ 81 x y _ _ Try.eqGuardType81) (fun w => by rw [hP]; exact sne81 a0 b0 a1 b1 a2 b2 w)
set_option linter.unusedSimpArgs false in
theorem eqin99_10000 (a0 b0 : Int) (a1 b1 : Int) (a2 b2 : Int) (w : World) : (Op.equalIn 10000 99 (.agg #[.int .i64 a0, .int .i64 a1, .int .i64 a2]) (.agg #[.int .i64 b0, .int .i64 b1, .int .i64 b2])).run Try.prog w = .ok (decide (a0 = b0 ∧ a1 = b1 ∧ a2 = b2)) w := by
  rw [run_equalIn_struct w 9999 99 _ _ (by simp [Program.fieldsOf, Try.underlying99]) Try.stoodInHeld99]
  by_cases h0 : a0 = b0 <;> by_cases h1 : a1 = b1 <;> by_cases h2 : a2 = b2 <;> simp [Program.fieldsOf, Try.underlying99, Op.eqFields, part, Try.isAgg25, Try.isAgg3, Try.sizeOf25, eqin25_9999, run_equalIn_int w 9998 3 .i64 .i64 _ _ Try.underlying3, h0, h1, h2]
theorem seq99 (a0 b0 : Int) (a1 b1 : Int) (a2 b2 : Int) (w : World) : (binOp .eql 99 (.agg #[.int .i64 a0, .int .i64 a1, .int .i64 a2]) (.agg #[.int .i64 b0, .int .i64 b1, .int .i64 b2])).run Try.prog w = .ok (.bool (decide (a0 = b0 ∧ a1 = b1 ∧ a2 = b2))) w := by
  rw [run_eql_struct, eqin99_10000]
  rfl
theorem R_seq99 {X : Ctx} {E : Env} {H : Heap} {o : Oper} {x y : Operand} {t' : TypeId} {a0 b0 : Int} {a1 b1 : Int} {a2 b2 : Int} (hP : X.P = Try.prog) (ho : o.op = .binOp .eql 99 x y t') (hx : ev E x = some (.agg #[.int .i64 a0, .int .i64 a1, .int .i64 a2])) (hy : ev E y = some (.agg #[.int .i64 b0, .int .i64 b1, .int .i64 b2])) : Runs X o E H (.bool (decide (a0 = b0 ∧ a1 = b1 ∧ a2 = b2))) :=
  R_bin ho hx hy (fun w => by rw [hP]; exact run_eqGuard_agg w _ 99 x y _ _ Try.eqGuardType99) (fun w => by rw [hP]; exact seq99 a0 b0 a1 b1 a2 b2 w)
theorem sne99 (a0 b0 : Int) (a1 b1 : Int) (a2 b2 : Int) (w : World) : (binOp .neq 99 (.agg #[.int .i64 a0, .int .i64 a1, .int .i64 a2]) (.agg #[.int .i64 b0, .int .i64 b1, .int .i64 b2])).run Try.prog w = .ok (.bool (decide (¬ (a0 = b0 ∧ a1 = b1 ∧ a2 = b2)))) w := by
  rw [run_neq_struct, eqin99_10000]
  simp
theorem R_sne99 {X : Ctx} {E : Env} {H : Heap} {o : Oper} {x y : Operand} {t' : TypeId} {a0 b0 : Int} {a1 b1 : Int} {a2 b2 : Int} (hP : X.P = Try.prog) (ho : o.op = .binOp .neq 99 x y t') (hx : ev E x = some (.agg #[.int .i64 a0, .int .i64 a1, .int .i64 a2])) (hy : ev E y = some (.agg #[.int .i64 b0, .int .i64 b1, .int .i64 b2])) : Runs X o E H (.bool (decide (¬ (a0 = b0 ∧ a1 = b1 ∧ a2 = b2)))) :=
  R_bin ho hx hy (fun w => by rw [hP]; exact run_eqGuard_agg w _ 99 x y _ _ Try.eqGuardType99) (fun w => by rw [hP]; exact sne99 a0 b0 a1 b1 a2 b2 w)
set_option linter.unusedSimpArgs false in
theorem eqin100_10000 (a0 b0 : Int) (a1 b1 : Int) (a2 b2 : Int) (w : World) : (Op.equalIn 10000 100 (.agg #[.int .i64 a0, .int .i64 a1, .int .i64 a2]) (.agg #[.int .i64 b0, .int .i64 b1, .int .i64 b2])).run Try.prog w = .ok (decide (a0 = b0 ∧ a1 = b1 ∧ a2 = b2)) w := by
  rw [run_equalIn_struct w 9999 100 _ _ (by simp [Program.fieldsOf, Try.underlying100]) Try.stoodInHeld100]
  by_cases h0 : a0 = b0 <;> by_cases h1 : a1 = b1 <;> by_cases h2 : a2 = b2 <;> simp [Program.fieldsOf, Try.underlying100, Op.eqFields, part, Try.isAgg25, Try.isAgg3, Try.sizeOf25, eqin25_9999, run_equalIn_int w 9998 3 .i64 .i64 _ _ Try.underlying3, h0, h1, h2]
theorem seq100 (a0 b0 : Int) (a1 b1 : Int) (a2 b2 : Int) (w : World) : (binOp .eql 100 (.agg #[.int .i64 a0, .int .i64 a1, .int .i64 a2]) (.agg #[.int .i64 b0, .int .i64 b1, .int .i64 b2])).run Try.prog w = .ok (.bool (decide (a0 = b0 ∧ a1 = b1 ∧ a2 = b2))) w := by
  rw [run_eql_struct, eqin100_10000]
  rfl
theorem R_seq100 {X : Ctx} {E : Env} {H : Heap} {o : Oper} {x y : Operand} {t' : TypeId} {a0 b0 : Int} {a1 b1 : Int} {a2 b2 : Int} (hP : X.P = Try.prog) (ho : o.op = .binOp .eql 100 x y t') (hx : ev E x = some (.agg #[.int .i64 a0, .int .i64 a1, .int .i64 a2])) (hy : ev E y = some (.agg #[.int .i64 b0, .int .i64 b1, .int .i64 b2])) : Runs X o E H (.bool (decide (a0 = b0 ∧ a1 = b1 ∧ a2 = b2))) :=
  R_bin ho hx hy (fun w => by rw [hP]; exact run_eqGuard_agg w _ 100 x y _ _ Try.eqGuardType100) (fun w => by rw [hP]; exact seq100 a0 b0 a1 b1 a2 b2 w)
theorem sne100 (a0 b0 : Int) (a1 b1 : Int) (a2 b2 : Int) (w : World) : (binOp .neq 100 (.agg #[.int .i64 a0, .int .i64 a1, .int .i64 a2]) (.agg #[.int .i64 b0, .int .i64 b1, .int .i64 b2])).run Try.prog w = .ok (.bool (decide (¬ (a0 = b0 ∧ a1 = b1 ∧ a2 = b2)))) w := by
  rw [run_neq_struct, eqin100_10000]
  simp
theorem R_sne100 {X : Ctx} {E : Env} {H : Heap} {o : Oper} {x y : Operand} {t' : TypeId} {a0 b0 : Int} {a1 b1 : Int} {a2 b2 : Int} (hP : X.P = Try.prog) (ho : o.op = .binOp .neq 100 x y t') (hx : ev E x = some (.agg #[.int .i64 a0, .int .i64 a1, .int .i64 a2])) (hy : ev E y = some (.agg #[.int .i64 b0, .int .i64 b1, .int .i64 b2])) : Runs X o E H (.bool (decide (¬ (a0 = b0 ∧ a1 = b1 ∧ a2 = b2)))) :=
  R_bin ho hx hy (fun w => by rw [hP]; exact run_eqGuard_agg w _ 100 x y _ _ Try.eqGuardType100) (fun w => by rw [hP]; exact sne100 a0 b0 a1 b1 a2 b2 w)
set_option linter.unusedSimpArgs false in
theorem eqin111_10000 (a0 b0 : Int) (a1 b1 : Int) (a2 b2 : Int) (w : World) : (Op.equalIn 10000 111 (.agg #[.int .u64 a0, .int .u64 a1, .int .u64 a2]) (.agg #[.int .u64 b0, .int .u64 b1, .int .u64 b2])).run Try.prog w = .ok (decide (a0 = b0 ∧ a1 = b1 ∧ a2 = b2)) w := by
  rw [run_equalIn_struct w 9999 111 _ _ (by simp [Program.fieldsOf, Try.underlying111]) Try.stoodInHeld111]
  by_cases h0 : a0 = b0 <;> by_cases h1 : a1 = b1 <;> by_cases h2 : a2 = b2 <;> simp [Program.fieldsOf, Try.underlying111, Op.eqFields, part, Try.isAgg22, run_equalIn_int w 9998 22 .u64 .u64 _ _ Try.underlying22, h0, h1, h2]
theorem seq111 (a0 b0 : Int) (a1 b1 : Int) (a2 b2 : Int) (w : World) : (binOp .eql 111 (.agg #[.int .u64 a0, .int .u64 a1, .int .u64 a2]) (.agg #[.int .u64 b0, .int .u64 b1, .int .u64 b2])).run Try.prog w = .ok (.bool (decide (a0 = b0 ∧ a1 = b1 ∧ a2 = b2))) w := by
  rw [run_eql_struct, eqin111_10000]
  rfl
theorem R_seq111 {X : Ctx} {E : Env} {H : Heap} {o : Oper} {x y : Operand} {t' : TypeId} {a0 b0 : Int} {a1 b1 : Int} {a2 b2 : Int} (hP : X.P = Try.prog) (ho : o.op = .binOp .eql 111 x y t') (hx : ev E x = some (.agg #[.int .u64 a0, .int .u64 a1, .int .u64 a2])) (hy : ev E y = some (.agg #[.int .u64 b0, .int .u64 b1, .int .u64 b2])) : Runs X o E H (.bool (decide (a0 = b0 ∧ a1 = b1 ∧ a2 = b2))) :=
  R_bin ho hx hy (fun w => by rw [hP]; exact run_eqGuard_agg w _ 111 x y _ _ Try.eqGuardType111) (fun w => by rw [hP]; exact seq111 a0 b0 a1 b1 a2 b2 w)
theorem sne111 (a0 b0 : Int) (a1 b1 : Int) (a2 b2 : Int) (w : World) : (binOp .neq 111 (.agg #[.int .u64 a0, .int .u64 a1, .int .u64 a2]) (.agg #[.int .u64 b0, .int .u64 b1, .int .u64 b2])).run Try.prog w = .ok (.bool (decide (¬ (a0 = b0 ∧ a1 = b1 ∧ a2 = b2)))) w := by
  rw [run_neq_struct, eqin111_10000]
  simp
theorem R_sne111 {X : Ctx} {E : Env} {H : Heap} {o : Oper} {x y : Operand} {t' : TypeId} {a0 b0 : Int} {a1 b1 : Int} {a2 b2 : Int} (hP : X.P = Try.prog) (ho : o.op = .binOp .neq 111 x y t') (hx : ev E x = some (.agg #[.int .u64 a0, .int .u64 a1, .int .u64 a2])) (hy : ev E y = some (.agg #[.int .u64 b0, .int .u64 b1, .int .u64 b2])) : Runs X o E H (.bool (decide (¬ (a0 = b0 ∧ a1 = b1 ∧ a2 = b2)))) :=
  R_bin ho hx hy (fun w => by rw [hP]; exact run_eqGuard_agg w _ 111 x y _ _ Try.eqGuardType111) (fun w => by rw [hP]; exact sne111 a0 b0 a1 b1 a2 b2 w)
set_option linter.unusedSimpArgs false in
theorem eqin112_10000 (a0 b0 : Int) (a1 b1 : Int) (a2 b2 : Int) (w : World) : (Op.equalIn 10000 112 (.agg #[.int .u64 a0, .int .u64 a1, .int .u64 a2]) (.agg #[.int .u64 b0, .int .u64 b1, .int .u64 b2])).run Try.prog w = .ok (decide (a0 = b0 ∧ a1 = b1 ∧ a2 = b2)) w := by
  rw [run_equalIn_struct w 9999 112 _ _ (by simp [Program.fieldsOf, Try.underlying112]) Try.stoodInHeld112]
  by_cases h0 : a0 = b0 <;> by_cases h1 : a1 = b1 <;> by_cases h2 : a2 = b2 <;> simp [Program.fieldsOf, Try.underlying112, Op.eqFields, part, Try.isAgg22, run_equalIn_int w 9998 22 .u64 .u64 _ _ Try.underlying22, h0, h1, h2]
theorem seq112 (a0 b0 : Int) (a1 b1 : Int) (a2 b2 : Int) (w : World) : (binOp .eql 112 (.agg #[.int .u64 a0, .int .u64 a1, .int .u64 a2]) (.agg #[.int .u64 b0, .int .u64 b1, .int .u64 b2])).run Try.prog w = .ok (.bool (decide (a0 = b0 ∧ a1 = b1 ∧ a2 = b2))) w := by
  rw [run_eql_struct, eqin112_10000]
  rfl
theorem R_seq112 {X : Ctx} {E : Env} {H : Heap} {o : Oper} {x y : Operand} {t' : TypeId} {a0 b0 : Int} {a1 b1 : Int} {a2 b2 : Int} (hP : X.P = Try.prog) (ho : o.op = .binOp .eql 112 x y t') (hx : ev E x = some (.agg #[.int .u64 a0, .int .u64 a1, .int .u64 a2])) (hy : ev E y = some (.agg #[.int .u64 b0, .int .u64 b1, .int .u64 b2])) : Runs X o E H (.bool (decide (a0 = b0 ∧ a1 = b1 ∧ a2 = b2))) :=
  R_bin ho hx hy (fun w => by rw [hP]; exact run_eqGuard_agg w _ 112 x y _ _ Try.eqGuardType112) (fun w => by rw [hP]; exact seq112 a0 b0 a1 b1 a2 b2 w)
theorem sne112 (a0 b0 : Int) (a1 b1 : Int) (a2 b2 : Int) (w : World) : (binOp .neq 112 (.agg #[.int .u64 a0, .int .u64 a1, .int .u64 a2]) (.agg #[.int .u64 b0, .int .u64 b1, .int .u64 b2])).run Try.prog w = .ok (.bool (decide (¬ (a0 = b0 ∧ a1 = b1 ∧ a2 = b2)))) w := by
  rw [run_neq_struct, eqin112_10000]
  simp
theorem R_sne112 {X : Ctx} {E : Env} {H : Heap} {o : Oper} {x y : Operand} {t' : TypeId} {a0 b0 : Int} {a1 b1 : Int} {a2 b2 : Int} (hP : X.P = Try.prog) (ho : o.op = .binOp .neq 112 x y t') (hx : ev E x = some (.agg #[.int .u64 a0, .int .u64 a1, .int .u64 a2])) (hy : ev E y = some (.agg #[.int .u64 b0, .int .u64 b1, .int .u64 b2])) : Runs X o E H (.bool (decide (¬ (a0 = b0 ∧ a1 = b1 ∧ a2 = b2)))) :=
  R_bin ho hx hy (fun w => by rw [hP]; exact run_eqGuard_agg w _ 112 x y _ _ Try.eqGuardType112) (fun w => by rw [hP]; exact sne112 a0 b0 a1 b1 a2 b2 w)
set_option linter.unusedSimpArgs false in
theorem eqin115_10000 (a0 b0 : Int) (a1 b1 : Int) (a2 b2 : Int) (w : World) : (Op.equalIn 10000 115 (.agg #[.int .i64 a0, .int .u64 a1, .int .u64 a2]) (.agg #[.int .i64 b0, .int .u64 b1, .int .u64 b2])).run Try.prog w = .ok (decide (a0 = b0 ∧ a1 = b1 ∧ a2 = b2)) w := by
  rw [run_equalIn_struct w 9999 115 _ _ (by simp [Program.fieldsOf, Try.underlying115]) Try.stoodInHeld115]
  by_cases h0 : a0 = b0 <;> by_cases h1 : a1 = b1 <;> by_cases h2 : a2 = b2 <;> simp [Program.fieldsOf, Try.underlying115, Op.eqFields, part, Try.isAgg22, Try.isAgg3, run_equalIn_int w 9998 22 .u64 .u64 _ _ Try.underlying22, run_equalIn_int w 9998 3 .i64 .i64 _ _ Try.underlying3, h0, h1, h2]
theorem seq115 (a0 b0 : Int) (a1 b1 : Int) (a2 b2 : Int) (w : World) : (binOp .eql 115 (.agg #[.int .i64 a0, .int .u64 a1, .int .u64 a2]) (.agg #[.int .i64 b0, .int .u64 b1, .int .u64 b2])).run Try.prog w = .ok (.bool (decide (a0 = b0 ∧ a1 = b1 ∧ a2 = b2))) w := by
  rw [run_eql_struct, eqin115_10000]
  rfl
theorem R_seq115 {X : Ctx} {E : Env} {H : Heap} {o : Oper} {x y : Operand} {t' : TypeId} {a0 b0 : Int} {a1 b1 : Int} {a2 b2 : Int} (hP : X.P = Try.prog) (ho : o.op = .binOp .eql 115 x y t') (hx : ev E x = some (.agg #[.int .i64 a0, .int .u64 a1, .int .u64 a2])) (hy : ev E y = some (.agg #[.int .i64 b0, .int .u64 b1, .int .u64 b2])) : Runs X o E H (.bool (decide (a0 = b0 ∧ a1 = b1 ∧ a2 = b2))) :=
  R_bin ho hx hy (fun w => by rw [hP]; exact run_eqGuard_agg w _ 115 x y _ _ Try.eqGuardType115) (fun w => by rw [hP]; exact seq115 a0 b0 a1 b1 a2 b2 w)
theorem sne115 (a0 b0 : Int) (a1 b1 : Int) (a2 b2 : Int) (w : World) : (binOp .neq 115 (.agg #[.int .i64 a0, .int .u64 a1, .int .u64 a2]) (.agg #[.int .i64 b0, .int .u64 b1, .int .u64 b2])).run Try.prog w = .ok (.bool (decide (¬ (a0 = b0 ∧ a1 = b1 ∧ a2 = b2)))) w := by
  rw [run_neq_struct, eqin115_10000]
  simp
theorem R_sne115 {X : Ctx} {E : Env} {H : Heap} {o : Oper} {x y : Operand} {t' : TypeId} {a0 b0 : Int} {a1 b1 : Int} {a2 b2 : Int} (hP : X.P = Try.prog) (ho : o.op = .binOp .neq 115 x y t') (hx : ev E x = some (.agg #[.int .i64 a0, .int .u64 a1, .int .u64 a2])) (hy : ev E y = some (.agg #[.int .i64 b0, .int .u64 b1, .int .u64 b2])) : Runs X o E H (.bool (decide (¬ (a0 = b0 ∧ a1 = b1 ∧ a2 = b2)))) :=
  R_bin ho hx hy (fun w => by rw [hP]; exact run_eqGuard_agg w _ 115 x y _ _ Try.eqGuardType115) (fun w => by rw [hP]; exact sne115 a0 b0 a1 b1 a2 b2 w)
set_option linter.unusedSimpArgs false in
theorem eqin116_10000 (a0 b0 : Int) (a1 b1 : Int) (a2 b2 : Int) (w : World) : (Op.equalIn 10000 116 (.agg #[.int .i64 a0, .int .u64 a1, .int .u64 a2]) (.agg #[.int .i64 b0, .int .u64 b1, .int .u64 b2])).run Try.prog w = .ok (decide (a0 = b0 ∧ a1 = b1 ∧ a2 = b2)) w := by
  rw [run_equalIn_struct w 9999 116 _ _ (by simp [Program.fieldsOf, Try.underlying116]) Try.stoodInHeld116]
  by_cases h0 : a0 = b0 <;> by_cases h1 : a1 = b1 <;> by_cases h2 : a2 = b2 <;> simp [Program.fieldsOf, Try.underlying116, Op.eqFields, part, Try.isAgg22, Try.isAgg3, run_equalIn_int w 9998 22 .u64 .u64 _ _ Try.underlying22, run_equalIn_int w 9998 3 .i64 .i64 _ _ Try.underlying3, h0, h1, h2]
theorem seq116 (a0 b0 : Int) (a1 b1 : Int) (a2 b2 : Int) (w : World) : (binOp .eql 116 (.agg #[.int .i64 a0, .int .u64 a1, .int .u64 a2]) (.agg #[.int .i64 b0, .int .u64 b1, .int .u64 b2])).run Try.prog w = .ok (.bool (decide (a0 = b0 ∧ a1 = b1 ∧ a2 = b2))) w := by
  rw [run_eql_struct, eqin116_10000]
  rfl
theorem R_seq116 {X : Ctx} {E : Env} {H : Heap} {o : Oper} {x y : Operand} {t' : TypeId} {a0 b0 : Int} {a1 b1 : Int} {a2 b2 : Int} (hP : X.P = Try.prog) (ho : o.op = .binOp .eql 116 x y t') (hx : ev E x = some (.agg #[.int .i64 a0, .int .u64 a1, .int .u64 a2])) (hy : ev E y = some (.agg #[.int .i64 b0, .int .u64 b1, .int .u64 b2])) : Runs X o E H (.bool (decide (a0 = b0 ∧ a1 = b1 ∧ a2 = b2))) :=
  R_bin ho hx hy (fun w => by rw [hP]; exact run_eqGuard_agg w _ 116 x y _ _ Try.eqGuardType116) (fun w => by rw [hP]; exact seq116 a0 b0 a1 b1 a2 b2 w)
theorem sne116 (a0 b0 : Int) (a1 b1 : Int) (a2 b2 : Int) (w : World) : (binOp .neq 116 (.agg #[.int .i64 a0, .int .u64 a1, .int .u64 a2]) (.agg #[.int .i64 b0, .int .u64 b1, .int .u64 b2])).run Try.prog w = .ok (.bool (decide (¬ (a0 = b0 ∧ a1 = b1 ∧ a2 = b2)))) w := by
  rw [run_neq_struct, eqin116_10000]
  simp
theorem R_sne116 {X : Ctx} {E : Env} {H : Heap} {o : Oper} {x y : Operand} {t' : TypeId} {a0 b0 : Int} {a1 b1 : Int} {a2 b2 : Int} (hP : X.P = Try.prog) (ho : o.op = .binOp .neq 116 x y t') (hx : ev E x = some (.agg #[.int .i64 a0, .int .u64 a1, .int .u64 a2])) (hy : ev E y = some (.agg #[.int .i64 b0, .int .u64 b1, .int .u64 b2])) : Runs X o E H (.bool (decide (¬ (a0 = b0 ∧ a1 = b1 ∧ a2 = b2)))) :=
  R_bin ho hx hy (fun w => by rw [hP]; exact run_eqGuard_agg w _ 116 x y _ _ Try.eqGuardType116) (fun w => by rw [hP]; exact sne116 a0 b0 a1 b1 a2 b2 w)
set_option linter.unusedSimpArgs false in
theorem eqin119_10000 (a0 b0 : Int) (a1 b1 : Int) (w : World) : (Op.equalIn 10000 119 (.agg #[.int .i64 a0, .int .u64 a1]) (.agg #[.int .i64 b0, .int .u64 b1])).run Try.prog w = .ok (decide (a0 = b0 ∧ a1 = b1)) w := by
  rw [run_equalIn_struct w 9999 119 _ _ (by simp [Program.fieldsOf, Try.underlying119]) Try.stoodInHeld119]
  by_cases h0 : a0 = b0 <;> by_cases h1 : a1 = b1 <;> simp [Program.fieldsOf, Try.underlying119, Op.eqFields, part, Try.isAgg22, Try.isAgg49, run_equalIn_int w 9998 22 .u64 .u64 _ _ Try.underlying22, run_equalIn_int w 9998 49 .i64 .i64 _ _ Try.underlying49, h0, h1]
theorem seq119 (a0 b0 : Int) (a1 b1 : Int) (w : World) : (binOp .eql 119 (.agg #[.int .i64 a0, .int .u64 a1]) (.agg #[.int .i64 b0, .int .u64 b1])).run Try.prog w = .ok (.bool (decide (a0 = b0 ∧ a1 = b1))) w := by
  rw [run_eql_struct, eqin119_10000]
  rfl
theorem R_seq119 {X : Ctx} {E : Env} {H : Heap} {o : Oper} {x y : Operand} {t' : TypeId} {a0 b0 : Int} {a1 b1 : Int} (hP : X.P = Try.prog) (ho : o.op = .binOp .eql 119 x y t') (hx : ev E x = some (.agg #[.int .i64 a0, .int .u64 a1])) (hy : ev E y = some (.agg #[.int .i64 b0, .int .u64 b1])) : Runs X o E H (.bool (decide (a0 = b0 ∧ a1 = b1))) :=
  R_bin ho hx hy (fun w => by rw [hP]; exact run_eqGuard_agg w _ 119 x y _ _ Try.eqGuardType119) (fun w => by rw [hP]; exact seq119 a0 b0 a1 b1 w)
theorem sne119 (a0 b0 : Int) (a1 b1 : Int) (w : World) : (binOp .neq 119 (.agg #[.int .i64 a0, .int .u64 a1]) (.agg #[.int .i64 b0, .int .u64 b1])).run Try.prog w = .ok (.bool (decide (¬ (a0 = b0 ∧ a1 = b1)))) w := by
  rw [run_neq_struct, eqin119_10000]
  simp
theorem R_sne119 {X : Ctx} {E : Env} {H : Heap} {o : Oper} {x y : Operand} {t' : TypeId} {a0 b0 : Int} {a1 b1 : Int} (hP : X.P = Try.prog) (ho : o.op = .binOp .neq 119 x y t') (hx : ev E x = some (.agg #[.int .i64 a0, .int .u64 a1])) (hy : ev E y = some (.agg #[.int .i64 b0, .int .u64 b1])) : Runs X o E H (.bool (decide (¬ (a0 = b0 ∧ a1 = b1)))) :=
  R_bin ho hx hy (fun w => by rw [hP]; exact run_eqGuard_agg w _ 119 x y _ _ Try.eqGuardType119) (fun w => by rw [hP]; exact sne119 a0 b0 a1 b1 w)
set_option linter.unusedSimpArgs false in
theorem eqin120_10000 (a0 b0 : Int) (a1 b1 : Int) (w : World) : (Op.equalIn 10000 120 (.agg #[.int .i64 a0, .int .u64 a1]) (.agg #[.int .i64 b0, .int .u64 b1])).run Try.prog w = .ok (decide (a0 = b0 ∧ a1 = b1)) w := by
  rw [run_equalIn_struct w 9999 120 _ _ (by simp [Program.fieldsOf, Try.underlying120]) Try.stoodInHeld120]
  by_cases h0 : a0 = b0 <;> by_cases h1 : a1 = b1 <;> simp [Program.fieldsOf, Try.underlying120, Op.eqFields, part, Try.isAgg22, Try.isAgg49, run_equalIn_int w 9998 22 .u64 .u64 _ _ Try.underlying22, run_equalIn_int w 9998 49 .i64 .i64 _ _ Try.underlying49, h0, h1]
theorem seq120 (a0 b0 : Int) (a1 b1 : Int) (w : World) : (binOp .eql 120 (.agg #[.int .i64 a0, .int .u64 a1]) (.agg #[.int .i64 b0, .int .u64 b1])).run Try.prog w = .ok (.bool (decide (a0 = b0 ∧ a1 = b1))) w := by
  rw [run_eql_struct, eqin120_10000]
  rfl
theorem R_seq120 {X : Ctx} {E : Env} {H : Heap} {o : Oper} {x y : Operand} {t' : TypeId} {a0 b0 : Int} {a1 b1 : Int} (hP : X.P = Try.prog) (ho : o.op = .binOp .eql 120 x y t') (hx : ev E x = some (.agg #[.int .i64 a0, .int .u64 a1])) (hy : ev E y = some (.agg #[.int .i64 b0, .int .u64 b1])) : Runs X o E H (.bool (decide (a0 = b0 ∧ a1 = b1))) :=
  R_bin ho hx hy (fun w => by rw [hP]; exact run_eqGuard_agg w _ 120 x y _ _ Try.eqGuardType120) (fun w => by rw [hP]; exact seq120 a0 b0 a1 b1 w)
theorem sne120 (a0 b0 : Int) (a1 b1 : Int) (w : World) : (binOp .neq 120 (.agg #[.int .i64 a0, .int .u64 a1]) (.agg #[.int .i64 b0, .int .u64 b1])).run Try.prog w = .ok (.bool (decide (¬ (a0 = b0 ∧ a1 = b1)))) w := by
  rw [run_neq_struct, eqin120_10000]
  simp
theorem R_sne120 {X : Ctx} {E : Env} {H : Heap} {o : Oper} {x y : Operand} {t' : TypeId} {a0 b0 : Int} {a1 b1 : Int} (hP : X.P = Try.prog) (ho : o.op = .binOp .neq 120 x y t') (hx : ev E x = some (.agg #[.int .i64 a0, .int .u64 a1])) (hy : ev E y = some (.agg #[.int .i64 b0, .int .u64 b1])) : Runs X o E H (.bool (decide (¬ (a0 = b0 ∧ a1 = b1)))) :=
  R_bin ho hx hy (fun w => by rw [hP]; exact run_eqGuard_agg w _ 120 x y _ _ Try.eqGuardType120) (fun w => by rw [hP]; exact sne120 a0 b0 a1 b1 w)
set_option linter.unusedSimpArgs false in
theorem eqin125_10000 (a0 b0 : Int) (a1 b1 : Int) (w : World) : (Op.equalIn 10000 125 (.agg #[.int .i64 a0, .int .i64 a1]) (.agg #[.int .i64 b0, .int .i64 b1])).run Try.prog w = .ok (decide (a0 = b0 ∧ a1 = b1)) w := by
  rw [run_equalIn_struct w 9999 125 _ _ (by simp [Program.fieldsOf, Try.underlying125]) Try.stoodInHeld125]
  by_cases h0 : a0 = b0 <;> by_cases h1 : a1 = b1 <;> simp [Program.fieldsOf, Try.underlying125, Op.eqFields, part, Try.isAgg49, run_equalIn_int w 9998 49 .i64 .i64 _ _ Try.underlying49, h0, h1]
theorem seq125 (a0 b0 : Int) (a1 b1 : Int) (w : World) : (binOp .eql 125 (.agg #[.int .i64 a0, .int .i64 a1]) (.agg #[.int .i64 b0, .int .i64 b1])).run Try.prog w = .ok (.bool (decide (a0 = b0 ∧ a1 = b1))) w := by
  rw [run_eql_struct, eqin125_10000]
  rfl
theorem R_seq125 {X : Ctx} {E : Env} {H : Heap} {o : Oper} {x y : Operand} {t' : TypeId} {a0 b0 : Int} {a1 b1 : Int} (hP : X.P = Try.prog) (ho : o.op = .binOp .eql 125 x y t') (hx : ev E x = some (.agg #[.int .i64 a0, .int .i64 a1])) (hy : ev E y = some (.agg #[.int .i64 b0, .int .i64 b1])) : Runs X o E H (.bool (decide (a0 = b0 ∧ a1 = b1))) :=
  R_bin ho hx hy (fun w => by rw [hP]; exact run_eqGuard_agg w _ 125 x y _ _ Try.eqGuardType125) (fun w => by rw [hP]; exact seq125 a0 b0 a1 b1 w)
theorem sne125 (a0 b0 : Int) (a1 b1 : Int) (w : World) : (binOp .neq 125 (.agg #[.int .i64 a0, .int .i64 a1]) (.agg #[.int .i64 b0, .int .i64 b1])).run Try.prog w = .ok (.bool (decide (¬ (a0 = b0 ∧ a1 = b1)))) w := by
  rw [run_neq_struct, eqin125_10000]
  simp
theorem R_sne125 {X : Ctx} {E : Env} {H : Heap} {o : Oper} {x y : Operand} {t' : TypeId} {a0 b0 : Int} {a1 b1 : Int} (hP : X.P = Try.prog) (ho : o.op = .binOp .neq 125 x y t') (hx : ev E x = some (.agg #[.int .i64 a0, .int .i64 a1])) (hy : ev E y = some (.agg #[.int .i64 b0, .int .i64 b1])) : Runs X o E H (.bool (decide (¬ (a0 = b0 ∧ a1 = b1)))) :=
  R_bin ho hx hy (fun w => by rw [hP]; exact run_eqGuard_agg w _ 125 x y _ _ Try.eqGuardType125) (fun w => by rw [hP]; exact sne125 a0 b0 a1 b1 w)
set_option linter.unusedSimpArgs false in
theorem eqin126_10000 (a0 b0 : Int) (a1 b1 : Int) (w : World) : (Op.equalIn 10000 126 (.agg #[.int .i64 a0, .int .i64 a1]) (.agg #[.int .i64 b0, .int .i64 b1])).run Try.prog w = .ok (decide (a0 = b0 ∧ a1 = b1)) w := by
  rw [run_equalIn_struct w 9999 126 _ _ (by simp [Program.fieldsOf, Try.underlying126]) Try.stoodInHeld126]
  by_cases h0 : a0 = b0 <;> by_cases h1 : a1 = b1 <;> simp [Program.fieldsOf, Try.underlying126, Op.eqFields, part, Try.isAgg49, run_equalIn_int w 9998 49 .i64 .i64 _ _ Try.underlying49, h0, h1]
theorem seq126 (a0 b0 : Int) (a1 b1 : Int) (w : World) : (binOp .eql 126 (.agg #[.int .i64 a0, .int .i64 a1]) (.agg #[.int .i64 b0, .int .i64 b1])).run Try.prog w = .ok (.bool (decide (a0 = b0 ∧ a1 = b1))) w := by
  rw [run_eql_struct, eqin126_10000]
  rfl
theorem R_seq126 {X : Ctx} {E : Env} {H : Heap} {o : Oper} {x y : Operand} {t' : TypeId} {a0 b0 : Int} {a1 b1 : Int} (hP : X.P = Try.prog) (ho : o.op = .binOp .eql 126 x y t') (hx : ev E x = some (.agg #[.int .i64 a0, .int .i64 a1])) (hy : ev E y = some (.agg #[.int .i64 b0, .int .i64 b1])) : Runs X o E H (.bool (decide (a0 = b0 ∧ a1 = b1))) :=
  R_bin ho hx hy (fun w => by rw [hP]; exact run_eqGuard_agg w _ 126 x y _ _ Try.eqGuardType126) (fun w => by rw [hP]; exact seq126 a0 b0 a1 b1 w)
theorem sne126 (a0 b0 : Int) (a1 b1 : Int) (w : World) : (binOp .neq 126 (.agg #[.int .i64 a0, .int .i64 a1]) (.agg #[.int .i64 b0, .int .i64 b1])).run Try.prog w = .ok (.bool (decide (¬ (a0 = b0 ∧ a1 = b1)))) w := by
  rw [run_neq_struct, eqin126_10000]
  simp
theorem R_sne126 {X : Ctx} {E : Env} {H : Heap} {o : Oper} {x y : Operand} {t' : TypeId} {a0 b0 : Int} {a1 b1 : Int} (hP : X.P = Try.prog) (ho : o.op = .binOp .neq 126 x y t') (hx : ev E x = some (.agg #[.int .i64 a0, .int .i64 a1])) (hy : ev E y = some (.agg #[.int .i64 b0, .int .i64 b1])) : Runs X o E H (.bool (decide (¬ (a0 = b0 ∧ a1 = b1)))) :=
  R_bin ho hx hy (fun w => by rw [hP]; exact run_eqGuard_agg w _ 126 x y _ _ Try.eqGuardType126) (fun w => by rw [hP]; exact sne126 a0 b0 a1 b1 w)
theorem inf32 : Try.prog.info? 3 = some Try.t3 := by kernel_rfl
theorem si32 : SI Try.prog 32 3 1 8 [.int .i64 0] := ⟨Try.underlying32, Try.t3, _, inf32, rfl, rfl, rfl, rfl, rfl, by decide⟩
theorem inf46 : Try.prog.info? 48 = some Try.t48 := by kernel_rfl
theorem si46 : SI Try.prog 46 48 4 32 [.int .i64 0, .int .i64 0, .int .i64 0, .int .i64 0] := ⟨Try.underlying46, Try.t48, _, inf46, rfl, rfl, rfl, rfl, rfl, by decide⟩
theorem inf55 : Try.prog.info? 100 = some Try.t100 := by kernel_rfl
theorem si55 : SI Try.prog 55 100 3 24 [.int .i64 0, .int .i64 0, .int .i64 0] := ⟨Try.underlying55, Try.t100, _, inf55, rfl, rfl, rfl, rfl, rfl, by decide⟩
theorem inf66 : Try.prog.info? 81 = some Try.t81 := by kernel_rfl
theorem si66 : SI Try.prog 66 81 3 24 [.int .i64 0, .int .i64 0, .int .u64 0] := ⟨Try.underlying66, Try.t81, _, inf66, rfl, rfl, rfl, rfl, rfl, by decide⟩
theorem inf70 : Try.prog.info? 28 = some Try.t28 := by kernel_rfl
theorem si70 : SI Try.prog 70 28 1 8 [.pointer none] := ⟨Try.underlying70, Try.t28, _, inf70, rfl, rfl, rfl, rfl, rfl, by decide⟩
theorem inf105 : Try.prog.info? 120 = some Try.t120 := by kernel_rfl
theorem si105 : SI Try.prog 105 120 2 16 [.int .i64 0, .int .u64 0] := ⟨Try.underlying105, Try.t120, _, inf105, rfl, rfl, rfl, rfl, rfl, by decide⟩
theorem zv1 : Zv Try.prog 1 [.nilFunc] := ⟨_, rfl, Try.zeroValue1⟩
theorem zv2 : Zv Try.prog 2 [.int .i64 0] := ⟨_, rfl, Try.zeroValue2⟩
theorem zv3 : Zv Try.prog 3 [.int .i64 0] := ⟨_, rfl, Try.zeroValue3⟩
theorem zv4 : Zv Try.prog 4 [.bool false] := ⟨_, rfl, Try.zeroValue4⟩
theorem zv5 : Zv Try.prog 5 [.int .u8 0] := ⟨_, rfl, Try.zeroValue5⟩
theorem zv7 : Zv Try.prog 7 [.int .i64 0, .int .i64 0, .bool false, .int .u8 0] := ⟨_, rfl, Try.zeroValue7⟩
theorem zv9 : Zv Try.prog 9 [.string ByteArray.empty] := ⟨_, rfl, Try.zeroValue9⟩
theorem zv12 : Zv Try.prog 12 [.int .u64 0] := ⟨_, rfl, Try.zeroValue12⟩
theorem zv13 : Zv Try.prog 13 [.string ByteArray.empty, .int .u64 0] := ⟨_, rfl, Try.zeroValue13⟩
theorem zv18 : Zv Try.prog 18 [.pointer none] := ⟨_, rfl, Try.zeroValue18⟩
theorem zv21 : Zv Try.prog 21 [.int .i32 0] := ⟨_, rfl, Try.zeroValue21⟩
theorem zv22 : Zv Try.prog 22 [.int .u64 0] := ⟨_, rfl, Try.zeroValue22⟩
theorem zv23 : Zv Try.prog 23 [.int .i64 0] := ⟨_, rfl, Try.zeroValue23⟩
theorem zv24 : Zv Try.prog 24 [.int .i64 0, .int .i64 0] := ⟨_, rfl, Try.zeroValue24⟩
theorem zv25 : Zv Try.prog 25 [.int .i64 0, .int .i64 0] := ⟨_, rfl, Try.zeroValue25⟩
theorem zv26 : Zv Try.prog 26 [.nilFunc] := ⟨_, rfl, Try.zeroValue26⟩
theorem zv27 : Zv Try.prog 27 [.nilFunc] := ⟨_, rfl, Try.zeroValue27⟩
theorem zv28 : Zv Try.prog 28 [.pointer none] := ⟨_, rfl, Try.zeroValue28⟩
theorem zv29 : Zv Try.prog 29 [.int .i64 0] := ⟨_, rfl, Try.zeroValue29⟩
theorem zv31 : Zv Try.prog 31 [.nilFunc] := ⟨_, rfl, Try.zeroValue31⟩
theorem zv32 : Zv Try.prog 32 [.slice none 0 0] := ⟨_, rfl, Try.zeroValue32⟩
theorem zv33 : Zv Try.prog 33 [.int .u64 0] := ⟨_, rfl, Try.zeroValue33⟩
theorem zv34 : Zv Try.prog 34 [.nilFunc] := ⟨_, rfl, Try.zeroValue34⟩
theorem zv35 : Zv Try.prog 35 [.nilFunc] := ⟨_, rfl, Try.zeroValue35⟩
theorem zv37 : Zv Try.prog 37 [.nilFunc] := ⟨_, rfl, Try.zeroValue37⟩
theorem zv38 : Zv Try.prog 38 [.nilFunc] := ⟨_, rfl, Try.zeroValue38⟩
theorem zv39 : Zv Try.prog 39 [.nilFunc] := ⟨_, rfl, Try.zeroValue39⟩
theorem zv41 : Zv Try.prog 41 [.nilFunc] := ⟨_, rfl, Try.zeroValue41⟩
theorem zv42 : Zv Try.prog 42 [.nilFunc] := ⟨_, rfl, Try.zeroValue42⟩
theorem zv44 : Zv Try.prog 44 [.nilFunc] := ⟨_, rfl, Try.zeroValue44⟩
theorem zv45 : Zv Try.prog 45 [.nilFunc] := ⟨_, rfl, Try.zeroValue45⟩
theorem zv46 : Zv Try.prog 46 [.slice none 0 0] := ⟨_, rfl, Try.zeroValue46⟩
theorem zv47 : Zv Try.prog 47 [.int .i64 0, .int .i64 0, .int .i64 0, .int .i64 0] := ⟨_, rfl, Try.zeroValue47⟩
theorem zv48 : Zv Try.prog 48 [.int .i64 0, .int .i64 0, .int .i64 0, .int .i64 0] := ⟨_, rfl, Try.zeroValue48⟩
theorem zv49 : Zv Try.prog 49 [.int .i64 0] := ⟨_, rfl, Try.zeroValue49⟩
theorem zv51 : Zv Try.prog 51 [.nilFunc] := ⟨_, rfl, Try.zeroValue51⟩
theorem zv52 : Zv Try.prog 52 [.nilFunc] := ⟨_, rfl, Try.zeroValue52⟩
theorem zv53 : Zv Try.prog 53 [.slice none 0 0, .slice none 0 0] := ⟨_, rfl, Try.zeroValue53⟩
theorem zv54 : Zv Try.prog 54 [.slice none 0 0, .slice none 0 0] := ⟨_, rfl, Try.zeroValue54⟩
theorem zv55 : Zv Try.prog 55 [.slice none 0 0] := ⟨_, rfl, Try.zeroValue55⟩
theorem zv56 : Zv Try.prog 56 [.slice none 0 0, .slice none 0 0, .slice none 0 0] := ⟨_, rfl, Try.zeroValue56⟩
theorem zv57 : Zv Try.prog 57 [.slice none 0 0, .slice none 0 0, .slice none 0 0] := ⟨_, rfl, Try.zeroValue57⟩
theorem zv59 : Zv Try.prog 59 [.nilFunc] := ⟨_, rfl, Try.zeroValue59⟩
theorem zv61 : Zv Try.prog 61 [.nilFunc] := ⟨_, rfl, Try.zeroValue61⟩
theorem zv62 : Zv Try.prog 62 [.nilFunc] := ⟨_, rfl, Try.zeroValue62⟩
theorem zv63 : Zv Try.prog 63 [.nilFunc] := ⟨_, rfl, Try.zeroValue63⟩
theorem zv64 : Zv Try.prog 64 [.nilFunc] := ⟨_, rfl, Try.zeroValue64⟩
theorem zv65 : Zv Try.prog 65 [.pointer none] := ⟨_, rfl, Try.zeroValue65⟩
theorem zv66 : Zv Try.prog 66 [.slice none 0 0] := ⟨_, rfl, Try.zeroValue66⟩
theorem zv67 : Zv Try.prog 67 [.map none] := ⟨_, rfl, Try.zeroValue67⟩
theorem zv68 : Zv Try.prog 68 [.pointer none, .slice none 0 0, .map none] := ⟨_, rfl, Try.zeroValue68⟩
theorem zv69 : Zv Try.prog 69 [.pointer none, .slice none 0 0, .map none] := ⟨_, rfl, Try.zeroValue69⟩
theorem zv70 : Zv Try.prog 70 [.slice none 0 0] := ⟨_, rfl, Try.zeroValue70⟩
theorem zv71 : Zv Try.prog 71 [.nilFunc] := ⟨_, rfl, Try.zeroValue71⟩
theorem zv72 : Zv Try.prog 72 [.nilFunc] := ⟨_, rfl, Try.zeroValue72⟩
theorem zv73 : Zv Try.prog 73 [.nilFunc] := ⟨_, rfl, Try.zeroValue73⟩
theorem zv75 : Zv Try.prog 75 [.nilFunc] := ⟨_, rfl, Try.zeroValue75⟩
theorem zv76 : Zv Try.prog 76 [.pointer none] := ⟨_, rfl, Try.zeroValue76⟩
theorem zv77 : Zv Try.prog 77 [.nilFunc] := ⟨_, rfl, Try.zeroValue77⟩
theorem zv79 : Zv Try.prog 79 [.nilFunc] := ⟨_, rfl, Try.zeroValue79⟩
theorem zv80 : Zv Try.prog 80 [.int .i64 0, .int .i64 0, .int .u64 0] := ⟨_, rfl, Try.zeroValue80⟩
theorem zv81 : Zv Try.prog 81 [.int .i64 0, .int .i64 0, .int .u64 0] := ⟨_, rfl, Try.zeroValue81⟩
theorem zv82 : Zv Try.prog 82 [.nilFunc] := ⟨_, rfl, Try.zeroValue82⟩
theorem zv83 : Zv Try.prog 83 [.nilFunc] := ⟨_, rfl, Try.zeroValue83⟩
theorem zv84 : Zv Try.prog 84 [.nilFunc] := ⟨_, rfl, Try.zeroValue84⟩
theorem zv85 : Zv Try.prog 85 [.nilFunc] := ⟨_, rfl, Try.zeroValue85⟩
theorem zv87 : Zv Try.prog 87 [.nilFunc] := ⟨_, rfl, Try.zeroValue87⟩
theorem zv88 : Zv Try.prog 88 [.nilFunc] := ⟨_, rfl, Try.zeroValue88⟩
theorem zv90 : Zv Try.prog 90 [.nilFunc] := ⟨_, rfl, Try.zeroValue90⟩
theorem zv92 : Zv Try.prog 92 [.nilFunc] := ⟨_, rfl, Try.zeroValue92⟩
theorem zv94 : Zv Try.prog 94 [.nilFunc] := ⟨_, rfl, Try.zeroValue94⟩
theorem zv96 : Zv Try.prog 96 [.nilFunc] := ⟨_, rfl, Try.zeroValue96⟩
theorem zv98 : Zv Try.prog 98 [.nilFunc] := ⟨_, rfl, Try.zeroValue98⟩
theorem zv99 : Zv Try.prog 99 [.int .i64 0, .int .i64 0, .int .i64 0] := ⟨_, rfl, Try.zeroValue99⟩
theorem zv100 : Zv Try.prog 100 [.int .i64 0, .int .i64 0, .int .i64 0] := ⟨_, rfl, Try.zeroValue100⟩
theorem zv102 : Zv Try.prog 102 [.nilFunc] := ⟨_, rfl, Try.zeroValue102⟩
theorem zv103 : Zv Try.prog 103 [.nilFunc] := ⟨_, rfl, Try.zeroValue103⟩
theorem zv104 : Zv Try.prog 104 [.nilFunc] := ⟨_, rfl, Try.zeroValue104⟩
theorem zv105 : Zv Try.prog 105 [.slice none 0 0] := ⟨_, rfl, Try.zeroValue105⟩
theorem zv106 : Zv Try.prog 106 [.slice none 0 0, .pointer none] := ⟨_, rfl, Try.zeroValue106⟩
theorem zv107 : Zv Try.prog 107 [.slice none 0 0, .pointer none] := ⟨_, rfl, Try.zeroValue107⟩
theorem zv108 : Zv Try.prog 108 [.nilFunc] := ⟨_, rfl, Try.zeroValue108⟩
theorem zv109 : Zv Try.prog 109 [.int .i64 0] := ⟨_, rfl, Try.zeroValue109⟩
theorem zv110 : Zv Try.prog 110 [.map none] := ⟨_, rfl, Try.zeroValue110⟩
theorem zv111 : Zv Try.prog 111 [.int .u64 0, .int .u64 0, .int .u64 0] := ⟨_, rfl, Try.zeroValue111⟩
theorem zv112 : Zv Try.prog 112 [.int .u64 0, .int .u64 0, .int .u64 0] := ⟨_, rfl, Try.zeroValue112⟩
theorem zv113 : Zv Try.prog 113 [.int .u64 0, .int .u64 0, .int .u64 0, .map none] := ⟨_, rfl, Try.zeroValue113⟩
theorem zv114 : Zv Try.prog 114 [.int .u64 0, .int .u64 0, .int .u64 0, .map none] := ⟨_, rfl, Try.zeroValue114⟩
theorem zv115 : Zv Try.prog 115 [.int .i64 0, .int .u64 0, .int .u64 0] := ⟨_, rfl, Try.zeroValue115⟩
theorem zv116 : Zv Try.prog 116 [.int .i64 0, .int .u64 0, .int .u64 0] := ⟨_, rfl, Try.zeroValue116⟩
theorem zv117 : Zv Try.prog 117 [.nilFunc] := ⟨_, rfl, Try.zeroValue117⟩
theorem zv118 : Zv Try.prog 118 [.nilFunc] := ⟨_, rfl, Try.zeroValue118⟩
theorem zv119 : Zv Try.prog 119 [.int .i64 0, .int .u64 0] := ⟨_, rfl, Try.zeroValue119⟩
theorem zv120 : Zv Try.prog 120 [.int .i64 0, .int .u64 0] := ⟨_, rfl, Try.zeroValue120⟩
theorem zv121 : Zv Try.prog 121 [.nilFunc] := ⟨_, rfl, Try.zeroValue121⟩
theorem zv122 : Zv Try.prog 122 [.nilFunc] := ⟨_, rfl, Try.zeroValue122⟩
theorem zv123 : Zv Try.prog 123 [.nilFunc] := ⟨_, rfl, Try.zeroValue123⟩
theorem zv124 : Zv Try.prog 124 [.pointer none] := ⟨_, rfl, Try.zeroValue124⟩
theorem zv125 : Zv Try.prog 125 [.int .i64 0, .int .i64 0] := ⟨_, rfl, Try.zeroValue125⟩
theorem zv126 : Zv Try.prog 126 [.int .i64 0, .int .i64 0] := ⟨_, rfl, Try.zeroValue126⟩
theorem zv127 : Zv Try.prog 127 [.nilFunc] := ⟨_, rfl, Try.zeroValue127⟩
theorem zv129 : Zv Try.prog 129 [.nilFunc] := ⟨_, rfl, Try.zeroValue129⟩
theorem zv130 : Zv Try.prog 130 [.nilFunc] := ⟨_, rfl, Try.zeroValue130⟩
theorem zv131 : Zv Try.prog 131 [.int .i64 0, .int .i64 0, .int .i64 0, .int .i64 0, .int .i64 0, .int .i64 0, .int .i64 0, .int .i64 0, .int .i64 0, .int .i64 0] := ⟨_, rfl, Try.zeroValue131⟩
theorem zv132 : Zv Try.prog 132 [.nilFunc] := ⟨_, rfl, Try.zeroValue132⟩
theorem zv133 : Zv Try.prog 133 [.nilFunc] := ⟨_, rfl, Try.zeroValue133⟩
theorem zv134 : Zv Try.prog 134 [.pointer none, .pointer none, .pointer none, .string ByteArray.empty] := ⟨_, rfl, Try.zeroValue134⟩
theorem zv137 : Zv Try.prog 137 [] := ⟨_, rfl, Try.zeroValue137⟩
theorem zv139 : Zv Try.prog 139 [.int .u32 0] := ⟨_, rfl, Try.zeroValue139⟩
theorem zv143 : Zv Try.prog 143 [.pointer none] := ⟨_, rfl, Try.zeroValue143⟩
theorem zv146 : Zv Try.prog 146 [.int .u64 0, .int .u64 0, .int .u32 0, .int .u8 0, .int .u8 0, .int .u8 0, .int .u8 0, .nilFunc, .pointer none, .int .i32 0, .int .i32 0] := ⟨_, rfl, Try.zeroValue146⟩
theorem zv148 : Zv Try.prog 148 [.nilFunc] := ⟨_, rfl, Try.zeroValue148⟩
end Go.Proofs.Ytljmeemgjbcgeaa
