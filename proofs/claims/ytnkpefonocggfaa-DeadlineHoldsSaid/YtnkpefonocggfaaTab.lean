/-
  What the tables of types say.
-/
import Derived.Test.YtnkpefonocggfaaRows
import Derived.Test.YtnkpefonocggfaaSLArr
namespace Go.Proofs.Ytnkpefonocggfaa
theorem followsMixed : Try.prog.follows .mixedOrders = true := by kernel_rfl
theorem ag7 : Ag Try.prog 7 4 := fun w => ⟨Try.isAgg7 w, Try.sizeOf7 w⟩
theorem ag13 : Ag Try.prog 13 2 := fun w => ⟨Try.isAgg13 w, Try.sizeOf13 w⟩
theorem ag18 : Ag Try.prog 18 1 := fun w => ⟨Try.isAgg18 w, Try.sizeOf18 w⟩
theorem ag23 : Ag Try.prog 23 2 := fun w => ⟨Try.isAgg23 w, Try.sizeOf23 w⟩
theorem ag24 : Ag Try.prog 24 2 := fun w => ⟨Try.isAgg24 w, Try.sizeOf24 w⟩
theorem ag39 : Ag Try.prog 39 3 := fun w => ⟨Try.isAgg39 w, Try.sizeOf39 w⟩
theorem ag40 : Ag Try.prog 40 3 := fun w => ⟨Try.isAgg40 w, Try.sizeOf40 w⟩
theorem ag43 : Ag Try.prog 43 2 := fun w => ⟨Try.isAgg43 w, Try.sizeOf43 w⟩
theorem ag44 : Ag Try.prog 44 2 := fun w => ⟨Try.isAgg44 w, Try.sizeOf44 w⟩
theorem ag60 : Ag Try.prog 60 4 := fun w => ⟨Try.isAgg60 w, Try.sizeOf60 w⟩
theorem ag61 : Ag Try.prog 61 4 := fun w => ⟨Try.isAgg61 w, Try.sizeOf61 w⟩
theorem ag67 : Ag Try.prog 67 2 := fun w => ⟨Try.isAgg67 w, Try.sizeOf67 w⟩
theorem ag68 : Ag Try.prog 68 2 := fun w => ⟨Try.isAgg68 w, Try.sizeOf68 w⟩
theorem ag69 : Ag Try.prog 69 4 := fun w => ⟨Try.isAgg69 w, Try.sizeOf69 w⟩
theorem ag70 : Ag Try.prog 70 4 := fun w => ⟨Try.isAgg70 w, Try.sizeOf70 w⟩
theorem ag71 : Ag Try.prog 71 8 := fun w => ⟨Try.isAgg71 w, Try.sizeOf71 w⟩
theorem ag72 : Ag Try.prog 72 1024 := fun w => ⟨Try.isAgg72 w, Try.sizeOf72 w⟩
theorem ag73 : Ag Try.prog 73 1026 := fun w => ⟨Try.isAgg73 w, Try.sizeOf73 w⟩
theorem ag74 : Ag Try.prog 74 1026 := fun w => ⟨Try.isAgg74 w, Try.sizeOf74 w⟩
theorem ag93 : Ag Try.prog 93 4 := fun w => ⟨Try.isAgg93 w, Try.sizeOf93 w⟩
theorem ag94 : Ag Try.prog 94 4 := fun w => ⟨Try.isAgg94 w, Try.sizeOf94 w⟩
theorem ag95 : Ag Try.prog 95 2 := fun w => ⟨Try.isAgg95 w, Try.sizeOf95 w⟩
theorem ag96 : Ag Try.prog 96 2 := fun w => ⟨Try.isAgg96 w, Try.sizeOf96 w⟩
theorem ag112 : Ag Try.prog 112 2 := fun w => ⟨Try.isAgg112 w, Try.sizeOf112 w⟩
theorem ag113 : Ag Try.prog 113 2 := fun w => ⟨Try.isAgg113 w, Try.sizeOf113 w⟩
theorem ag117 : Ag Try.prog 117 2 := fun w => ⟨Try.isAgg117 w, Try.sizeOf117 w⟩
theorem ag118 : Ag Try.prog 118 2 := fun w => ⟨Try.isAgg118 w, Try.sizeOf118 w⟩
theorem ag135 : Ag Try.prog 135 3 := fun w => ⟨Try.isAgg135 w, Try.sizeOf135 w⟩
theorem ag136 : Ag Try.prog 136 3 := fun w => ⟨Try.isAgg136 w, Try.sizeOf136 w⟩
theorem ag137 : Ag Try.prog 137 6 := fun w => ⟨Try.isAgg137 w, Try.sizeOf137 w⟩
theorem ag138 : Ag Try.prog 138 6 := fun w => ⟨Try.isAgg138 w, Try.sizeOf138 w⟩
theorem ag140 : Ag Try.prog 140 4 := fun w => ⟨Try.isAgg140 w, Try.sizeOf140 w⟩
theorem ag141 : Ag Try.prog 141 4 := fun w => ⟨Try.isAgg141 w, Try.sizeOf141 w⟩
theorem ag168 : Ag Try.prog 168 4 := fun w => ⟨Try.isAgg168 w, Try.sizeOf168 w⟩
theorem ag171 : Ag Try.prog 171 0 := fun w => ⟨Try.isAgg171 w, Try.sizeOf171 w⟩
theorem ag180 : Ag Try.prog 180 11 := fun w => ⟨Try.isAgg180 w, Try.sizeOf180 w⟩
theorem fa7_0 : FldAt Try.prog 7 0 0 := FldAt.mk Try.underlying7 rfl rfl Try.sizeOf2 (by decide)
theorem fa7_1 : FldAt Try.prog 7 1 1 := FldAt.mk Try.underlying7 rfl rfl Try.sizeOf3 (by decide)
theorem fa7_2 : FldAt Try.prog 7 2 2 := FldAt.mk Try.underlying7 rfl rfl Try.sizeOf4 (by decide)
theorem fa7_3 : FldAt Try.prog 7 3 3 := FldAt.mk Try.underlying7 rfl rfl Try.sizeOf6 (by decide)
theorem fa13_0 : FldAt Try.prog 13 0 0 := FldAt.mk Try.underlying13 rfl rfl Try.sizeOf9 (by decide)
theorem fa13_1 : FldAt Try.prog 13 1 1 := FldAt.mk Try.underlying13 rfl rfl Try.sizeOf12 (by decide)
theorem fa18_0 : FldAt Try.prog 18 0 0 := FldAt.mk Try.underlying18 rfl rfl Try.sizeOf17 (by decide)
theorem fa23_0 : FldAt Try.prog 23 0 0 := FldAt.mk Try.underlying23 rfl rfl Try.sizeOf3 (by decide)
theorem fa23_1 : FldAt Try.prog 23 1 1 := FldAt.mk Try.underlying23 rfl rfl Try.sizeOf22 (by decide)
theorem fa24_0 : FldAt Try.prog 24 0 0 := FldAt.mk Try.underlying24 rfl rfl Try.sizeOf3 (by decide)
theorem fa24_1 : FldAt Try.prog 24 1 1 := FldAt.mk Try.underlying24 rfl rfl Try.sizeOf22 (by decide)
theorem fa39_0 : FldAt Try.prog 39 0 0 := FldAt.mk Try.underlying39 rfl rfl Try.sizeOf24 (by decide)
theorem fa39_1 : FldAt Try.prog 39 1 2 := FldAt.mk Try.underlying39 rfl rfl Try.sizeOf26 (by decide)
theorem fa40_0 : FldAt Try.prog 40 0 0 := FldAt.mk Try.underlying40 rfl rfl Try.sizeOf24 (by decide)
theorem fa40_1 : FldAt Try.prog 40 1 2 := FldAt.mk Try.underlying40 rfl rfl Try.sizeOf26 (by decide)
theorem fa43_0 : FldAt Try.prog 43 0 0 := FldAt.mk Try.underlying43 rfl rfl Try.sizeOf26 (by decide)
theorem fa43_1 : FldAt Try.prog 43 1 1 := FldAt.mk Try.underlying43 rfl rfl Try.sizeOf42 (by decide)
theorem fa44_0 : FldAt Try.prog 44 0 0 := FldAt.mk Try.underlying44 rfl rfl Try.sizeOf26 (by decide)
theorem fa44_1 : FldAt Try.prog 44 1 1 := FldAt.mk Try.underlying44 rfl rfl Try.sizeOf42 (by decide)
theorem fa60_0 : FldAt Try.prog 60 0 0 := FldAt.mk Try.underlying60 rfl rfl Try.sizeOf3 (by decide)
theorem fa60_1 : FldAt Try.prog 60 1 1 := FldAt.mk Try.underlying60 rfl rfl Try.sizeOf24 (by decide)
theorem fa60_2 : FldAt Try.prog 60 2 3 := FldAt.mk Try.underlying60 rfl rfl Try.sizeOf26 (by decide)
theorem fa61_0 : FldAt Try.prog 61 0 0 := FldAt.mk Try.underlying61 rfl rfl Try.sizeOf3 (by decide)
theorem fa61_1 : FldAt Try.prog 61 1 1 := FldAt.mk Try.underlying61 rfl rfl Try.sizeOf24 (by decide)
theorem fa61_2 : FldAt Try.prog 61 2 3 := FldAt.mk Try.underlying61 rfl rfl Try.sizeOf26 (by decide)
theorem fa67_0 : FldAt Try.prog 67 0 0 := FldAt.mk Try.underlying67 rfl rfl Try.sizeOf3 (by decide)
theorem fa67_1 : FldAt Try.prog 67 1 1 := FldAt.mk Try.underlying67 rfl rfl Try.sizeOf3 (by decide)
theorem fa68_0 : FldAt Try.prog 68 0 0 := FldAt.mk Try.underlying68 rfl rfl Try.sizeOf3 (by decide)
theorem fa68_1 : FldAt Try.prog 68 1 1 := FldAt.mk Try.underlying68 rfl rfl Try.sizeOf3 (by decide)
theorem fa69_0 : FldAt Try.prog 69 0 0 := FldAt.mk Try.underlying69 rfl rfl Try.sizeOf26 (by decide)
theorem fa69_1 : FldAt Try.prog 69 1 1 := FldAt.mk Try.underlying69 rfl rfl Try.sizeOf4 (by decide)
theorem fa69_2 : FldAt Try.prog 69 2 2 := FldAt.mk Try.underlying69 rfl rfl Try.sizeOf68 (by decide)
theorem fa70_0 : FldAt Try.prog 70 0 0 := FldAt.mk Try.underlying70 rfl rfl Try.sizeOf26 (by decide)
theorem fa70_1 : FldAt Try.prog 70 1 1 := FldAt.mk Try.underlying70 rfl rfl Try.sizeOf4 (by decide)
theorem fa70_2 : FldAt Try.prog 70 2 2 := FldAt.mk Try.underlying70 rfl rfl Try.sizeOf68 (by decide)
theorem fa73_0 : FldAt Try.prog 73 0 0 := FldAt.mk Try.underlying73 rfl rfl Try.sizeOf65 (by decide)
theorem fa73_1 : FldAt Try.prog 73 1 1 := FldAt.mk Try.underlying73 rfl rfl Try.sizeOf66 (by decide)
theorem fa73_2 : FldAt Try.prog 73 2 2 := FldAt.mk Try.underlying73 rfl rfl Try.sizeOf72 (by decide)
theorem fa74_0 : FldAt Try.prog 74 0 0 := FldAt.mk Try.underlying74 rfl rfl Try.sizeOf65 (by decide)
theorem fa74_1 : FldAt Try.prog 74 1 1 := FldAt.mk Try.underlying74 rfl rfl Try.sizeOf66 (by decide)
theorem fa74_2 : FldAt Try.prog 74 2 2 := FldAt.mk Try.underlying74 rfl rfl Try.sizeOf72 (by decide)
theorem fa93_0 : FldAt Try.prog 93 0 0 := FldAt.mk Try.underlying93 rfl rfl Try.sizeOf68 (by decide)
theorem fa93_1 : FldAt Try.prog 93 1 2 := FldAt.mk Try.underlying93 rfl rfl Try.sizeOf3 (by decide)
theorem fa93_2 : FldAt Try.prog 93 2 3 := FldAt.mk Try.underlying93 rfl rfl Try.sizeOf26 (by decide)
theorem fa94_0 : FldAt Try.prog 94 0 0 := FldAt.mk Try.underlying94 rfl rfl Try.sizeOf68 (by decide)
theorem fa94_1 : FldAt Try.prog 94 1 2 := FldAt.mk Try.underlying94 rfl rfl Try.sizeOf3 (by decide)
theorem fa94_2 : FldAt Try.prog 94 2 3 := FldAt.mk Try.underlying94 rfl rfl Try.sizeOf26 (by decide)
theorem fa112_0 : FldAt Try.prog 112 0 0 := FldAt.mk Try.underlying112 rfl rfl Try.sizeOf4 (by decide)
theorem fa112_1 : FldAt Try.prog 112 1 1 := FldAt.mk Try.underlying112 rfl rfl Try.sizeOf26 (by decide)
theorem fa113_0 : FldAt Try.prog 113 0 0 := FldAt.mk Try.underlying113 rfl rfl Try.sizeOf4 (by decide)
theorem fa113_1 : FldAt Try.prog 113 1 1 := FldAt.mk Try.underlying113 rfl rfl Try.sizeOf26 (by decide)
theorem fa117_0 : FldAt Try.prog 117 0 0 := FldAt.mk Try.underlying117 rfl rfl Try.sizeOf114 (by decide)
theorem fa117_1 : FldAt Try.prog 117 1 1 := FldAt.mk Try.underlying117 rfl rfl Try.sizeOf116 (by decide)
theorem fa118_0 : FldAt Try.prog 118 0 0 := FldAt.mk Try.underlying118 rfl rfl Try.sizeOf114 (by decide)
theorem fa118_1 : FldAt Try.prog 118 1 1 := FldAt.mk Try.underlying118 rfl rfl Try.sizeOf116 (by decide)
theorem fa135_0 : FldAt Try.prog 135 0 0 := FldAt.mk Try.underlying135 rfl rfl Try.sizeOf116 (by decide)
theorem fa135_1 : FldAt Try.prog 135 1 1 := FldAt.mk Try.underlying135 rfl rfl Try.sizeOf133 (by decide)
theorem fa135_2 : FldAt Try.prog 135 2 2 := FldAt.mk Try.underlying135 rfl rfl Try.sizeOf134 (by decide)
theorem fa136_0 : FldAt Try.prog 136 0 0 := FldAt.mk Try.underlying136 rfl rfl Try.sizeOf116 (by decide)
theorem fa136_1 : FldAt Try.prog 136 1 1 := FldAt.mk Try.underlying136 rfl rfl Try.sizeOf133 (by decide)
theorem fa136_2 : FldAt Try.prog 136 2 2 := FldAt.mk Try.underlying136 rfl rfl Try.sizeOf134 (by decide)
theorem fa137_0 : FldAt Try.prog 137 0 0 := FldAt.mk Try.underlying137 rfl rfl Try.sizeOf4 (by decide)
theorem fa137_1 : FldAt Try.prog 137 1 1 := FldAt.mk Try.underlying137 rfl rfl Try.sizeOf132 (by decide)
theorem fa137_2 : FldAt Try.prog 137 2 2 := FldAt.mk Try.underlying137 rfl rfl Try.sizeOf25 (by decide)
theorem fa137_3 : FldAt Try.prog 137 3 3 := FldAt.mk Try.underlying137 rfl rfl Try.sizeOf136 (by decide)
theorem fa138_0 : FldAt Try.prog 138 0 0 := FldAt.mk Try.underlying138 rfl rfl Try.sizeOf4 (by decide)
theorem fa138_1 : FldAt Try.prog 138 1 1 := FldAt.mk Try.underlying138 rfl rfl Try.sizeOf132 (by decide)
theorem fa138_2 : FldAt Try.prog 138 2 2 := FldAt.mk Try.underlying138 rfl rfl Try.sizeOf25 (by decide)
theorem fa138_3 : FldAt Try.prog 138 3 3 := FldAt.mk Try.underlying138 rfl rfl Try.sizeOf136 (by decide)
theorem fa140_0 : FldAt Try.prog 140 0 0 := FldAt.mk Try.underlying140 rfl rfl Try.sizeOf26 (by decide)
theorem fa140_1 : FldAt Try.prog 140 1 1 := FldAt.mk Try.underlying140 rfl rfl Try.sizeOf3 (by decide)
theorem fa140_2 : FldAt Try.prog 140 2 2 := FldAt.mk Try.underlying140 rfl rfl Try.sizeOf25 (by decide)
theorem fa140_3 : FldAt Try.prog 140 3 3 := FldAt.mk Try.underlying140 rfl rfl Try.sizeOf3 (by decide)
theorem fa141_0 : FldAt Try.prog 141 0 0 := FldAt.mk Try.underlying141 rfl rfl Try.sizeOf26 (by decide)
theorem fa141_1 : FldAt Try.prog 141 1 1 := FldAt.mk Try.underlying141 rfl rfl Try.sizeOf3 (by decide)
theorem fa141_2 : FldAt Try.prog 141 2 2 := FldAt.mk Try.underlying141 rfl rfl Try.sizeOf25 (by decide)
theorem fa141_3 : FldAt Try.prog 141 3 3 := FldAt.mk Try.underlying141 rfl rfl Try.sizeOf3 (by decide)
theorem fa168_0 : FldAt Try.prog 168 0 0 := FldAt.mk Try.underlying168 rfl rfl Try.sizeOf17 (by decide)
theorem fa168_1 : FldAt Try.prog 168 1 1 := FldAt.mk Try.underlying168 rfl rfl Try.sizeOf17 (by decide)
theorem fa168_2 : FldAt Try.prog 168 2 2 := FldAt.mk Try.underlying168 rfl rfl Try.sizeOf17 (by decide)
theorem fa168_3 : FldAt Try.prog 168 3 3 := FldAt.mk Try.underlying168 rfl rfl Try.sizeOf9 (by decide)
theorem fa180_0 : FldAt Try.prog 180 0 0 := FldAt.mk Try.underlying180 rfl rfl Try.sizeOf12 (by decide)
theorem fa180_1 : FldAt Try.prog 180 1 1 := FldAt.mk Try.underlying180 rfl rfl Try.sizeOf12 (by decide)
theorem fa180_2 : FldAt Try.prog 180 2 2 := FldAt.mk Try.underlying180 rfl rfl Try.sizeOf154 (by decide)
theorem fa180_3 : FldAt Try.prog 180 3 3 := FldAt.mk Try.underlying180 rfl rfl Try.sizeOf174 (by decide)
theorem fa180_4 : FldAt Try.prog 180 4 4 := FldAt.mk Try.underlying180 rfl rfl Try.sizeOf5 (by decide)
theorem fa180_5 : FldAt Try.prog 180 5 5 := FldAt.mk Try.underlying180 rfl rfl Try.sizeOf5 (by decide)
theorem fa180_6 : FldAt Try.prog 180 6 6 := FldAt.mk Try.underlying180 rfl rfl Try.sizeOf175 (by decide)
theorem fa180_7 : FldAt Try.prog 180 7 7 := FldAt.mk Try.underlying180 rfl rfl Try.sizeOf176 (by decide)
theorem fa180_8 : FldAt Try.prog 180 8 8 := FldAt.mk Try.underlying180 rfl rfl Try.sizeOf177 (by decide)
theorem fa180_9 : FldAt Try.prog 180 9 9 := FldAt.mk Try.underlying180 rfl rfl Try.sizeOf178 (by decide)
theorem fa180_10 : FldAt Try.prog 180 10 10 := FldAt.mk Try.underlying180 rfl rfl Try.sizeOf179 (by decide)
theorem pl7 : Places Try.prog 7 [(0, 1), (1, 1), (2, 1), (3, 1)] := ⟨_, Try.underlying7, fun w => by simp [Try.sizeOf2, Try.sizeOf3, Try.sizeOf4, Try.sizeOf6]⟩
theorem pl13 : Places Try.prog 13 [(0, 1), (1, 1)] := ⟨_, Try.underlying13, fun w => by simp [Try.sizeOf12, Try.sizeOf9]⟩
theorem pl18 : Places Try.prog 18 [(0, 1)] := ⟨_, Try.underlying18, fun w => by simp [Try.sizeOf17]⟩
theorem pl23 : Places Try.prog 23 [(0, 1), (1, 1)] := ⟨_, Try.underlying23, fun w => by simp [Try.sizeOf22, Try.sizeOf3]⟩
theorem pl24 : Places Try.prog 24 [(0, 1), (1, 1)] := ⟨_, Try.underlying24, fun w => by simp [Try.sizeOf22, Try.sizeOf3]⟩
theorem pl39 : Places Try.prog 39 [(0, 2), (2, 1)] := ⟨_, Try.underlying39, fun w => by simp [Try.sizeOf24, Try.sizeOf26]⟩
theorem pl40 : Places Try.prog 40 [(0, 2), (2, 1)] := ⟨_, Try.underlying40, fun w => by simp [Try.sizeOf24, Try.sizeOf26]⟩
theorem pl43 : Places Try.prog 43 [(0, 1), (1, 1)] := ⟨_, Try.underlying43, fun w => by simp [Try.sizeOf26, Try.sizeOf42]⟩
theorem pl44 : Places Try.prog 44 [(0, 1), (1, 1)] := ⟨_, Try.underlying44, fun w => by simp [Try.sizeOf26, Try.sizeOf42]⟩
theorem pl60 : Places Try.prog 60 [(0, 1), (1, 2), (3, 1)] := ⟨_, Try.underlying60, fun w => by simp [Try.sizeOf24, Try.sizeOf26, Try.sizeOf3]⟩
theorem pl61 : Places Try.prog 61 [(0, 1), (1, 2), (3, 1)] := ⟨_, Try.underlying61, fun w => by simp [Try.sizeOf24, Try.sizeOf26, Try.sizeOf3]⟩
theorem pl67 : Places Try.prog 67 [(0, 1), (1, 1)] := ⟨_, Try.underlying67, fun w => by simp [Try.sizeOf3]⟩
theorem pl68 : Places Try.prog 68 [(0, 1), (1, 1)] := ⟨_, Try.underlying68, fun w => by simp [Try.sizeOf3]⟩
theorem pl69 : Places Try.prog 69 [(0, 1), (1, 1), (2, 2)] := ⟨_, Try.underlying69, fun w => by simp [Try.sizeOf26, Try.sizeOf4, Try.sizeOf68]⟩
theorem pl70 : Places Try.prog 70 [(0, 1), (1, 1), (2, 2)] := ⟨_, Try.underlying70, fun w => by simp [Try.sizeOf26, Try.sizeOf4, Try.sizeOf68]⟩
theorem pl73 : Places Try.prog 73 [(0, 1), (1, 1), (2, 1024)] := ⟨_, Try.underlying73, fun w => by simp [Try.sizeOf65, Try.sizeOf66, Try.sizeOf72]⟩
theorem pl74 : Places Try.prog 74 [(0, 1), (1, 1), (2, 1024)] := ⟨_, Try.underlying74, fun w => by simp [Try.sizeOf65, Try.sizeOf66, Try.sizeOf72]⟩
theorem pl93 : Places Try.prog 93 [(0, 2), (2, 1), (3, 1)] := ⟨_, Try.underlying93, fun w => by simp [Try.sizeOf26, Try.sizeOf3, Try.sizeOf68]⟩
theorem pl94 : Places Try.prog 94 [(0, 2), (2, 1), (3, 1)] := ⟨_, Try.underlying94, fun w => by simp [Try.sizeOf26, Try.sizeOf3, Try.sizeOf68]⟩
theorem pl112 : Places Try.prog 112 [(0, 1), (1, 1)] := ⟨_, Try.underlying112, fun w => by simp [Try.sizeOf26, Try.sizeOf4]⟩
theorem pl113 : Places Try.prog 113 [(0, 1), (1, 1)] := ⟨_, Try.underlying113, fun w => by simp [Try.sizeOf26, Try.sizeOf4]⟩
theorem pl117 : Places Try.prog 117 [(0, 1), (1, 1)] := ⟨_, Try.underlying117, fun w => by simp [Try.sizeOf114, Try.sizeOf116]⟩
theorem pl118 : Places Try.prog 118 [(0, 1), (1, 1)] := ⟨_, Try.underlying118, fun w => by simp [Try.sizeOf114, Try.sizeOf116]⟩
theorem pl135 : Places Try.prog 135 [(0, 1), (1, 1), (2, 1)] := ⟨_, Try.underlying135, fun w => by simp [Try.sizeOf116, Try.sizeOf133, Try.sizeOf134]⟩
theorem pl136 : Places Try.prog 136 [(0, 1), (1, 1), (2, 1)] := ⟨_, Try.underlying136, fun w => by simp [Try.sizeOf116, Try.sizeOf133, Try.sizeOf134]⟩
theorem pl137 : Places Try.prog 137 [(0, 1), (1, 1), (2, 1), (3, 3)] := ⟨_, Try.underlying137, fun w => by simp [Try.sizeOf132, Try.sizeOf136, Try.sizeOf25, Try.sizeOf4]⟩
theorem pl138 : Places Try.prog 138 [(0, 1), (1, 1), (2, 1), (3, 3)] := ⟨_, Try.underlying138, fun w => by simp [Try.sizeOf132, Try.sizeOf136, Try.sizeOf25, Try.sizeOf4]⟩
theorem pl140 : Places Try.prog 140 [(0, 1), (1, 1), (2, 1), (3, 1)] := ⟨_, Try.underlying140, fun w => by simp [Try.sizeOf25, Try.sizeOf26, Try.sizeOf3]⟩
theorem pl141 : Places Try.prog 141 [(0, 1), (1, 1), (2, 1), (3, 1)] := ⟨_, Try.underlying141, fun w => by simp [Try.sizeOf25, Try.sizeOf26, Try.sizeOf3]⟩
theorem pl168 : Places Try.prog 168 [(0, 1), (1, 1), (2, 1), (3, 1)] := ⟨_, Try.underlying168, fun w => by simp [Try.sizeOf17, Try.sizeOf9]⟩
theorem pl171 : Places Try.prog 171 [(0, 0)] := ⟨_, Try.underlying171, fun w => by simp [Try.sizeOf170]⟩
theorem pl180 : Places Try.prog 180 [(0, 1), (1, 1), (2, 1), (3, 1), (4, 1), (5, 1), (6, 1), (7, 1), (8, 1), (9, 1), (10, 1)] := ⟨_, Try.underlying180, fun w => by simp [Try.sizeOf12, Try.sizeOf154, Try.sizeOf174, Try.sizeOf175, Try.sizeOf176, Try.sizeOf177, Try.sizeOf178, Try.sizeOf179, Try.sizeOf5]⟩
theorem sc1 : Sc Try.prog 1 := fun w => ⟨Try.isAgg1 w, Try.sizeOf1 w⟩
theorem sc2 : Sc Try.prog 2 := fun w => ⟨Try.isAgg2 w, Try.sizeOf2 w⟩
theorem sc3 : Sc Try.prog 3 := fun w => ⟨Try.isAgg3 w, Try.sizeOf3 w⟩
theorem sc4 : Sc Try.prog 4 := fun w => ⟨Try.isAgg4 w, Try.sizeOf4 w⟩
theorem sc5 : Sc Try.prog 5 := fun w => ⟨Try.isAgg5 w, Try.sizeOf5 w⟩
theorem sc9 : Sc Try.prog 9 := fun w => ⟨Try.isAgg9 w, Try.sizeOf9 w⟩
theorem sc12 : Sc Try.prog 12 := fun w => ⟨Try.isAgg12 w, Try.sizeOf12 w⟩
theorem sc21 : Sc Try.prog 21 := fun w => ⟨Try.isAgg21 w, Try.sizeOf21 w⟩
theorem sc22 : Sc Try.prog 22 := fun w => ⟨Try.isAgg22 w, Try.sizeOf22 w⟩
theorem sc25 : Sc Try.prog 25 := fun w => ⟨Try.isAgg25 w, Try.sizeOf25 w⟩
theorem sc26 : Sc Try.prog 26 := fun w => ⟨Try.isAgg26 w, Try.sizeOf26 w⟩
theorem sc27 : Sc Try.prog 27 := fun w => ⟨Try.isAgg27 w, Try.sizeOf27 w⟩
theorem sc28 : Sc Try.prog 28 := fun w => ⟨Try.isAgg28 w, Try.sizeOf28 w⟩
theorem sc29 : Sc Try.prog 29 := fun w => ⟨Try.isAgg29 w, Try.sizeOf29 w⟩
theorem sc30 : Sc Try.prog 30 := fun w => ⟨Try.isAgg30 w, Try.sizeOf30 w⟩
theorem sc31 : Sc Try.prog 31 := fun w => ⟨Try.isAgg31 w, Try.sizeOf31 w⟩
theorem sc33 : Sc Try.prog 33 := fun w => ⟨Try.isAgg33 w, Try.sizeOf33 w⟩
theorem sc34 : Sc Try.prog 34 := fun w => ⟨Try.isAgg34 w, Try.sizeOf34 w⟩
theorem sc36 : Sc Try.prog 36 := fun w => ⟨Try.isAgg36 w, Try.sizeOf36 w⟩
theorem sc37 : Sc Try.prog 37 := fun w => ⟨Try.isAgg37 w, Try.sizeOf37 w⟩
theorem sc38 : Sc Try.prog 38 := fun w => ⟨Try.isAgg38 w, Try.sizeOf38 w⟩
theorem sc41 : Sc Try.prog 41 := fun w => ⟨Try.isAgg41 w, Try.sizeOf41 w⟩
theorem sc42 : Sc Try.prog 42 := fun w => ⟨Try.isAgg42 w, Try.sizeOf42 w⟩
theorem sc46 : Sc Try.prog 46 := fun w => ⟨Try.isAgg46 w, Try.sizeOf46 w⟩
theorem sc47 : Sc Try.prog 47 := fun w => ⟨Try.isAgg47 w, Try.sizeOf47 w⟩
theorem sc49 : Sc Try.prog 49 := fun w => ⟨Try.isAgg49 w, Try.sizeOf49 w⟩
theorem sc51 : Sc Try.prog 51 := fun w => ⟨Try.isAgg51 w, Try.sizeOf51 w⟩
theorem sc53 : Sc Try.prog 53 := fun w => ⟨Try.isAgg53 w, Try.sizeOf53 w⟩
theorem sc55 : Sc Try.prog 55 := fun w => ⟨Try.isAgg55 w, Try.sizeOf55 w⟩
theorem sc56 : Sc Try.prog 56 := fun w => ⟨Try.isAgg56 w, Try.sizeOf56 w⟩
theorem sc57 : Sc Try.prog 57 := fun w => ⟨Try.isAgg57 w, Try.sizeOf57 w⟩
theorem sc58 : Sc Try.prog 58 := fun w => ⟨Try.isAgg58 w, Try.sizeOf58 w⟩
theorem sc59 : Sc Try.prog 59 := fun w => ⟨Try.isAgg59 w, Try.sizeOf59 w⟩
theorem sc63 : Sc Try.prog 63 := fun w => ⟨Try.isAgg63 w, Try.sizeOf63 w⟩
theorem sc64 : Sc Try.prog 64 := fun w => ⟨Try.isAgg64 w, Try.sizeOf64 w⟩
theorem sc65 : Sc Try.prog 65 := fun w => ⟨Try.isAgg65 w, Try.sizeOf65 w⟩
theorem sc66 : Sc Try.prog 66 := fun w => ⟨Try.isAgg66 w, Try.sizeOf66 w⟩
theorem sc75 : Sc Try.prog 75 := fun w => ⟨Try.isAgg75 w, Try.sizeOf75 w⟩
theorem sc76 : Sc Try.prog 76 := fun w => ⟨Try.isAgg76 w, Try.sizeOf76 w⟩
theorem sc77 : Sc Try.prog 77 := fun w => ⟨Try.isAgg77 w, Try.sizeOf77 w⟩
theorem sc78 : Sc Try.prog 78 := fun w => ⟨Try.isAgg78 w, Try.sizeOf78 w⟩
theorem sc79 : Sc Try.prog 79 := fun w => ⟨Try.isAgg79 w, Try.sizeOf79 w⟩
theorem sc80 : Sc Try.prog 80 := fun w => ⟨Try.isAgg80 w, Try.sizeOf80 w⟩
theorem sc82 : Sc Try.prog 82 := fun w => ⟨Try.isAgg82 w, Try.sizeOf82 w⟩
theorem sc83 : Sc Try.prog 83 := fun w => ⟨Try.isAgg83 w, Try.sizeOf83 w⟩
theorem sc84 : Sc Try.prog 84 := fun w => ⟨Try.isAgg84 w, Try.sizeOf84 w⟩
theorem sc85 : Sc Try.prog 85 := fun w => ⟨Try.isAgg85 w, Try.sizeOf85 w⟩
theorem sc86 : Sc Try.prog 86 := fun w => ⟨Try.isAgg86 w, Try.sizeOf86 w⟩
theorem sc88 : Sc Try.prog 88 := fun w => ⟨Try.isAgg88 w, Try.sizeOf88 w⟩
theorem sc89 : Sc Try.prog 89 := fun w => ⟨Try.isAgg89 w, Try.sizeOf89 w⟩
theorem sc90 : Sc Try.prog 90 := fun w => ⟨Try.isAgg90 w, Try.sizeOf90 w⟩
theorem sc91 : Sc Try.prog 91 := fun w => ⟨Try.isAgg91 w, Try.sizeOf91 w⟩
theorem sc92 : Sc Try.prog 92 := fun w => ⟨Try.isAgg92 w, Try.sizeOf92 w⟩
theorem sc97 : Sc Try.prog 97 := fun w => ⟨Try.isAgg97 w, Try.sizeOf97 w⟩
theorem sc98 : Sc Try.prog 98 := fun w => ⟨Try.isAgg98 w, Try.sizeOf98 w⟩
theorem sc99 : Sc Try.prog 99 := fun w => ⟨Try.isAgg99 w, Try.sizeOf99 w⟩
theorem sc100 : Sc Try.prog 100 := fun w => ⟨Try.isAgg100 w, Try.sizeOf100 w⟩
theorem sc101 : Sc Try.prog 101 := fun w => ⟨Try.isAgg101 w, Try.sizeOf101 w⟩
theorem sc102 : Sc Try.prog 102 := fun w => ⟨Try.isAgg102 w, Try.sizeOf102 w⟩
theorem sc103 : Sc Try.prog 103 := fun w => ⟨Try.isAgg103 w, Try.sizeOf103 w⟩
theorem sc104 : Sc Try.prog 104 := fun w => ⟨Try.isAgg104 w, Try.sizeOf104 w⟩
theorem sc105 : Sc Try.prog 105 := fun w => ⟨Try.isAgg105 w, Try.sizeOf105 w⟩
theorem sc107 : Sc Try.prog 107 := fun w => ⟨Try.isAgg107 w, Try.sizeOf107 w⟩
theorem sc109 : Sc Try.prog 109 := fun w => ⟨Try.isAgg109 w, Try.sizeOf109 w⟩
theorem sc110 : Sc Try.prog 110 := fun w => ⟨Try.isAgg110 w, Try.sizeOf110 w⟩
theorem sc111 : Sc Try.prog 111 := fun w => ⟨Try.isAgg111 w, Try.sizeOf111 w⟩
theorem sc114 : Sc Try.prog 114 := fun w => ⟨Try.isAgg114 w, Try.sizeOf114 w⟩
theorem sc115 : Sc Try.prog 115 := fun w => ⟨Try.isAgg115 w, Try.sizeOf115 w⟩
theorem sc116 : Sc Try.prog 116 := fun w => ⟨Try.isAgg116 w, Try.sizeOf116 w⟩
theorem sc120 : Sc Try.prog 120 := fun w => ⟨Try.isAgg120 w, Try.sizeOf120 w⟩
theorem sc122 : Sc Try.prog 122 := fun w => ⟨Try.isAgg122 w, Try.sizeOf122 w⟩
theorem sc123 : Sc Try.prog 123 := fun w => ⟨Try.isAgg123 w, Try.sizeOf123 w⟩
theorem sc124 : Sc Try.prog 124 := fun w => ⟨Try.isAgg124 w, Try.sizeOf124 w⟩
theorem sc125 : Sc Try.prog 125 := fun w => ⟨Try.isAgg125 w, Try.sizeOf125 w⟩
theorem sc126 : Sc Try.prog 126 := fun w => ⟨Try.isAgg126 w, Try.sizeOf126 w⟩
theorem sc127 : Sc Try.prog 127 := fun w => ⟨Try.isAgg127 w, Try.sizeOf127 w⟩
theorem sc128 : Sc Try.prog 128 := fun w => ⟨Try.isAgg128 w, Try.sizeOf128 w⟩
theorem sc129 : Sc Try.prog 129 := fun w => ⟨Try.isAgg129 w, Try.sizeOf129 w⟩
theorem sc130 : Sc Try.prog 130 := fun w => ⟨Try.isAgg130 w, Try.sizeOf130 w⟩
theorem sc131 : Sc Try.prog 131 := fun w => ⟨Try.isAgg131 w, Try.sizeOf131 w⟩
theorem sc132 : Sc Try.prog 132 := fun w => ⟨Try.isAgg132 w, Try.sizeOf132 w⟩
theorem sc133 : Sc Try.prog 133 := fun w => ⟨Try.isAgg133 w, Try.sizeOf133 w⟩
theorem sc134 : Sc Try.prog 134 := fun w => ⟨Try.isAgg134 w, Try.sizeOf134 w⟩
theorem sc139 : Sc Try.prog 139 := fun w => ⟨Try.isAgg139 w, Try.sizeOf139 w⟩
theorem sc142 : Sc Try.prog 142 := fun w => ⟨Try.isAgg142 w, Try.sizeOf142 w⟩
theorem sc143 : Sc Try.prog 143 := fun w => ⟨Try.isAgg143 w, Try.sizeOf143 w⟩
theorem sc144 : Sc Try.prog 144 := fun w => ⟨Try.isAgg144 w, Try.sizeOf144 w⟩
theorem sc145 : Sc Try.prog 145 := fun w => ⟨Try.isAgg145 w, Try.sizeOf145 w⟩
theorem sc146 : Sc Try.prog 146 := fun w => ⟨Try.isAgg146 w, Try.sizeOf146 w⟩
theorem sc148 : Sc Try.prog 148 := fun w => ⟨Try.isAgg148 w, Try.sizeOf148 w⟩
theorem sc149 : Sc Try.prog 149 := fun w => ⟨Try.isAgg149 w, Try.sizeOf149 w⟩
theorem sc150 : Sc Try.prog 150 := fun w => ⟨Try.isAgg150 w, Try.sizeOf150 w⟩
theorem sc152 : Sc Try.prog 152 := fun w => ⟨Try.isAgg152 w, Try.sizeOf152 w⟩
theorem sc153 : Sc Try.prog 153 := fun w => ⟨Try.isAgg153 w, Try.sizeOf153 w⟩
theorem sc154 : Sc Try.prog 154 := fun w => ⟨Try.isAgg154 w, Try.sizeOf154 w⟩
theorem sc155 : Sc Try.prog 155 := fun w => ⟨Try.isAgg155 w, Try.sizeOf155 w⟩
theorem sc156 : Sc Try.prog 156 := fun w => ⟨Try.isAgg156 w, Try.sizeOf156 w⟩
theorem sc157 : Sc Try.prog 157 := fun w => ⟨Try.isAgg157 w, Try.sizeOf157 w⟩
theorem sc158 : Sc Try.prog 158 := fun w => ⟨Try.isAgg158 w, Try.sizeOf158 w⟩
theorem sc159 : Sc Try.prog 159 := fun w => ⟨Try.isAgg159 w, Try.sizeOf159 w⟩
theorem sc160 : Sc Try.prog 160 := fun w => ⟨Try.isAgg160 w, Try.sizeOf160 w⟩
theorem sc161 : Sc Try.prog 161 := fun w => ⟨Try.isAgg161 w, Try.sizeOf161 w⟩
theorem sc162 : Sc Try.prog 162 := fun w => ⟨Try.isAgg162 w, Try.sizeOf162 w⟩
theorem sc163 : Sc Try.prog 163 := fun w => ⟨Try.isAgg163 w, Try.sizeOf163 w⟩
theorem sc164 : Sc Try.prog 164 := fun w => ⟨Try.isAgg164 w, Try.sizeOf164 w⟩
theorem sc166 : Sc Try.prog 166 := fun w => ⟨Try.isAgg166 w, Try.sizeOf166 w⟩
theorem sc167 : Sc Try.prog 167 := fun w => ⟨Try.isAgg167 w, Try.sizeOf167 w⟩
theorem sc173 : Sc Try.prog 173 := fun w => ⟨Try.isAgg173 w, Try.sizeOf173 w⟩
theorem sc177 : Sc Try.prog 177 := fun w => ⟨Try.isAgg177 w, Try.sizeOf177 w⟩
set_option linter.unusedSimpArgs false in
theorem eqin7_10000 (a0 b0 : Int) (a1 b1 : Int) (a2 b2 : Bool) (a3 b3 : Int) (w : World) : (Op.equalIn 10000 7 (.agg #[.int .i64 a0, .int .i64 a1, .bool a2, .int .u8 a3]) (.agg #[.int .i64 b0, .int .i64 b1, .bool b2, .int .u8 b3])).run Try.prog w = .ok (decide (a0 = b0 ∧ a1 = b1 ∧ a2 = b2 ∧ a3 = b3)) w := by
  rw [run_equalIn_struct w 9999 7 _ _ (by simp [Program.fieldsOf, Try.underlying7]) Try.stoodInHeld7]
  by_cases h0 : a0 = b0 <;> by_cases h1 : a1 = b1 <;> by_cases h2 : a2 = b2 <;> by_cases h3 : a3 = b3 <;> simp [Program.fieldsOf, Try.underlying7, Op.eqFields, part, Try.isAgg2, Try.isAgg3, Try.isAgg4, Try.isAgg6, run_equalIn_bool' w 9998 4 _ _ Try.underlying4, run_equalIn_int w 9998 2 .i64 .i64 _ _ Try.underlying2, run_equalIn_int w 9998 3 .i64 .i64 _ _ Try.underlying3, run_equalIn_int w 9998 6 .u8 .u8 _ _ Try.underlying6, h0, h1, h2, h3]
theorem seq7 (a0 b0 : Int) (a1 b1 : Int) (a2 b2 : Bool) (a3 b3 : Int) (w : World) : (binOp .eql 7 (.agg #[.int .i64 a0, .int .i64 a1, .bool a2, .int .u8 a3]) (.agg #[.int .i64 b0, .int .i64 b1, .bool b2, .int .u8 b3])).run Try.prog w = .ok (.bool (decide (a0 = b0 ∧ a1 = b1 ∧ a2 = b2 ∧ a3 = b3))) w := by
  rw [run_eql_struct, eqin7_10000]
  rfl
theorem R_seq7 {X : Ctx} {E : Env} {H : Heap} {o : Oper} {x y : Operand} {t' : TypeId} {a0 b0 : Int} {a1 b1 : Int} {a2 b2 : Bool} {a3 b3 : Int} (hP : X.P = Try.prog) (ho : o.op = .binOp .eql 7 x y t') (hx : ev E x = some (.agg #[.int .i64 a0, .int .i64 a1, .bool a2, .int .u8 a3])) (hy : ev E y = some (.agg #[.int .i64 b0, .int .i64 b1, .bool b2, .int .u8 b3])) : Runs X o E H (.bool (decide (a0 = b0 ∧ a1 = b1 ∧ a2 = b2 ∧ a3 = b3))) :=
  R_bin ho hx hy (fun w => by rw [hP]; exact run_eqGuard_agg w _ 7 x y _ _ Try.eqGuardType7) (fun w => by rw [hP]; exact seq7 a0 b0 a1 b1 a2 b2 a3 b3 w)
theorem sne7 (a0 b0 : Int) (a1 b1 : Int) (a2 b2 : Bool) (a3 b3 : Int) (w : World) : (binOp .neq 7 (.agg #[.int .i64 a0, .int .i64 a1, .bool a2, .int .u8 a3]) (.agg #[.int .i64 b0, .int .i64 b1, .bool b2, .int .u8 b3])).run Try.prog w = .ok (.bool (decide (¬ (a0 = b0 ∧ a1 = b1 ∧ a2 = b2 ∧ a3 = b3)))) w := by
  rw [run_neq_struct, eqin7_10000]
  simp
theorem R_sne7 {X : Ctx} {E : Env} {H : Heap} {o : Oper} {x y : Operand} {t' : TypeId} {a0 b0 : Int} {a1 b1 : Int} {a2 b2 : Bool} {a3 b3 : Int} (hP : X.P = Try.prog) (ho : o.op = .binOp .neq 7 x y t') (hx : ev E x = some (.agg #[.int .i64 a0, .int .i64 a1, .bool a2, .int .u8 a3])) (hy : ev E y = some (.agg #[.int .i64 b0, .int .i64 b1, .bool b2, .int .u8 b3])) : Runs X o E H (.bool (decide (¬ (a0 = b0 ∧ a1 = b1 ∧ a2 = b2 ∧ a3 = b3)))) :=
  R_bin ho hx hy (fun w => by rw [hP]; exact run_eqGuard_agg w _ 7 x y _ _ Try.eqGuardType7) (fun w => by rw [hP]; exact sne7 a0 b0 a1 b1 a2 b2 a3 b3 w)
set_option linter.unusedSimpArgs false in
theorem eqin23_10000 (a0 b0 : Int) (a1 b1 : Int) (w : World) : (Op.equalIn 10000 23 (.agg #[.int .i64 a0, .int .i64 a1]) (.agg #[.int .i64 b0, .int .i64 b1])).run Try.prog w = .ok (decide (a0 = b0 ∧ a1 = b1)) w := by
  rw [run_equalIn_struct w 9999 23 _ _ (by simp [Program.fieldsOf, Try.underlying23]) Try.stoodInHeld23]
  by_cases h0 : a0 = b0 <;> by_cases h1 : a1 = b1 <;> simp [Program.fieldsOf, Try.underlying23, Op.eqFields, part, Try.isAgg22, Try.isAgg3, run_equalIn_int w 9998 22 .i64 .i64 _ _ Try.underlying22, run_equalIn_int w 9998 3 .i64 .i64 _ _ Try.underlying3, h0, h1]
theorem seq23 (a0 b0 : Int) (a1 b1 : Int) (w : World) : (binOp .eql 23 (.agg #[.int .i64 a0, .int .i64 a1]) (.agg #[.int .i64 b0, .int .i64 b1])).run Try.prog w = .ok (.bool (decide (a0 = b0 ∧ a1 = b1))) w := by
  rw [run_eql_struct, eqin23_10000]
  rfl
theorem R_seq23 {X : Ctx} {E : Env} {H : Heap} {o : Oper} {x y : Operand} {t' : TypeId} {a0 b0 : Int} {a1 b1 : Int} (hP : X.P = Try.prog) (ho : o.op = .binOp .eql 23 x y t') (hx : ev E x = some (.agg #[.int .i64 a0, .int .i64 a1])) (hy : ev E y = some (.agg #[.int .i64 b0, .int .i64 b1])) : Runs X o E H (.bool (decide (a0 = b0 ∧ a1 = b1))) :=
  R_bin ho hx hy (fun w => by rw [hP]; exact run_eqGuard_agg w _ 23 x y _ _ Try.eqGuardType23) (fun w => by rw [hP]; exact seq23 a0 b0 a1 b1 w)
theorem sne23 (a0 b0 : Int) (a1 b1 : Int) (w : World) : (binOp .neq 23 (.agg #[.int .i64 a0, .int .i64 a1]) (.agg #[.int .i64 b0, .int .i64 b1])).run Try.prog w = .ok (.bool (decide (¬ (a0 = b0 ∧ a1 = b1)))) w := by
  rw [run_neq_struct, eqin23_10000]
  simp
theorem R_sne23 {X : Ctx} {E : Env} {H : Heap} {o : Oper} {x y : Operand} {t' : TypeId} {a0 b0 : Int} {a1 b1 : Int} (hP : X.P = Try.prog) (ho : o.op = .binOp .neq 23 x y t') (hx : ev E x = some (.agg #[.int .i64 a0, .int .i64 a1])) (hy : ev E y = some (.agg #[.int .i64 b0, .int .i64 b1])) : Runs X o E H (.bool (decide (¬ (a0 = b0 ∧ a1 = b1)))) :=
  R_bin ho hx hy (fun w => by rw [hP]; exact run_eqGuard_agg w _ 23 x y _ _ Try.eqGuardType23) (fun w => by rw [hP]; exact sne23 a0 b0 a1 b1 w)
set_option linter.unusedSimpArgs false in
theorem eqin24_10000 (a0 b0 : Int) (a1 b1 : Int) (w : World) : (Op.equalIn 10000 24 (.agg #[.int .i64 a0, .int .i64 a1]) (.agg #[.int .i64 b0, .int .i64 b1])).run Try.prog w = .ok (decide (a0 = b0 ∧ a1 = b1)) w := by
  rw [run_equalIn_struct w 9999 24 _ _ (by simp [Program.fieldsOf, Try.underlying24]) Try.stoodInHeld24]
  by_cases h0 : a0 = b0 <;> by_cases h1 : a1 = b1 <;> simp [Program.fieldsOf, Try.underlying24, Op.eqFields, part, Try.isAgg22, Try.isAgg3, run_equalIn_int w 9998 22 .i64 .i64 _ _ Try.underlying22, run_equalIn_int w 9998 3 .i64 .i64 _ _ Try.underlying3, h0, h1]
theorem seq24 (a0 b0 : Int) (a1 b1 : Int) (w : World) : (binOp .eql 24 (.agg #[.int .i64 a0, .int .i64 a1]) (.agg #[.int .i64 b0, .int .i64 b1])).run Try.prog w = .ok (.bool (decide (a0 = b0 ∧ a1 = b1))) w := by
  rw [run_eql_struct, eqin24_10000]
  rfl
theorem R_seq24 {X : Ctx} {E : Env} {H : Heap} {o : Oper} {x y : Operand} {t' : TypeId} {a0 b0 : Int} {a1 b1 : Int} (hP : X.P = Try.prog) (ho : o.op = .binOp .eql 24 x y t') (hx : ev E x = some (.agg #[.int .i64 a0, .int .i64 a1])) (hy : ev E y = some (.agg #[.int .i64 b0, .int .i64 b1])) : Runs X o E H (.bool (decide (a0 = b0 ∧ a1 = b1))) :=
  R_bin ho hx hy (fun w => by rw [hP]; exact run_eqGuard_agg w _ 24 x y _ _ Try.eqGuardType24) (fun w => by rw [hP]; exact seq24 a0 b0 a1 b1 w)
theorem sne24 (a0 b0 : Int) (a1 b1 : Int) (w : World) : (binOp .neq 24 (.agg #[.int .i64 a0, .int .i64 a1]) (.agg #[.int .i64 b0, .int .i64 b1])).run Try.prog w = .ok (.bool (decide (¬ (a0 = b0 ∧ a1 = b1)))) w := by
  rw [run_neq_struct, eqin24_10000]
  simp
theorem R_sne24 {X : Ctx} {E : Env} {H : Heap} {o : Oper} {x y : Operand} {t' : TypeId} {a0 b0 : Int} {a1 b1 : Int} (hP : X.P = Try.prog) (ho : o.op = .binOp .neq 24 x y t') (hx : ev E x = some (.agg #[.int .i64 a0, .int .i64 a1])) (hy : ev E y = some (.agg #[.int .i64 b0, .int .i64 b1])) : Runs X o E H (.bool (decide (¬ (a0 = b0 ∧ a1 = b1)))) :=
  R_bin ho hx hy (fun w => by rw [hP]; exact run_eqGuard_agg w _ 24 x y _ _ Try.eqGuardType24) (fun w => by rw [hP]; exact sne24 a0 b0 a1 b1 w)
set_option linter.unusedSimpArgs false in
theorem eqin24_9999 (a0 b0 : Int) (a1 b1 : Int) (w : World) : (Op.equalIn 9999 24 (.agg #[.int .i64 a0, .int .i64 a1]) (.agg #[.int .i64 b0, .int .i64 b1])).run Try.prog w = .ok (decide (a0 = b0 ∧ a1 = b1)) w := by
  rw [run_equalIn_struct w 9998 24 _ _ (by simp [Program.fieldsOf, Try.underlying24]) Try.stoodInHeld24]
  by_cases h0 : a0 = b0 <;> by_cases h1 : a1 = b1 <;> simp [Program.fieldsOf, Try.underlying24, Op.eqFields, part, Try.isAgg22, Try.isAgg3, run_equalIn_int w 9997 22 .i64 .i64 _ _ Try.underlying22, run_equalIn_int w 9997 3 .i64 .i64 _ _ Try.underlying3, h0, h1]
set_option linter.unusedSimpArgs false in
theorem eqin39_10000 (a0 b0 : Int) (a1 b1 : Int) (a2 b2 : Int) (w : World) : (Op.equalIn 10000 39 (.agg #[.int .i64 a0, .int .i64 a1, .int .u64 a2]) (.agg #[.int .i64 b0, .int .i64 b1, .int .u64 b2])).run Try.prog w = .ok (decide (a0 = b0 ∧ a1 = b1 ∧ a2 = b2)) w := by
  rw [run_equalIn_struct w 9999 39 _ _ (by simp [Program.fieldsOf, Try.underlying39]) Try.stoodInHeld39]
  by_cases h0 : a0 = b0 <;> by_cases h1 : a1 = b1 <;> by_cases h2 : a2 = b2 <;> simp [Program.fieldsOf, Try.underlying39, Op.eqFields, part, Try.isAgg24, Try.isAgg26, Try.sizeOf24, eqin24_9999, run_equalIn_int w 9998 26 .u64 .u64 _ _ Try.underlying26, h0, h1, h2]
theorem seq39 (a0 b0 : Int) (a1 b1 : Int) (a2 b2 : Int) (w : World) : (binOp .eql 39 (.agg #[.int .i64 a0, .int .i64 a1, .int .u64 a2]) (.agg #[.int .i64 b0, .int .i64 b1, .int .u64 b2])).run Try.prog w = .ok (.bool (decide (a0 = b0 ∧ a1 = b1 ∧ a2 = b2))) w := by
  rw [run_eql_struct, eqin39_10000]
  rfl
theorem R_seq39 {X : Ctx} {E : Env} {H : Heap} {o : Oper} {x y : Operand} {t' : TypeId} {a0 b0 : Int} {a1 b1 : Int} {a2 b2 : Int} (hP : X.P = Try.prog) (ho : o.op = .binOp .eql 39 x y t') (hx : ev E x = some (.agg #[.int .i64 a0, .int .i64 a1, .int .u64 a2])) (hy : ev E y = some (.agg #[.int .i64 b0, .int .i64 b1, .int .u64 b2])) : Runs X o E H (.bool (decide (a0 = b0 ∧ a1 = b1 ∧ a2 = b2))) :=
  R_bin ho hx hy (fun w => by rw [hP]; exact run_eqGuard_agg w _ 39 x y _ _ Try.eqGuardType39) (fun w => by rw [hP]; exact seq39 a0 b0 a1 b1 a2 b2 w)
theorem sne39 (a0 b0 : Int) (a1 b1 : Int) (a2 b2 : Int) (w : World) : (binOp .neq 39 (.agg #[.int .i64 a0, .int .i64 a1, .int .u64 a2]) (.agg #[.int .i64 b0, .int .i64 b1, .int .u64 b2])).run Try.prog w = .ok (.bool (decide (¬ (a0 = b0 ∧ a1 = b1 ∧ a2 = b2)))) w := by
  rw [run_neq_struct, eqin39_10000]
  simp
theorem R_sne39 {X : Ctx} {E : Env} {H : Heap} {o : Oper} {x y : Operand} {t' : TypeId} {a0 b0 : Int} {a1 b1 : Int} {a2 b2 : Int} (hP : X.P = Try.prog) (ho : o.op = .binOp .neq 39 x y t') (hx : ev E x = some (.agg #[.int .i64 a0, .int .i64 a1, .int .u64 a2])) (hy : ev E y = some (.agg #[.int .i64 b0, .int .i64 b1, .int .u64 b2])) : Runs X o E H (.bool (decide (¬ (a0 = b0 ∧ a1 = b1 ∧ a2 = b2)))) :=
  R_bin ho hx hy (fun w => by rw [hP]; exact run_eqGuard_agg w _ 39 x y _ _ Try.eqGuardType39) (fun w => by rw [hP]; exact sne39 a0 b0 a1 b1 a2 b2 w)
set_option linter.unusedSimpArgs false in
theorem eqin40_10000 (a0 b0 : Int) (a1 b1 : Int) (a2 b2 : Int) (w : World) : (Op.equalIn 10000 40 (.agg #[.int .i64 a0, .int .i64 a1, .int .u64 a2]) (.agg #[.int .i64 b0, .int .i64 b1, .int .u64 b2])).run Try.prog w = .ok (decide (a0 = b0 ∧ a1 = b1 ∧ a2 = b2)) w := by
  rw [run_equalIn_struct w 9999 40 _ _ (by simp [Program.fieldsOf, Try.underlying40]) Try.stoodInHeld40]
  by_cases h0 : a0 = b0 <;> by_cases h1 : a1 = b1 <;> by_cases h2 : a2 = b2 <;> simp [Program.fieldsOf, Try.underlying40, Op.eqFields, part, Try.isAgg24, Try.isAgg26, Try.sizeOf24, eqin24_9999, run_equalIn_int w 9998 26 .u64 .u64 _ _ Try.underlying26, h0, h1, h2]
theorem seq40 (a0 b0 : Int) (a1 b1 : Int) (a2 b2 : Int) (w : World) : (binOp .eql 40 (.agg #[.int .i64 a0, .int .i64 a1, .int .u64 a2]) (.agg #[.int .i64 b0, .int .i64 b1, .int .u64 b2])).run Try.prog w = .ok (.bool (decide (a0 = b0 ∧ a1 = b1 ∧ a2 = b2))) w := by
  rw [run_eql_struct, eqin40_10000]
  rfl
theorem R_seq40 {X : Ctx} {E : Env} {H : Heap} {o : Oper} {x y : Operand} {t' : TypeId} {a0 b0 : Int} {a1 b1 : Int} {a2 b2 : Int} (hP : X.P = Try.prog) (ho : o.op = .binOp .eql 40 x y t') (hx : ev E x = some (.agg #[.int .i64 a0, .int .i64 a1, .int .u64 a2])) (hy : ev E y = some (.agg #[.int .i64 b0, .int .i64 b1, .int .u64 b2])) : Runs X o E H (.bool (decide (a0 = b0 ∧ a1 = b1 ∧ a2 = b2))) :=
  R_bin ho hx hy (fun w => by rw [hP]; exact run_eqGuard_agg w _ 40 x y _ _ Try.eqGuardType40) (fun w => by rw [hP]; exact seq40 a0 b0 a1 b1 a2 b2 w)
theorem sne40 (a0 b0 : Int) (a1 b1 : Int) (a2 b2 : Int) (w : World) : (binOp .neq 40 (.agg #[.int .i64 a0, .int .i64 a1, .int .u64 a2]) (.agg #[.int .i64 b0, .int .i64 b1, .int .u64 b2])).run Try.prog w = .ok (.bool (decide (¬ (a0 = b0 ∧ a1 = b1 ∧ a2 = b2)))) w := by
  rw [run_neq_struct, eqin40_10000]
  simp
theorem R_sne40 {X : Ctx} {E : Env} {H : Heap} {o : Oper} {x y : Operand} {t' : TypeId} {a0 b0 : Int} {a1 b1 : Int} {a2 b2 : Int} (hP : X.P = Try.prog) (ho : o.op = .binOp .neq 40 x y t') (hx : ev E x = some (.agg #[.int .i64 a0, .int .i64 a1, .int .u64 a2])) (hy : ev E y = some (.agg #[.int .i64 b0, .int .i64 b1, .int .u64 b2])) : Runs X o E H (.bool (decide (¬ (a0 = b0 ∧ a1 = b1 ∧ a2 = b2)))) :=
  R_bin ho hx hy (fun w => by rw [hP]; exact run_eqGuard_agg w _ 40 x y _ _ Try.eqGuardType40) (fun w => by rw [hP]; exact sne40 a0 b0 a1 b1 a2 b2 w)
set_option linter.unusedSimpArgs false in
theorem eqin60_10000 (a0 b0 : Int) (a1 b1 : Int) (a2 b2 : Int) (a3 b3 : Int) (w : World) : (Op.equalIn 10000 60 (.agg #[.int .i64 a0, .int .i64 a1, .int .i64 a2, .int .u64 a3]) (.agg #[.int .i64 b0, .int .i64 b1, .int .i64 b2, .int .u64 b3])).run Try.prog w = .ok (decide (a0 = b0 ∧ a1 = b1 ∧ a2 = b2 ∧ a3 = b3)) w := by
  rw [run_equalIn_struct w 9999 60 _ _ (by simp [Program.fieldsOf, Try.underlying60]) Try.stoodInHeld60]
  by_cases h0 : a0 = b0 <;> by_cases h1 : a1 = b1 <;> by_cases h2 : a2 = b2 <;> by_cases h3 : a3 = b3 <;> simp [Program.fieldsOf, Try.underlying60, Op.eqFields, part, Try.isAgg24, Try.isAgg26, Try.isAgg3, Try.sizeOf24, eqin24_9999, run_equalIn_int w 9998 26 .u64 .u64 _ _ Try.underlying26, run_equalIn_int w 9998 3 .i64 .i64 _ _ Try.underlying3, h0, h1, h2, h3]
theorem seq60 (a0 b0 : Int) (a1 b1 : Int) (a2 b2 : Int) (a3 b3 : Int) (w : World) : (binOp .eql 60 (.agg #[.int .i64 a0, .int .i64 a1, .int .i64 a2, .int .u64 a3]) (.agg #[.int .i64 b0, .int .i64 b1, .int .i64 b2, .int .u64 b3])).run Try.prog w = .ok (.bool (decide (a0 = b0 ∧ a1 = b1 ∧ a2 = b2 ∧ a3 = b3))) w := by
  rw [run_eql_struct, eqin60_10000]
  rfl
theorem R_seq60 {X : Ctx} {E : Env} {H : Heap} {o : Oper} {x y : Operand} {t' : TypeId} {a0 b0 : Int} {a1 b1 : Int} {a2 b2 : Int} {a3 b3 : Int} (hP : X.P = Try.prog) (ho : o.op = .binOp .eql 60 x y t') (hx : ev E x = some (.agg #[.int .i64 a0, .int .i64 a1, .int .i64 a2, .int .u64 a3])) (hy : ev E y = some (.agg #[.int .i64 b0, .int .i64 b1, .int .i64 b2, .int .u64 b3])) : Runs X o E H (.bool (decide (a0 = b0 ∧ a1 = b1 ∧ a2 = b2 ∧ a3 = b3))) :=
  R_bin ho hx hy (fun w => by rw [hP]; exact run_eqGuard_agg w _ 60 x y _ _ Try.eqGuardType60) (fun w => by rw [hP]; exact seq60 a0 b0 a1 b1 a2 b2 a3 b3 w)
theorem sne60 (a0 b0 : Int) (a1 b1 : Int) (a2 b2 : Int) (a3 b3 : Int) (w : World) : (binOp .neq 60 (.agg #[.int .i64 a0, .int .i64 a1, .int .i64 a2, .int .u64 a3]) (.agg #[.int .i64 b0, .int .i64 b1, .int .i64 b2, .int .u64 b3])).run Try.prog w = .ok (.bool (decide (¬ (a0 = b0 ∧ a1 = b1 ∧ a2 = b2 ∧ a3 = b3)))) w := by
  rw [run_neq_struct, eqin60_10000]
  simp
theorem R_sne60 {X : Ctx} {E : Env} {H : Heap} {o : Oper} {x y : Operand} {t' : TypeId} {a0 b0 : Int} {a1 b1 : Int} {a2 b2 : Int} {a3 b3 : Int} (hP : X.P = Try.prog) (ho : o.op = .binOp .neq 60 x y t') (hx : ev E x = some (.agg #[.int .i64 a0, .int .i64 a1, .int .i64 a2, .int .u64 a3])) (hy : ev E y = some (.agg #[.int .i64 b0, .int .i64 b1, .int .i64 b2, .int .u64 b3])) : Runs X o E H (.bool (decide (¬ (a0 = b0 ∧ a1 = b1 ∧ a2 = b2 ∧ a3 = b3)))) :=
  R_bin ho hx hy (fun w => by rw [hP]; exact run_eqGuard_agg w _ 60 x y _ _ Try.eqGuardType60) (fun w => by rw [hP]; exact sne60 a0 b0 a1 b1 a2 b2 a3 b3 w)
set_option linter.unusedSimpArgs false in
theorem eqin61_10000 (a0 b0 : Int) (a1 b1 : Int) (a2 b2 : Int) (a3 b3 : Int) (w : World) : (Op.equalIn 10000 61 (.agg #[.int .i64 a0, .int .i64 a1, .int .i64 a2, .int .u64 a3]) (.agg #[.int .i64 b0, .int .i64 b1, .int .i64 b2, .int .u64 b3])).run Try.prog w = .ok (decide (a0 = b0 ∧ a1 = b1 ∧ a2 = b2 ∧ a3 = b3)) w := by
  rw [run_equalIn_struct w 9999 61 _ _ (by simp [Program.fieldsOf, Try.underlying61]) Try.stoodInHeld61]
  by_cases h0 : a0 = b0 <;> by_cases h1 : a1 = b1 <;> by_cases h2 : a2 = b2 <;> by_cases h3 : a3 = b3 <;> simp [Program.fieldsOf, Try.underlying61, Op.eqFields, part, Try.isAgg24, Try.isAgg26, Try.isAgg3, Try.sizeOf24, eqin24_9999, run_equalIn_int w 9998 26 .u64 .u64 _ _ Try.underlying26, run_equalIn_int w 9998 3 .i64 .i64 _ _ Try.underlying3, h0, h1, h2, h3]
theorem seq61 (a0 b0 : Int) (a1 b1 : Int) (a2 b2 : Int) (a3 b3 : Int) (w : World) : (binOp .eql 61 (.agg #[.int .i64 a0, .int .i64 a1, .int .i64 a2, .int .u64 a3]) (.agg #[.int .i64 b0, .int .i64 b1, .int .i64 b2, .int .u64 b3])).run Try.prog w = .ok (.bool (decide (a0 = b0 ∧ a1 = b1 ∧ a2 = b2 ∧ a3 = b3))) w := by
  rw [run_eql_struct, eqin61_10000]
  rfl
theorem R_seq61 {X : Ctx} {E : Env} {H : Heap} {o : Oper} {x y : Operand} {t' : TypeId} {a0 b0 : Int} {a1 b1 : Int} {a2 b2 : Int} {a3 b3 : Int} (hP : X.P = Try.prog) (ho : o.op = .binOp .eql 61 x y t') (hx : ev E x = some (.agg #[.int .i64 a0, .int .i64 a1, .int .i64 a2, .int .u64 a3])) (hy : ev E y = some (.agg #[.int .i64 b0, .int .i64 b1, .int .i64 b2, .int .u64 b3])) : Runs X o E H (.bool (decide (a0 = b0 ∧ a1 = b1 ∧ a2 = b2 ∧ a3 = b3))) :=
  R_bin ho hx hy (fun w => by rw [hP]; exact run_eqGuard_agg w _ 61 x y _ _ Try.eqGuardType61) (fun w => by rw [hP]; exact seq61 a0 b0 a1 b1 a2 b2 a3 b3 w)
theorem sne61 (a0 b0 : Int) (a1 b1 : Int) (a2 b2 : Int) (a3 b3 : Int) (w : World) : (binOp .neq 61 (.agg #[.int .i64 a0, .int .i64 a1, .int .i64 a2, .int .u64 a3]) (.agg #[.int .i64 b0, .int .i64 b1, .int .i64 b2, .int .u64 b3])).run Try.prog w = .ok (.bool (decide (¬ (a0 = b0 ∧ a1 = b1 ∧ a2 = b2 ∧ a3 = b3)))) w := by
  rw [run_neq_struct, eqin61_10000]
  simp
theorem R_sne61 {X : Ctx} {E : Env} {H : Heap} {o : Oper} {x y : Operand} {t' : TypeId} {a0 b0 : Int} {a1 b1 : Int} {a2 b2 : Int} {a3 b3 : Int} (hP : X.P = Try.prog) (ho : o.op = .binOp .neq 61 x y t') (hx : ev E x = some (.agg #[.int .i64 a0, .int .i64 a1, .int .i64 a2, .int .u64 a3])) (hy : ev E y = some (.agg #[.int .i64 b0, .int .i64 b1, .int .i64 b2, .int .u64 b3])) : Runs X o E H (.bool (decide (¬ (a0 = b0 ∧ a1 = b1 ∧ a2 = b2 ∧ a3 = b3)))) :=
  R_bin ho hx hy (fun w => by rw [hP]; exact run_eqGuard_agg w _ 61 x y _ _ Try.eqGuardType61) (fun w => by rw [hP]; exact sne61 a0 b0 a1 b1 a2 b2 a3 b3 w)
set_option linter.unusedSimpArgs false in
theorem eqin67_10000 (a0 b0 : Int) (a1 b1 : Int) (w : World) : (Op.equalIn 10000 67 (.agg #[.int .i64 a0, .int .i64 a1]) (.agg #[.int .i64 b0, .int .i64 b1])).run Try.prog w = .ok (decide (a0 = b0 ∧ a1 = b1)) w := by
  rw [run_equalIn_struct w 9999 67 _ _ (by simp [Program.fieldsOf, Try.underlying67]) Try.stoodInHeld67]
  by_cases h0 : a0 = b0 <;> by_cases h1 : a1 = b1 <;> simp [Program.fieldsOf, Try.underlying67, Op.eqFields, part, Try.isAgg3, run_equalIn_int w 9998 3 .i64 .i64 _ _ Try.underlying3, h0, h1]
theorem seq67 (a0 b0 : Int) (a1 b1 : Int) (w : World) : (binOp .eql 67 (.agg #[.int .i64 a0, .int .i64 a1]) (.agg #[.int .i64 b0, .int .i64 b1])).run Try.prog w = .ok (.bool (decide (a0 = b0 ∧ a1 = b1))) w := by
  rw [run_eql_struct, eqin67_10000]
  rfl
theorem R_seq67 {X : Ctx} {E : Env} {H : Heap} {o : Oper} {x y : Operand} {t' : TypeId} {a0 b0 : Int} {a1 b1 : Int} (hP : X.P = Try.prog) (ho : o.op = .binOp .eql 67 x y t') (hx : ev E x = some (.agg #[.int .i64 a0, .int .i64 a1])) (hy : ev E y = some (.agg #[.int .i64 b0, .int .i64 b1])) : Runs X o E H (.bool (decide (a0 = b0 ∧ a1 = b1))) :=
  R_bin ho hx hy (fun w => by rw [hP]; exact run_eqGuard_agg w _ 67 x y _ _ Try.eqGuardType67) (fun w => by rw [hP]; exact seq67 a0 b0 a1 b1 w)
theorem sne67 (a0 b0 : Int) (a1 b1 : Int) (w : World) : (binOp .neq 67 (.agg #[.int .i64 a0, .int .i64 a1]) (.agg #[.int .i64 b0, .int .i64 b1])).run Try.prog w = .ok (.bool (decide (¬ (a0 = b0 ∧ a1 = b1)))) w := by
  rw [run_neq_struct, eqin67_10000]
  simp
theorem R_sne67 {X : Ctx} {E : Env} {H : Heap} {o : Oper} {x y : Operand} {t' : TypeId} {a0 b0 : Int} {a1 b1 : Int} (hP : X.P = Try.prog) (ho : o.op = .binOp .neq 67 x y t') (hx : ev E x = some (.agg #[.int .i64 a0, .int .i64 a1])) (hy : ev E y = some (.agg #[.int .i64 b0, .int .i64 b1])) : Runs X o E H (.bool (decide (¬ (a0 = b0 ∧ a1 = b1)))) :=
  R_bin ho hx hy (fun w => by rw [hP]; exact run_eqGuard_agg w _ 67 x y _ _ Try.eqGuardType67) (fun w => by rw [hP]; exact sne67 a0 b0 a1 b1 w)
set_option linter.unusedSimpArgs false in
theorem eqin68_10000 (a0 b0 : Int) (a1 b1 : Int) (w : World) : (Op.equalIn 10000 68 (.agg #[.int .i64 a0, .int .i64 a1]) (.agg #[.int .i64 b0, .int .i64 b1])).run Try.prog w = .ok (decide (a0 = b0 ∧ a1 = b1)) w := by
  rw [run_equalIn_struct w 9999 68 _ _ (by simp [Program.fieldsOf, Try.underlying68]) Try.stoodInHeld68]
  by_cases h0 : a0 = b0 <;> by_cases h1 : a1 = b1 <;> simp [Program.fieldsOf, Try.underlying68, Op.eqFields, part, Try.isAgg3, run_equalIn_int w 9998 3 .i64 .i64 _ _ Try.underlying3, h0, h1]
theorem seq68 (a0 b0 : Int) (a1 b1 : Int) (w : World) : (binOp .eql 68 (.agg #[.int .i64 a0, .int .i64 a1]) (.agg #[.int .i64 b0, .int .i64 b1])).run Try.prog w = .ok (.bool (decide (a0 = b0 ∧ a1 = b1))) w := by
  rw [run_eql_struct, eqin68_10000]
  rfl
theorem R_seq68 {X : Ctx} {E : Env} {H : Heap} {o : Oper} {x y : Operand} {t' : TypeId} {a0 b0 : Int} {a1 b1 : Int} (hP : X.P = Try.prog) (ho : o.op = .binOp .eql 68 x y t') (hx : ev E x = some (.agg #[.int .i64 a0, .int .i64 a1])) (hy : ev E y = some (.agg #[.int .i64 b0, .int .i64 b1])) : Runs X o E H (.bool (decide (a0 = b0 ∧ a1 = b1))) :=
  R_bin ho hx hy (fun w => by rw [hP]; exact run_eqGuard_agg w _ 68 x y _ _ Try.eqGuardType68) (fun w => by rw [hP]; exact seq68 a0 b0 a1 b1 w)
theorem sne68 (a0 b0 : Int) (a1 b1 : Int) (w : World) : (binOp .neq 68 (.agg #[.int .i64 a0, .int .i64 a1]) (.agg #[.int .i64 b0, .int .i64 b1])).run Try.prog w = .ok (.bool (decide (¬ (a0 = b0 ∧ a1 = b1)))) w := by
  rw [run_neq_struct, eqin68_10000]
  simp
theorem R_sne68 {X : Ctx} {E : Env} {H : Heap} {o : Oper} {x y : Operand} {t' : TypeId} {a0 b0 : Int} {a1 b1 : Int} (hP : X.P = Try.prog) (ho : o.op = .binOp .neq 68 x y t') (hx : ev E x = some (.agg #[.int .i64 a0, .int .i64 a1])) (hy : ev E y = some (.agg #[.int .i64 b0, .int .i64 b1])) : Runs X o E H (.bool (decide (¬ (a0 = b0 ∧ a1 = b1)))) :=
  R_bin ho hx hy (fun w => by rw [hP]; exact run_eqGuard_agg w _ 68 x y _ _ Try.eqGuardType68) (fun w => by rw [hP]; exact sne68 a0 b0 a1 b1 w)
set_option linter.unusedSimpArgs false in
theorem eqin68_9999 (a0 b0 : Int) (a1 b1 : Int) (w : World) : (Op.equalIn 9999 68 (.agg #[.int .i64 a0, .int .i64 a1]) (.agg #[.int .i64 b0, .int .i64 b1])).run Try.prog w = .ok (decide (a0 = b0 ∧ a1 = b1)) w := by
  rw [run_equalIn_struct w 9998 68 _ _ (by simp [Program.fieldsOf, Try.underlying68]) Try.stoodInHeld68]
  by_cases h0 : a0 = b0 <;> by_cases h1 : a1 = b1 <;> simp [Program.fieldsOf, Try.underlying68, Op.eqFields, part, Try.isAgg3, run_equalIn_int w 9997 3 .i64 .i64 _ _ Try.underlying3, h0, h1]
set_option linter.unusedSimpArgs false in
theorem eqin69_10000 (a0 b0 : Int) (a1 b1 : Bool) (a2 b2 : Int) (a3 b3 : Int) (w : World) : (Op.equalIn 10000 69 (.agg #[.int .u64 a0, .bool a1, .int .i64 a2, .int .i64 a3]) (.agg #[.int .u64 b0, .bool b1, .int .i64 b2, .int .i64 b3])).run Try.prog w = .ok (decide (a0 = b0 ∧ a1 = b1 ∧ a2 = b2 ∧ a3 = b3)) w := by
  rw [run_equalIn_struct w 9999 69 _ _ (by simp [Program.fieldsOf, Try.underlying69]) Try.stoodInHeld69]
  by_cases h0 : a0 = b0 <;> by_cases h1 : a1 = b1 <;> by_cases h2 : a2 = b2 <;> by_cases h3 : a3 = b3 <;> simp [Program.fieldsOf, Try.underlying69, Op.eqFields, part, Try.isAgg26, Try.isAgg4, Try.isAgg68, Try.sizeOf68, eqin68_9999, run_equalIn_bool' w 9998 4 _ _ Try.underlying4, run_equalIn_int w 9998 26 .u64 .u64 _ _ Try.underlying26, h0, h1, h2, h3]
theorem seq69 (a0 b0 : Int) (a1 b1 : Bool) (a2 b2 : Int) (a3 b3 : Int) (w : World) : (binOp .eql 69 (.agg #[.int .u64 a0, .bool a1, .int .i64 a2, .int .i64 a3]) (.agg #[.int .u64 b0, .bool b1, .int .i64 b2, .int .i64 b3])).run Try.prog w = .ok (.bool (decide (a0 = b0 ∧ a1 = b1 ∧ a2 = b2 ∧ a3 = b3))) w := by
  rw [run_eql_struct, eqin69_10000]
  rfl
theorem R_seq69 {X : Ctx} {E : Env} {H : Heap} {o : Oper} {x y : Operand} {t' : TypeId} {a0 b0 : Int} {a1 b1 : Bool} {a2 b2 : Int} {a3 b3 : Int} (hP : X.P = Try.prog) (ho : o.op = .binOp .eql 69 x y t') (hx : ev E x = some (.agg #[.int .u64 a0, .bool a1, .int .i64 a2, .int .i64 a3])) (hy : ev E y = some (.agg #[.int .u64 b0, .bool b1, .int .i64 b2, .int .i64 b3])) : Runs X o E H (.bool (decide (a0 = b0 ∧ a1 = b1 ∧ a2 = b2 ∧ a3 = b3))) :=
  R_bin ho hx hy (fun w => by rw [hP]; exact run_eqGuard_agg w _ 69 x y _ _ Try.eqGuardType69) (fun w => by rw [hP]; exact seq69 a0 b0 a1 b1 a2 b2 a3 b3 w)
theorem sne69 (a0 b0 : Int) (a1 b1 : Bool) (a2 b2 : Int) (a3 b3 : Int) (w : World) : (binOp .neq 69 (.agg #[.int .u64 a0, .bool a1, .int .i64 a2, .int .i64 a3]) (.agg #[.int .u64 b0, .bool b1, .int .i64 b2, .int .i64 b3])).run Try.prog w = .ok (.bool (decide (¬ (a0 = b0 ∧ a1 = b1 ∧ a2 = b2 ∧ a3 = b3)))) w := by
  rw [run_neq_struct, eqin69_10000]
  simp
theorem R_sne69 {X : Ctx} {E : Env} {H : Heap} {o : Oper} {x y : Operand} {t' : TypeId} {a0 b0 : Int} {a1 b1 : Bool} {a2 b2 : Int} {a3 b3 : Int} (hP : X.P = Try.prog) (ho : o.op = .binOp .neq 69 x y t') (hx : ev E x = some (.agg #[.int .u64 a0, .bool a1, .int .i64 a2, .int .i64 a3])) (hy : ev E y = some (.agg #[.int .u64 b0, .bool b1, .int .i64 b2, .int .i64 b3])) : Runs X o E H (.bool (decide (¬ (a0 = b0 ∧ a1 = b1 ∧ a2 = b2 ∧ a3 = b3)))) :=
  R_bin ho hx hy (fun w => by rw [hP]; exact run_eqGuard_agg w _ 69 x y _ _ Try.eqGuardType69) (fun w => by rw [hP]; exact sne69 a0 b0 a1 b1 a2 b2 a3 b3 w)
set_option linter.unusedSimpArgs false in
theorem eqin70_10000 (a0 b0 : Int) (a1 b1 : Bool) (a2 b2 : Int) (a3 b3 : Int) (w : World) : (Op.equalIn 10000 70 (.agg #[.int .u64 a0, .bool a1, .int .i64 a2, .int .i64 a3]) (.agg #[.int .u64 b0, .bool b1, .int .i64 b2, .int .i64 b3])).run Try.prog w = .ok (decide (a0 = b0 ∧ a1 = b1 ∧ a2 = b2 ∧ a3 = b3)) w := by
  rw [run_equalIn_struct w 9999 70 _ _ (by simp [Program.fieldsOf, Try.underlying70]) Try.stoodInHeld70]
  by_cases h0 : a0 = b0 <;> by_cases h1 : a1 = b1 <;> by_cases h2 : a2 = b2 <;> by_cases h3 : a3 = b3 <;> simp [Program.fieldsOf, Try.underlying70, Op.eqFields, part, Try.isAgg26, Try.isAgg4, Try.isAgg68, Try.sizeOf68, eqin68_9999, run_equalIn_bool' w 9998 4 _ _ Try.underlying4, run_equalIn_int w 9998 26 .u64 .u64 _ _ Try.underlying26, h0, h1, h2, h3]
theorem seq70 (a0 b0 : Int) (a1 b1 : Bool) (a2 b2 : Int) (a3 b3 : Int) (w : World) : (binOp .eql 70 (.agg #[.int .u64 a0, .bool a1, .int .i64 a2, .int .i64 a3]) (.agg #[.int .u64 b0, .bool b1, .int .i64 b2, .int .i64 b3])).run Try.prog w = .ok (.bool (decide (a0 = b0 ∧ a1 = b1 ∧ a2 = b2 ∧ a3 = b3))) w := by
  rw [run_eql_struct, eqin70_10000]
  rfl
theorem R_seq70 {X : Ctx} {E : Env} {H : Heap} {o : Oper} {x y : Operand} {t' : TypeId} {a0 b0 : Int} {a1 b1 : Bool} {a2 b2 : Int} {a3 b3 : Int} (hP : X.P = Try.prog) (ho : o.op = .binOp .eql 70 x y t') (hx : ev E x = some (.agg #[.int .u64 a0, .bool a1, .int .i64 a2, .int .i64 a3])) (hy : ev E y = some (.agg #[.int .u64 b0, .bool b1, .int .i64 b2, .int .i64 b3])) : Runs X o E H (.bool (decide (a0 = b0 ∧ a1 = b1 ∧ a2 = b2 ∧ a3 = b3))) :=
  R_bin ho hx hy (fun w => by rw [hP]; exact run_eqGuard_agg w _ 70 x y _ _ Try.eqGuardType70) (fun w => by rw [hP]; exact seq70 a0 b0 a1 b1 a2 b2 a3 b3 w)
theorem sne70 (a0 b0 : Int) (a1 b1 : Bool) (a2 b2 : Int) (a3 b3 : Int) (w : World) : (binOp .neq 70 (.agg #[.int .u64 a0, .bool a1, .int .i64 a2, .int .i64 a3]) (.agg #[.int .u64 b0, .bool b1, .int .i64 b2, .int .i64 b3])).run Try.prog w = .ok (.bool (decide (¬ (a0 = b0 ∧ a1 = b1 ∧ a2 = b2 ∧ a3 = b3)))) w := by
  rw [run_neq_struct, eqin70_10000]
  simp
theorem R_sne70 {X : Ctx} {E : Env} {H : Heap} {o : Oper} {x y : Operand} {t' : TypeId} {a0 b0 : Int} {a1 b1 : Bool} {a2 b2 : Int} {a3 b3 : Int} (hP : X.P = Try.prog) (ho : o.op = .binOp .neq 70 x y t') (hx : ev E x = some (.agg #[.int .u64 a0, .bool a1, .int .i64 a2, .int .i64 a3])) (hy : ev E y = some (.agg #[.int .u64 b0, .bool b1, .int .i64 b2, .int .i64 b3])) : Runs X o E H (.bool (decide (¬ (a0 = b0 ∧ a1 = b1 ∧ a2 = b2 ∧ a3 = b3)))) :=
  R_bin ho hx hy (fun w => by rw [hP]; exact run_eqGuard_agg w _ 70 x y _ _ Try.eqGuardType70) (fun w => by rw [hP]; exact sne70 a0 b0 a1 b1 a2 b2 a3 b3 w)
set_option linter.unusedSimpArgs false in
theorem eqin93_10000 (a0 b0 : Int) (a1 b1 : Int) (a2 b2 : Int) (a3 b3 : Int) (w : World) : (Op.equalIn 10000 93 (.agg #[.int .i64 a0, .int .i64 a1, .int .i64 a2, .int .u64 a3]) (.agg #[.int .i64 b0, .int .i64 b1, .int .i64 b2, .int .u64 b3])).run Try.prog w = .ok (decide (a0 = b0 ∧ a1 = b1 ∧ a2 = b2 ∧ a3 = b3)) w := by
  rw [run_equalIn_struct w 9999 93 _ _ (by simp [Program.fieldsOf, Try.underlying93]) Try.stoodInHeld93]
  by_cases h0 : a0 = b0 <;> by_cases h1 : a1 = b1 <;> by_cases h2 : a2 = b2 <;> by_cases h3 : a3 = b3 <;> simp [Program.fieldsOf, Try.underlying93, Op.eqFields, part, Try.isAgg26, Try.isAgg3, Try.isAgg68, Try.sizeOf68, eqin68_9999, run_equalIn_int w 9998 26 .u64 .u64 _ _ Try.underlying26, run_equalIn_int w 9998 3 .i64 .i64 _ _ Try.underlying3, h0, h1, h2, h3]
theorem seq93 (a0 b0 : Int) (a1 b1 : Int) (a2 b2 : Int) (a3 b3 : Int) (w : World) : (binOp .eql 93 (.agg #[.int .i64 a0, .int .i64 a1, .int .i64 a2, .int .u64 a3]) (.agg #[.int .i64 b0, .int .i64 b1, .int .i64 b2, .int .u64 b3])).run Try.prog w = .ok (.bool (decide (a0 = b0 ∧ a1 = b1 ∧ a2 = b2 ∧ a3 = b3))) w := by
  rw [run_eql_struct, eqin93_10000]
  rfl
theorem R_seq93 {X : Ctx} {E : Env} {H : Heap} {o : Oper} {x y : Operand} {t' : TypeId} {a0 b0 : Int} {a1 b1 : Int} {a2 b2 : Int} {a3 b3 : Int} (hP : X.P = Try.prog) (ho : o.op = .binOp .eql 93 x y t') (hx : ev E x = some (.agg #[.int .i64 a0, .int .i64 a1, .int .i64 a2, .int .u64 a3])) (hy : ev E y = some (.agg #[.int .i64 b0, .int .i64 b1, .int .i64 b2, .int .u64 b3])) : Runs X o E H (.bool (decide (a0 = b0 ∧ a1 = b1 ∧ a2 = b2 ∧ a3 = b3))) :=
  R_bin ho hx hy (fun w => by rw [hP]; exact run_eqGuard_agg w _ 93 x y _ _ Try.eqGuardType93) (fun w => by rw [hP]; exact seq93 a0 b0 a1 b1 a2 b2 a3 b3 w)
theorem sne93 (a0 b0 : Int) (a1 b1 : Int) (a2 b2 : Int) (a3 b3 : Int) (w : World) : (binOp .neq 93 (.agg #[.int .i64 a0, .int .i64 a1, .int .i64 a2, .int .u64 a3]) (.agg #[.int .i64 b0, .int .i64 b1, .int .i64 b2, .int .u64 b3])).run Try.prog w = .ok (.bool (decide (¬ (a0 = b0 ∧ a1 = b1 ∧ a2 = b2 ∧ a3 = b3)))) w := by
  rw [run_neq_struct, eqin93_10000]
  simp
theorem R_sne93 {X : Ctx} {E : Env} {H : Heap} {o : Oper} {x y : Operand} {t' : TypeId} {a0 b0 : Int} {a1 b1 : Int} {a2 b2 : Int} {a3 b3 : Int} (hP : X.P = Try.prog) (ho : o.op = .binOp .neq 93 x y t') (hx : ev E x = some (.agg #[.int .i64 a0, .int .i64 a1, .int .i64 a2, .int .u64 a3])) (hy : ev E y = some (.agg #[.int .i64 b0, .int .i64 b1, .int .i64 b2, .int .u64 b3])) : Runs X o E H (.bool (decide (¬ (a0 = b0 ∧ a1 = b1 ∧ a2 = b2 ∧ a3 = b3)))) :=
  R_bin ho hx hy (fun w => by rw [hP]; exact run_eqGuard_agg w _ 93 x y _ _ Try.eqGuardType93) (fun w => by rw [hP]; exact sne93 a0 b0 a1 b1 a2 b2 a3 b3 w)
set_option linter.unusedSimpArgs false in
theorem eqin94_10000 (a0 b0 : Int) (a1 b1 : Int) (a2 b2 : Int) (a3 b3 : Int) (w : World) : (Op.equalIn 10000 94 (.agg #[.int .i64 a0, .int .i64 a1, .int .i64 a2, .int .u64 a3]) (.agg #[.int .i64 b0, .int .i64 b1, .int .i64 b2, .int .u64 b3])).run Try.prog w = .ok (decide (a0 = b0 ∧ a1 = b1 ∧ a2 = b2 ∧ a3 = b3)) w := by
  rw [run_equalIn_struct w 9999 94 _ _ (by simp [Program.fieldsOf, Try.underlying94]) Try.stoodInHeld94]
  by_cases h0 : a0 = b0 <;> by_cases h1 : a1 = b1 <;> by_cases h2 : a2 = b2 <;> by_cases h3 : a3 = b3 <;> simp [Program.fieldsOf, Try.underlying94, Op.eqFields, part, Try.isAgg26, Try.isAgg3, Try.isAgg68, Try.sizeOf68, eqin68_9999, run_equalIn_int w 9998 26 .u64 .u64 _ _ Try.underlying26, run_equalIn_int w 9998 3 .i64 .i64 _ _ Try.underlying3, h0, h1, h2, h3]
theorem seq94 (a0 b0 : Int) (a1 b1 : Int) (a2 b2 : Int) (a3 b3 : Int) (w : World) : (binOp .eql 94 (.agg #[.int .i64 a0, .int .i64 a1, .int .i64 a2, .int .u64 a3]) (.agg #[.int .i64 b0, .int .i64 b1, .int .i64 b2, .int .u64 b3])).run Try.prog w = .ok (.bool (decide (a0 = b0 ∧ a1 = b1 ∧ a2 = b2 ∧ a3 = b3))) w := by
  rw [run_eql_struct, eqin94_10000]
  rfl
theorem R_seq94 {X : Ctx} {E : Env} {H : Heap} {o : Oper} {x y : Operand} {t' : TypeId} {a0 b0 : Int} {a1 b1 : Int} {a2 b2 : Int} {a3 b3 : Int} (hP : X.P = Try.prog) (ho : o.op = .binOp .eql 94 x y t') (hx : ev E x = some (.agg #[.int .i64 a0, .int .i64 a1, .int .i64 a2, .int .u64 a3])) (hy : ev E y = some (.agg #[.int .i64 b0, .int .i64 b1, .int .i64 b2, .int .u64 b3])) : Runs X o E H (.bool (decide (a0 = b0 ∧ a1 = b1 ∧ a2 = b2 ∧ a3 = b3))) :=
  R_bin ho hx hy (fun w => by rw [hP]; exact run_eqGuard_agg w _ 94 x y _ _ Try.eqGuardType94) (fun w => by rw [hP]; exact seq94 a0 b0 a1 b1 a2 b2 a3 b3 w)
theorem sne94 (a0 b0 : Int) (a1 b1 : Int) (a2 b2 : Int) (a3 b3 : Int) (w : World) : (binOp .neq 94 (.agg #[.int .i64 a0, .int .i64 a1, .int .i64 a2, .int .u64 a3]) (.agg #[.int .i64 b0, .int .i64 b1, .int .i64 b2, .int .u64 b3])).run Try.prog w = .ok (.bool (decide (¬ (a0 = b0 ∧ a1 = b1 ∧ a2 = b2 ∧ a3 = b3)))) w := by
  rw [run_neq_struct, eqin94_10000]
  simp
theorem R_sne94 {X : Ctx} {E : Env} {H : Heap} {o : Oper} {x y : Operand} {t' : TypeId} {a0 b0 : Int} {a1 b1 : Int} {a2 b2 : Int} {a3 b3 : Int} (hP : X.P = Try.prog) (ho : o.op = .binOp .neq 94 x y t') (hx : ev E x = some (.agg #[.int .i64 a0, .int .i64 a1, .int .i64 a2, .int .u64 a3])) (hy : ev E y = some (.agg #[.int .i64 b0, .int .i64 b1, .int .i64 b2, .int .u64 b3])) : Runs X o E H (.bool (decide (¬ (a0 = b0 ∧ a1 = b1 ∧ a2 = b2 ∧ a3 = b3)))) :=
  R_bin ho hx hy (fun w => by rw [hP]; exact run_eqGuard_agg w _ 94 x y _ _ Try.eqGuardType94) (fun w => by rw [hP]; exact sne94 a0 b0 a1 b1 a2 b2 a3 b3 w)
set_option linter.unusedSimpArgs false in
theorem eqin112_10000 (a0 b0 : Bool) (a1 b1 : Int) (w : World) : (Op.equalIn 10000 112 (.agg #[.bool a0, .int .u64 a1]) (.agg #[.bool b0, .int .u64 b1])).run Try.prog w = .ok (decide (a0 = b0 ∧ a1 = b1)) w := by
  rw [run_equalIn_struct w 9999 112 _ _ (by simp [Program.fieldsOf, Try.underlying112]) Try.stoodInHeld112]
  by_cases h0 : a0 = b0 <;> by_cases h1 : a1 = b1 <;> simp [Program.fieldsOf, Try.underlying112, Op.eqFields, part, Try.isAgg26, Try.isAgg4, run_equalIn_bool' w 9998 4 _ _ Try.underlying4, run_equalIn_int w 9998 26 .u64 .u64 _ _ Try.underlying26, h0, h1]
theorem seq112 (a0 b0 : Bool) (a1 b1 : Int) (w : World) : (binOp .eql 112 (.agg #[.bool a0, .int .u64 a1]) (.agg #[.bool b0, .int .u64 b1])).run Try.prog w = .ok (.bool (decide (a0 = b0 ∧ a1 = b1))) w := by
  rw [run_eql_struct, eqin112_10000]
  rfl
theorem R_seq112 {X : Ctx} {E : Env} {H : Heap} {o : Oper} {x y : Operand} {t' : TypeId} {a0 b0 : Bool} {a1 b1 : Int} (hP : X.P = Try.prog) (ho : o.op = .binOp .eql 112 x y t') (hx : ev E x = some (.agg #[.bool a0, .int .u64 a1])) (hy : ev E y = some (.agg #[.bool b0, .int .u64 b1])) : Runs X o E H (.bool (decide (a0 = b0 ∧ a1 = b1))) :=
  R_bin ho hx hy (fun w => by rw [hP]; exact run_eqGuard_agg w _ 112 x y _ _ Try.eqGuardType112) (fun w => by rw [hP]; exact seq112 a0 b0 a1 b1 w)
theorem sne112 (a0 b0 : Bool) (a1 b1 : Int) (w : World) : (binOp .neq 112 (.agg #[.bool a0, .int .u64 a1]) (.agg #[.bool b0, .int .u64 b1])).run Try.prog w = .ok (.bool (decide (¬ (a0 = b0 ∧ a1 = b1)))) w := by
  rw [run_neq_struct, eqin112_10000]
  simp
theorem R_sne112 {X : Ctx} {E : Env} {H : Heap} {o : Oper} {x y : Operand} {t' : TypeId} {a0 b0 : Bool} {a1 b1 : Int} (hP : X.P = Try.prog) (ho : o.op = .binOp .neq 112 x y t') (hx : ev E x = some (.agg #[.bool a0, .int .u64 a1])) (hy : ev E y = some (.agg #[.bool b0, .int .u64 b1])) : Runs X o E H (.bool (decide (¬ (a0 = b0 ∧ a1 = b1)))) :=
  R_bin ho hx hy (fun w => by rw [hP]; exact run_eqGuard_agg w _ 112 x y _ _ Try.eqGuardType112) (fun w => by rw [hP]; exact sne112 a0 b0 a1 b1 w)
set_option linter.unusedSimpArgs false in
theorem eqin113_10000 (a0 b0 : Bool) (a1 b1 : Int) (w : World) : (Op.equalIn 10000 113 (.agg #[.bool a0, .int .u64 a1]) (.agg #[.bool b0, .int .u64 b1])).run Try.prog w = .ok (decide (a0 = b0 ∧ a1 = b1)) w := by
  rw [run_equalIn_struct w 9999 113 _ _ (by simp [Program.fieldsOf, Try.underlying113]) Try.stoodInHeld113]
  by_cases h0 : a0 = b0 <;> by_cases h1 : a1 = b1 <;> simp [Program.fieldsOf, Try.underlying113, Op.eqFields, part, Try.isAgg26, Try.isAgg4, run_equalIn_bool' w 9998 4 _ _ Try.underlying4, run_equalIn_int w 9998 26 .u64 .u64 _ _ Try.underlying26, h0, h1]
theorem seq113 (a0 b0 : Bool) (a1 b1 : Int) (w : World) : (binOp .eql 113 (.agg #[.bool a0, .int .u64 a1]) (.agg #[.bool b0, .int .u64 b1])).run Try.prog w = .ok (.bool (decide (a0 = b0 ∧ a1 = b1))) w := by
  rw [run_eql_struct, eqin113_10000]
  rfl
theorem R_seq113 {X : Ctx} {E : Env} {H : Heap} {o : Oper} {x y : Operand} {t' : TypeId} {a0 b0 : Bool} {a1 b1 : Int} (hP : X.P = Try.prog) (ho : o.op = .binOp .eql 113 x y t') (hx : ev E x = some (.agg #[.bool a0, .int .u64 a1])) (hy : ev E y = some (.agg #[.bool b0, .int .u64 b1])) : Runs X o E H (.bool (decide (a0 = b0 ∧ a1 = b1))) :=
  R_bin ho hx hy (fun w => by rw [hP]; exact run_eqGuard_agg w _ 113 x y _ _ Try.eqGuardType113) (fun w => by rw [hP]; exact seq113 a0 b0 a1 b1 w)
theorem sne113 (a0 b0 : Bool) (a1 b1 : Int) (w : World) : (binOp .neq 113 (.agg #[.bool a0, .int .u64 a1]) (.agg #[.bool b0, .int .u64 b1])).run Try.prog w = .ok (.bool (decide (¬ (a0 = b0 ∧ a1 = b1)))) w := by
  rw [run_neq_struct, eqin113_10000]
  simp
theorem R_sne113 {X : Ctx} {E : Env} {H : Heap} {o : Oper} {x y : Operand} {t' : TypeId} {a0 b0 : Bool} {a1 b1 : Int} (hP : X.P = Try.prog) (ho : o.op = .binOp .neq 113 x y t') (hx : ev E x = some (.agg #[.bool a0, .int .u64 a1])) (hy : ev E y = some (.agg #[.bool b0, .int .u64 b1])) : Runs X o E H (.bool (decide (¬ (a0 = b0 ∧ a1 = b1)))) :=
  R_bin ho hx hy (fun w => by rw [hP]; exact run_eqGuard_agg w _ 113 x y _ _ Try.eqGuardType113) (fun w => by rw [hP]; exact sne113 a0 b0 a1 b1 w)
set_option linter.unusedSimpArgs false in
theorem eqin140_10000 (a0 b0 : Int) (a1 b1 : Int) (a2 b2 : Int) (a3 b3 : Int) (w : World) : (Op.equalIn 10000 140 (.agg #[.int .u64 a0, .int .i64 a1, .int .u64 a2, .int .i64 a3]) (.agg #[.int .u64 b0, .int .i64 b1, .int .u64 b2, .int .i64 b3])).run Try.prog w = .ok (decide (a0 = b0 ∧ a1 = b1 ∧ a2 = b2 ∧ a3 = b3)) w := by
  rw [run_equalIn_struct w 9999 140 _ _ (by simp [Program.fieldsOf, Try.underlying140]) Try.stoodInHeld140]
  by_cases h0 : a0 = b0 <;> by_cases h1 : a1 = b1 <;> by_cases h2 : a2 = b2 <;> by_cases h3 : a3 = b3 <;> simp [Program.fieldsOf, Try.underlying140, Op.eqFields, part, Try.isAgg25, Try.isAgg26, Try.isAgg3, run_equalIn_int w 9998 25 .u64 .u64 _ _ Try.underlying25, run_equalIn_int w 9998 26 .u64 .u64 _ _ Try.underlying26, run_equalIn_int w 9998 3 .i64 .i64 _ _ Try.underlying3, h0, h1, h2, h3]
theorem seq140 (a0 b0 : Int) (a1 b1 : Int) (a2 b2 : Int) (a3 b3 : Int) (w : World) : (binOp .eql 140 (.agg #[.int .u64 a0, .int .i64 a1, .int .u64 a2, .int .i64 a3]) (.agg #[.int .u64 b0, .int .i64 b1, .int .u64 b2, .int .i64 b3])).run Try.prog w = .ok (.bool (decide (a0 = b0 ∧ a1 = b1 ∧ a2 = b2 ∧ a3 = b3))) w := by
  rw [run_eql_struct, eqin140_10000]
  rfl
theorem R_seq140 {X : Ctx} {E : Env} {H : Heap} {o : Oper} {x y : Operand} {t' : TypeId} {a0 b0 : Int} {a1 b1 : Int} {a2 b2 : Int} {a3 b3 : Int} (hP : X.P = Try.prog) (ho : o.op = .binOp .eql 140 x y t') (hx : ev E x = some (.agg #[.int .u64 a0, .int .i64 a1, .int .u64 a2, .int .i64 a3])) (hy : ev E y = some (.agg #[.int .u64 b0, .int .i64 b1, .int .u64 b2, .int .i64 b3])) : Runs X o E H (.bool (decide (a0 = b0 ∧ a1 = b1 ∧ a2 = b2 ∧ a3 = b3))) :=
  R_bin ho hx hy (fun w => by rw [hP]; exact run_eqGuard_agg w _ 140 x y _ _ Try.eqGuardType140) (fun w => by rw [hP]; exact seq140 a0 b0 a1 b1 a2 b2 a3 b3 w)
theorem sne140 (a0 b0 : Int) (a1 b1 : Int) (a2 b2 : Int) (a3 b3 : Int) (w : World) : (binOp .neq 140 (.agg #[.int .u64 a0, .int .i64 a1, .int .u64 a2, .int .i64 a3]) (.agg #[.int .u64 b0, .int .i64 b1, .int .u64 b2, .int .i64 b3])).run Try.prog w = .ok (.bool (decide (¬ (a0 = b0 ∧ a1 = b1 ∧ a2 = b2 ∧ a3 = b3)))) w := by
  rw [run_neq_struct, eqin140_10000]
  simp
theorem R_sne140 {X : Ctx} {E : Env} {H : Heap} {o : Oper} {x y : Operand} {t' : TypeId} {a0 b0 : Int} {a1 b1 : Int} {a2 b2 : Int} {a3 b3 : Int} (hP : X.P = Try.prog) (ho : o.op = .binOp .neq 140 x y t') (hx : ev E x = some (.agg #[.int .u64 a0, .int .i64 a1, .int .u64 a2, .int .i64 a3])) (hy : ev E y = some (.agg #[.int .u64 b0, .int .i64 b1, .int .u64 b2, .int .i64 b3])) : Runs X o E H (.bool (decide (¬ (a0 = b0 ∧ a1 = b1 ∧ a2 = b2 ∧ a3 = b3)))) :=
  R_bin ho hx hy (fun w => by rw [hP]; exact run_eqGuard_agg w _ 140 x y _ _ Try.eqGuardType140) (fun w => by rw [hP]; exact sne140 a0 b0 a1 b1 a2 b2 a3 b3 w)
set_option linter.unusedSimpArgs false in
theorem eqin141_10000 (a0 b0 : Int) (a1 b1 : Int) (a2 b2 : Int) (a3 b3 : Int) (w : World) : (Op.equalIn 10000 141 (.agg #[.int .u64 a0, .int .i64 a1, .int .u64 a2, .int .i64 a3]) (.agg #[.int .u64 b0, .int .i64 b1, .int .u64 b2, .int .i64 b3])).run Try.prog w = .ok (decide (a0 = b0 ∧ a1 = b1 ∧ a2 = b2 ∧ a3 = b3)) w := by
  rw [run_equalIn_struct w 9999 141 _ _ (by simp [Program.fieldsOf, Try.underlying141]) Try.stoodInHeld141]
  by_cases h0 : a0 = b0 <;> by_cases h1 : a1 = b1 <;> by_cases h2 : a2 = b2 <;> by_cases h3 : a3 = b3 <;> simp [Program.fieldsOf, Try.underlying141, Op.eqFields, part, Try.isAgg25, Try.isAgg26, Try.isAgg3, run_equalIn_int w 9998 25 .u64 .u64 _ _ Try.underlying25, run_equalIn_int w 9998 26 .u64 .u64 _ _ Try.underlying26, run_equalIn_int w 9998 3 .i64 .i64 _ _ Try.underlying3, h0, h1, h2, h3]
theorem seq141 (a0 b0 : Int) (a1 b1 : Int) (a2 b2 : Int) (a3 b3 : Int) (w : World) : (binOp .eql 141 (.agg #[.int .u64 a0, .int .i64 a1, .int .u64 a2, .int .i64 a3]) (.agg #[.int .u64 b0, .int .i64 b1, .int .u64 b2, .int .i64 b3])).run Try.prog w = .ok (.bool (decide (a0 = b0 ∧ a1 = b1 ∧ a2 = b2 ∧ a3 = b3))) w := by
  rw [run_eql_struct, eqin141_10000]
  rfl
theorem R_seq141 {X : Ctx} {E : Env} {H : Heap} {o : Oper} {x y : Operand} {t' : TypeId} {a0 b0 : Int} {a1 b1 : Int} {a2 b2 : Int} {a3 b3 : Int} (hP : X.P = Try.prog) (ho : o.op = .binOp .eql 141 x y t') (hx : ev E x = some (.agg #[.int .u64 a0, .int .i64 a1, .int .u64 a2, .int .i64 a3])) (hy : ev E y = some (.agg #[.int .u64 b0, .int .i64 b1, .int .u64 b2, .int .i64 b3])) : Runs X o E H (.bool (decide (a0 = b0 ∧ a1 = b1 ∧ a2 = b2 ∧ a3 = b3))) :=
  R_bin ho hx hy (fun w => by rw [hP]; exact run_eqGuard_agg w _ 141 x y _ _ Try.eqGuardType141) (fun w => by rw [hP]; exact seq141 a0 b0 a1 b1 a2 b2 a3 b3 w)
theorem sne141 (a0 b0 : Int) (a1 b1 : Int) (a2 b2 : Int) (a3 b3 : Int) (w : World) : (binOp .neq 141 (.agg #[.int .u64 a0, .int .i64 a1, .int .u64 a2, .int .i64 a3]) (.agg #[.int .u64 b0, .int .i64 b1, .int .u64 b2, .int .i64 b3])).run Try.prog w = .ok (.bool (decide (¬ (a0 = b0 ∧ a1 = b1 ∧ a2 = b2 ∧ a3 = b3)))) w := by
  rw [run_neq_struct, eqin141_10000]
  simp
theorem R_sne141 {X : Ctx} {E : Env} {H : Heap} {o : Oper} {x y : Operand} {t' : TypeId} {a0 b0 : Int} {a1 b1 : Int} {a2 b2 : Int} {a3 b3 : Int} (hP : X.P = Try.prog) (ho : o.op = .binOp .neq 141 x y t') (hx : ev E x = some (.agg #[.int .u64 a0, .int .i64 a1, .int .u64 a2, .int .i64 a3])) (hy : ev E y = some (.agg #[.int .u64 b0, .int .i64 b1, .int .u64 b2, .int .i64 b3])) : Runs X o E H (.bool (decide (¬ (a0 = b0 ∧ a1 = b1 ∧ a2 = b2 ∧ a3 = b3)))) :=
  R_bin ho hx hy (fun w => by rw [hP]; exact run_eqGuard_agg w _ 141 x y _ _ Try.eqGuardType141) (fun w => by rw [hP]; exact sne141 a0 b0 a1 b1 a2 b2 a3 b3 w)
theorem inf27 : Try.prog.info? 26 = some Try.t26 := by kernel_rfl
theorem si27 : SI Try.prog 27 26 1 8 [.int .u64 0] := ⟨Try.underlying27, Try.t26, _, inf27, rfl, rfl, rfl, rfl, rfl, by decide⟩
theorem inf42 : Try.prog.info? 40 = some Try.t40 := by kernel_rfl
theorem si42 : SI Try.prog 42 40 3 24 [.int .i64 0, .int .i64 0, .int .u64 0] := ⟨Try.underlying42, Try.t40, _, inf42, rfl, rfl, rfl, rfl, rfl, by decide⟩
theorem inf59 : Try.prog.info? 61 = some Try.t61 := by kernel_rfl
theorem si59 : SI Try.prog 59 61 4 32 [.int .i64 0, .int .i64 0, .int .i64 0, .int .u64 0] := ⟨Try.underlying59, Try.t61, _, inf59, rfl, rfl, rfl, rfl, rfl, by decide⟩
theorem inf75 : Try.prog.info? 30 = some Try.t30 := by kernel_rfl
theorem si75 : SI Try.prog 75 30 1 8 [.pointer none] := ⟨Try.underlying75, Try.t30, _, inf75, rfl, rfl, rfl, rfl, rfl, by decide⟩
theorem inf91 : Try.prog.info? 94 = some Try.t94 := by kernel_rfl
theorem si91 : SI Try.prog 91 94 4 32 [.int .i64 0, .int .i64 0, .int .i64 0, .int .u64 0] := ⟨Try.underlying91, Try.t94, _, inf91, rfl, rfl, rfl, rfl, rfl, by decide⟩
theorem inf116 : Try.prog.info? 3 = some Try.t3 := by kernel_rfl
theorem si116 : SI Try.prog 116 3 1 8 [.int .i64 0] := ⟨Try.underlying116, Try.t3, _, inf116, rfl, rfl, rfl, rfl, rfl, by decide⟩
theorem inf132 : Try.prog.info? 141 = some Try.t141 := by kernel_rfl
theorem si132 : SI Try.prog 132 141 4 32 [.int .u64 0, .int .i64 0, .int .u64 0, .int .i64 0] := ⟨Try.underlying132, Try.t141, _, inf132, rfl, rfl, rfl, rfl, rfl, by decide⟩
theorem zv1 : Zv Try.prog 1 [.nilFunc] := ⟨_, rfl, Try.zeroValue1⟩
theorem zv2 : Zv Try.prog 2 [.int .i64 0] := ⟨_, rfl, Try.zeroValue2⟩
theorem zv3 : Zv Try.prog 3 [.int .i64 0] := ⟨_, rfl, Try.zeroValue3⟩
theorem zv4 : Zv Try.prog 4 [.bool false] := ⟨_, rfl, Try.zeroValue4⟩
theorem zv5 : Zv Try.prog 5 [.int .u8 0] := ⟨_, rfl, Try.zeroValue5⟩
theorem zv7 : Zv Try.prog 7 [.int .i64 0, .int .i64 0, .bool false, .int .u8 0] := ⟨_, rfl, Try.zeroValue7⟩
theorem zv9 : Zv Try.prog 9 [.string ByteArray.empty] := ⟨_, rfl, Try.zeroValue9⟩
theorem zv12 : Zv Try.prog 12 [.int .u64 0] := ⟨_, rfl, Try.zeroValue12⟩
theorem zv13 : Zv Try.prog 13 [.string ByteArray.empty, .int .u64 0] := ⟨_, rfl, Try.zeroValue13⟩
theorem zv18 : Zv Try.prog 18 [.pointer none] := ⟨_, rfl, Try.zeroValue18⟩
theorem zv21 : Zv Try.prog 21 [.int .i32 0] := ⟨_, rfl, Try.zeroValue21⟩
theorem zv22 : Zv Try.prog 22 [.int .i64 0] := ⟨_, rfl, Try.zeroValue22⟩
theorem zv23 : Zv Try.prog 23 [.int .i64 0, .int .i64 0] := ⟨_, rfl, Try.zeroValue23⟩
theorem zv24 : Zv Try.prog 24 [.int .i64 0, .int .i64 0] := ⟨_, rfl, Try.zeroValue24⟩
theorem zv25 : Zv Try.prog 25 [.int .u64 0] := ⟨_, rfl, Try.zeroValue25⟩
theorem zv26 : Zv Try.prog 26 [.int .u64 0] := ⟨_, rfl, Try.zeroValue26⟩
theorem zv27 : Zv Try.prog 27 [.slice none 0 0] := ⟨_, rfl, Try.zeroValue27⟩
theorem zv28 : Zv Try.prog 28 [.nilFunc] := ⟨_, rfl, Try.zeroValue28⟩
theorem zv29 : Zv Try.prog 29 [.nilFunc] := ⟨_, rfl, Try.zeroValue29⟩
theorem zv30 : Zv Try.prog 30 [.pointer none] := ⟨_, rfl, Try.zeroValue30⟩
theorem zv31 : Zv Try.prog 31 [.int .i64 0] := ⟨_, rfl, Try.zeroValue31⟩
theorem zv33 : Zv Try.prog 33 [.nilFunc] := ⟨_, rfl, Try.zeroValue33⟩
theorem zv34 : Zv Try.prog 34 [.nilFunc] := ⟨_, rfl, Try.zeroValue34⟩
theorem zv36 : Zv Try.prog 36 [.nilFunc] := ⟨_, rfl, Try.zeroValue36⟩
theorem zv37 : Zv Try.prog 37 [.nilFunc] := ⟨_, rfl, Try.zeroValue37⟩
theorem zv38 : Zv Try.prog 38 [.nilFunc] := ⟨_, rfl, Try.zeroValue38⟩
theorem zv39 : Zv Try.prog 39 [.int .i64 0, .int .i64 0, .int .u64 0] := ⟨_, rfl, Try.zeroValue39⟩
theorem zv40 : Zv Try.prog 40 [.int .i64 0, .int .i64 0, .int .u64 0] := ⟨_, rfl, Try.zeroValue40⟩
theorem zv41 : Zv Try.prog 41 [.nilFunc] := ⟨_, rfl, Try.zeroValue41⟩
theorem zv42 : Zv Try.prog 42 [.slice none 0 0] := ⟨_, rfl, Try.zeroValue42⟩
theorem zv43 : Zv Try.prog 43 [.int .u64 0, .slice none 0 0] := ⟨_, rfl, Try.zeroValue43⟩
theorem zv44 : Zv Try.prog 44 [.int .u64 0, .slice none 0 0] := ⟨_, rfl, Try.zeroValue44⟩
theorem zv46 : Zv Try.prog 46 [.nilFunc] := ⟨_, rfl, Try.zeroValue46⟩
theorem zv47 : Zv Try.prog 47 [.nilFunc] := ⟨_, rfl, Try.zeroValue47⟩
theorem zv49 : Zv Try.prog 49 [.nilFunc] := ⟨_, rfl, Try.zeroValue49⟩
theorem zv51 : Zv Try.prog 51 [.nilFunc] := ⟨_, rfl, Try.zeroValue51⟩
theorem zv53 : Zv Try.prog 53 [.nilFunc] := ⟨_, rfl, Try.zeroValue53⟩
theorem zv55 : Zv Try.prog 55 [.nilFunc] := ⟨_, rfl, Try.zeroValue55⟩
theorem zv56 : Zv Try.prog 56 [.nilFunc] := ⟨_, rfl, Try.zeroValue56⟩
theorem zv57 : Zv Try.prog 57 [.nilFunc] := ⟨_, rfl, Try.zeroValue57⟩
theorem zv58 : Zv Try.prog 58 [.nilFunc] := ⟨_, rfl, Try.zeroValue58⟩
theorem zv59 : Zv Try.prog 59 [.slice none 0 0] := ⟨_, rfl, Try.zeroValue59⟩
theorem zv60 : Zv Try.prog 60 [.int .i64 0, .int .i64 0, .int .i64 0, .int .u64 0] := ⟨_, rfl, Try.zeroValue60⟩
theorem zv61 : Zv Try.prog 61 [.int .i64 0, .int .i64 0, .int .i64 0, .int .u64 0] := ⟨_, rfl, Try.zeroValue61⟩
theorem zv63 : Zv Try.prog 63 [.nilFunc] := ⟨_, rfl, Try.zeroValue63⟩
theorem zv64 : Zv Try.prog 64 [.nilFunc] := ⟨_, rfl, Try.zeroValue64⟩
theorem zv65 : Zv Try.prog 65 [.pointer none] := ⟨_, rfl, Try.zeroValue65⟩
theorem zv66 : Zv Try.prog 66 [.pointer none] := ⟨_, rfl, Try.zeroValue66⟩
theorem zv67 : Zv Try.prog 67 [.int .i64 0, .int .i64 0] := ⟨_, rfl, Try.zeroValue67⟩
theorem zv68 : Zv Try.prog 68 [.int .i64 0, .int .i64 0] := ⟨_, rfl, Try.zeroValue68⟩
theorem zv69 : Zv Try.prog 69 [.int .u64 0, .bool false, .int .i64 0, .int .i64 0] := ⟨_, rfl, Try.zeroValue69⟩
theorem zv70 : Zv Try.prog 70 [.int .u64 0, .bool false, .int .i64 0, .int .i64 0] := ⟨_, rfl, Try.zeroValue70⟩
theorem zv71 : Zv Try.prog 71 [.int .u64 0, .bool false, .int .i64 0, .int .i64 0, .int .u64 0, .bool false, .int .i64 0, .int .i64 0] := ⟨_, rfl, Try.zeroValue71⟩
theorem zv72 : Zv Try.prog 72 (List.replicate 128 (List.replicate 2 [.int .u64 0, .bool false, .int .i64 0, .int .i64 0]).flatten).flatten := ⟨_, by kernel_rfl, Try.zeroValue72⟩
theorem zv73 : Zv Try.prog 73 ([.pointer none, .pointer none] ++ (List.replicate 128 (List.replicate 2 [.int .u64 0, .bool false, .int .i64 0, .int .i64 0]).flatten).flatten) := ⟨_, by kernel_rfl, Try.zeroValue73⟩
theorem zv74 : Zv Try.prog 74 ([.pointer none, .pointer none] ++ (List.replicate 128 (List.replicate 2 [.int .u64 0, .bool false, .int .i64 0, .int .i64 0]).flatten).flatten) := ⟨_, by kernel_rfl, Try.zeroValue74⟩
theorem zv75 : Zv Try.prog 75 [.slice none 0 0] := ⟨_, rfl, Try.zeroValue75⟩
theorem zv76 : Zv Try.prog 76 [.nilFunc] := ⟨_, rfl, Try.zeroValue76⟩
theorem zv77 : Zv Try.prog 77 [.nilFunc] := ⟨_, rfl, Try.zeroValue77⟩
theorem zv78 : Zv Try.prog 78 [.nilFunc] := ⟨_, rfl, Try.zeroValue78⟩
theorem zv79 : Zv Try.prog 79 [.nilFunc] := ⟨_, rfl, Try.zeroValue79⟩
theorem zv80 : Zv Try.prog 80 [.nilFunc] := ⟨_, rfl, Try.zeroValue80⟩
theorem zv82 : Zv Try.prog 82 [.nilFunc] := ⟨_, rfl, Try.zeroValue82⟩
theorem zv83 : Zv Try.prog 83 [.nilFunc] := ⟨_, rfl, Try.zeroValue83⟩
theorem zv84 : Zv Try.prog 84 [.nilFunc] := ⟨_, rfl, Try.zeroValue84⟩
theorem zv85 : Zv Try.prog 85 [.pointer none] := ⟨_, rfl, Try.zeroValue85⟩
theorem zv86 : Zv Try.prog 86 [.nilFunc] := ⟨_, rfl, Try.zeroValue86⟩
theorem zv88 : Zv Try.prog 88 [.nilFunc] := ⟨_, rfl, Try.zeroValue88⟩
theorem zv89 : Zv Try.prog 89 [.nilFunc] := ⟨_, rfl, Try.zeroValue89⟩
theorem zv90 : Zv Try.prog 90 [.nilFunc] := ⟨_, rfl, Try.zeroValue90⟩
theorem zv91 : Zv Try.prog 91 [.slice none 0 0] := ⟨_, rfl, Try.zeroValue91⟩
theorem zv92 : Zv Try.prog 92 [.nilFunc] := ⟨_, rfl, Try.zeroValue92⟩
theorem zv93 : Zv Try.prog 93 [.int .i64 0, .int .i64 0, .int .i64 0, .int .u64 0] := ⟨_, rfl, Try.zeroValue93⟩
theorem zv94 : Zv Try.prog 94 [.int .i64 0, .int .i64 0, .int .i64 0, .int .u64 0] := ⟨_, rfl, Try.zeroValue94⟩
theorem zv95 : Zv Try.prog 95 [.int .i64 0, .int .i64 0] := ⟨_, rfl, Try.zeroValue95⟩
theorem zv96 : Zv Try.prog 96 [.int .i64 0, .int .i64 0] := ⟨_, rfl, Try.zeroValue96⟩
theorem zv97 : Zv Try.prog 97 [.nilFunc] := ⟨_, rfl, Try.zeroValue97⟩
theorem zv98 : Zv Try.prog 98 [.nilFunc] := ⟨_, rfl, Try.zeroValue98⟩
theorem zv99 : Zv Try.prog 99 [.nilFunc] := ⟨_, rfl, Try.zeroValue99⟩
theorem zv100 : Zv Try.prog 100 [.nilFunc] := ⟨_, rfl, Try.zeroValue100⟩
theorem zv101 : Zv Try.prog 101 [.nilFunc] := ⟨_, rfl, Try.zeroValue101⟩
theorem zv102 : Zv Try.prog 102 [.nilFunc] := ⟨_, rfl, Try.zeroValue102⟩
theorem zv103 : Zv Try.prog 103 [.nilFunc] := ⟨_, rfl, Try.zeroValue103⟩
theorem zv104 : Zv Try.prog 104 [.nilFunc] := ⟨_, rfl, Try.zeroValue104⟩
theorem zv105 : Zv Try.prog 105 [.nilFunc] := ⟨_, rfl, Try.zeroValue105⟩
theorem zv107 : Zv Try.prog 107 [.nilFunc] := ⟨_, rfl, Try.zeroValue107⟩
theorem zv109 : Zv Try.prog 109 [.nilFunc] := ⟨_, rfl, Try.zeroValue109⟩
theorem zv110 : Zv Try.prog 110 [.nilFunc] := ⟨_, rfl, Try.zeroValue110⟩
theorem zv111 : Zv Try.prog 111 [.nilFunc] := ⟨_, rfl, Try.zeroValue111⟩
theorem zv112 : Zv Try.prog 112 [.bool false, .int .u64 0] := ⟨_, rfl, Try.zeroValue112⟩
theorem zv113 : Zv Try.prog 113 [.bool false, .int .u64 0] := ⟨_, rfl, Try.zeroValue113⟩
theorem zv114 : Zv Try.prog 114 [.pointer none] := ⟨_, rfl, Try.zeroValue114⟩
theorem zv115 : Zv Try.prog 115 [.nilFunc] := ⟨_, rfl, Try.zeroValue115⟩
theorem zv116 : Zv Try.prog 116 [.slice none 0 0] := ⟨_, rfl, Try.zeroValue116⟩
theorem zv117 : Zv Try.prog 117 [.pointer none, .slice none 0 0] := ⟨_, rfl, Try.zeroValue117⟩
theorem zv118 : Zv Try.prog 118 [.pointer none, .slice none 0 0] := ⟨_, rfl, Try.zeroValue118⟩
theorem zv120 : Zv Try.prog 120 [.nilFunc] := ⟨_, rfl, Try.zeroValue120⟩
theorem zv122 : Zv Try.prog 122 [.nilFunc] := ⟨_, rfl, Try.zeroValue122⟩
theorem zv123 : Zv Try.prog 123 [.nilFunc] := ⟨_, rfl, Try.zeroValue123⟩
theorem zv124 : Zv Try.prog 124 [.nilFunc] := ⟨_, rfl, Try.zeroValue124⟩
theorem zv125 : Zv Try.prog 125 [.nilFunc] := ⟨_, rfl, Try.zeroValue125⟩
theorem zv126 : Zv Try.prog 126 [.nilFunc] := ⟨_, rfl, Try.zeroValue126⟩
theorem zv127 : Zv Try.prog 127 [.nilFunc] := ⟨_, rfl, Try.zeroValue127⟩
theorem zv128 : Zv Try.prog 128 [.int .u64 0] := ⟨_, rfl, Try.zeroValue128⟩
theorem zv129 : Zv Try.prog 129 [.nilFunc] := ⟨_, rfl, Try.zeroValue129⟩
theorem zv130 : Zv Try.prog 130 [.nilFunc] := ⟨_, rfl, Try.zeroValue130⟩
theorem zv131 : Zv Try.prog 131 [.nilFunc] := ⟨_, rfl, Try.zeroValue131⟩
theorem zv132 : Zv Try.prog 132 [.slice none 0 0] := ⟨_, rfl, Try.zeroValue132⟩
theorem zv133 : Zv Try.prog 133 [.nilFunc] := ⟨_, rfl, Try.zeroValue133⟩
theorem zv134 : Zv Try.prog 134 [.nilFunc] := ⟨_, rfl, Try.zeroValue134⟩
theorem zv135 : Zv Try.prog 135 [.slice none 0 0, .nilFunc, .nilFunc] := ⟨_, rfl, Try.zeroValue135⟩
theorem zv136 : Zv Try.prog 136 [.slice none 0 0, .nilFunc, .nilFunc] := ⟨_, rfl, Try.zeroValue136⟩
theorem zv137 : Zv Try.prog 137 [.bool false, .slice none 0 0, .int .u64 0, .slice none 0 0, .nilFunc, .nilFunc] := ⟨_, rfl, Try.zeroValue137⟩
theorem zv138 : Zv Try.prog 138 [.bool false, .slice none 0 0, .int .u64 0, .slice none 0 0, .nilFunc, .nilFunc] := ⟨_, rfl, Try.zeroValue138⟩
theorem zv139 : Zv Try.prog 139 [.nilFunc] := ⟨_, rfl, Try.zeroValue139⟩
theorem zv140 : Zv Try.prog 140 [.int .u64 0, .int .i64 0, .int .u64 0, .int .i64 0] := ⟨_, rfl, Try.zeroValue140⟩
theorem zv141 : Zv Try.prog 141 [.int .u64 0, .int .i64 0, .int .u64 0, .int .i64 0] := ⟨_, rfl, Try.zeroValue141⟩
theorem zv142 : Zv Try.prog 142 [.nilFunc] := ⟨_, rfl, Try.zeroValue142⟩
theorem zv143 : Zv Try.prog 143 [.nilFunc] := ⟨_, rfl, Try.zeroValue143⟩
theorem zv144 : Zv Try.prog 144 [.nilFunc] := ⟨_, rfl, Try.zeroValue144⟩
theorem zv145 : Zv Try.prog 145 [.nilFunc] := ⟨_, rfl, Try.zeroValue145⟩
theorem zv146 : Zv Try.prog 146 [.int .i64 0] := ⟨_, rfl, Try.zeroValue146⟩
theorem zv148 : Zv Try.prog 148 [.nilFunc] := ⟨_, rfl, Try.zeroValue148⟩
theorem zv149 : Zv Try.prog 149 [.nilFunc] := ⟨_, rfl, Try.zeroValue149⟩
theorem zv150 : Zv Try.prog 150 [.nilFunc] := ⟨_, rfl, Try.zeroValue150⟩
theorem zv152 : Zv Try.prog 152 [.nilFunc] := ⟨_, rfl, Try.zeroValue152⟩
theorem zv153 : Zv Try.prog 153 [.nilFunc] := ⟨_, rfl, Try.zeroValue153⟩
theorem zv154 : Zv Try.prog 154 [.int .u32 0] := ⟨_, rfl, Try.zeroValue154⟩
theorem zv155 : Zv Try.prog 155 [.nilFunc] := ⟨_, rfl, Try.zeroValue155⟩
theorem zv156 : Zv Try.prog 156 [.nilFunc] := ⟨_, rfl, Try.zeroValue156⟩
theorem zv157 : Zv Try.prog 157 [.pointer none] := ⟨_, rfl, Try.zeroValue157⟩
theorem zv158 : Zv Try.prog 158 [.int .u64 0] := ⟨_, rfl, Try.zeroValue158⟩
theorem zv159 : Zv Try.prog 159 [.nilFunc] := ⟨_, rfl, Try.zeroValue159⟩
theorem zv160 : Zv Try.prog 160 [.nilFunc] := ⟨_, rfl, Try.zeroValue160⟩
theorem zv161 : Zv Try.prog 161 [.nilFunc] := ⟨_, rfl, Try.zeroValue161⟩
theorem zv162 : Zv Try.prog 162 [.pointer none] := ⟨_, rfl, Try.zeroValue162⟩
theorem zv163 : Zv Try.prog 163 [.nilFunc] := ⟨_, rfl, Try.zeroValue163⟩
theorem zv164 : Zv Try.prog 164 [.pointer none] := ⟨_, rfl, Try.zeroValue164⟩
theorem zv166 : Zv Try.prog 166 [.nilFunc] := ⟨_, rfl, Try.zeroValue166⟩
theorem zv167 : Zv Try.prog 167 [.nilFunc] := ⟨_, rfl, Try.zeroValue167⟩
theorem zv168 : Zv Try.prog 168 [.pointer none, .pointer none, .pointer none, .string ByteArray.empty] := ⟨_, rfl, Try.zeroValue168⟩
theorem zv171 : Zv Try.prog 171 [] := ⟨_, rfl, Try.zeroValue171⟩
theorem zv173 : Zv Try.prog 173 [.nilFunc] := ⟨_, rfl, Try.zeroValue173⟩
theorem zv177 : Zv Try.prog 177 [.pointer none] := ⟨_, rfl, Try.zeroValue177⟩
theorem zv180 : Zv Try.prog 180 [.int .u64 0, .int .u64 0, .int .u32 0, .int .u8 0, .int .u8 0, .int .u8 0, .int .u8 0, .nilFunc, .pointer none, .int .i32 0, .int .i32 0] := ⟨_, rfl, Try.zeroValue180⟩
end Go.Proofs.Ytnkpefonocggfaa
