/-
  What the tables of types say.
-/
import Derived.Test.YtiomimjjdbijmaaRows
import Derived.Test.YtiomimjjdbijmaaSLMapJ
namespace Go.Proofs.Ytiomimjjdbijmaa
theorem followsMixed : Try.prog.follows .mixedOrders = true := by kernel_rfl
theorem ag7 : Ag Try.prog 7 4 := fun w => ⟨Try.isAgg7 w, Try.sizeOf7 w⟩
theorem ag13 : Ag Try.prog 13 2 := fun w => ⟨Try.isAgg13 w, Try.sizeOf13 w⟩
theorem ag18 : Ag Try.prog 18 1 := fun w => ⟨Try.isAgg18 w, Try.sizeOf18 w⟩
theorem ag22 : Ag Try.prog 22 2 := fun w => ⟨Try.isAgg22 w, Try.sizeOf22 w⟩
theorem ag23 : Ag Try.prog 23 2 := fun w => ⟨Try.isAgg23 w, Try.sizeOf23 w⟩
theorem ag40 : Ag Try.prog 40 4 := fun w => ⟨Try.isAgg40 w, Try.sizeOf40 w⟩
theorem ag41 : Ag Try.prog 41 4 := fun w => ⟨Try.isAgg41 w, Try.sizeOf41 w⟩
theorem ag55 : Ag Try.prog 55 3 := fun w => ⟨Try.isAgg55 w, Try.sizeOf55 w⟩
theorem ag56 : Ag Try.prog 56 3 := fun w => ⟨Try.isAgg56 w, Try.sizeOf56 w⟩
theorem ag59 : Ag Try.prog 59 1 := fun w => ⟨Try.isAgg59 w, Try.sizeOf59 w⟩
theorem ag60 : Ag Try.prog 60 1 := fun w => ⟨Try.isAgg60 w, Try.sizeOf60 w⟩
theorem ag112 : Ag Try.prog 112 4 := fun w => ⟨Try.isAgg112 w, Try.sizeOf112 w⟩
theorem ag115 : Ag Try.prog 115 0 := fun w => ⟨Try.isAgg115 w, Try.sizeOf115 w⟩
theorem ag123 : Ag Try.prog 123 11 := fun w => ⟨Try.isAgg123 w, Try.sizeOf123 w⟩
theorem fa7_0 : FldAt Try.prog 7 0 0 := FldAt.mk Try.underlying7 rfl rfl Try.sizeOf2 (by decide)
theorem fa7_1 : FldAt Try.prog 7 1 1 := FldAt.mk Try.underlying7 rfl rfl Try.sizeOf3 (by decide)
theorem fa7_2 : FldAt Try.prog 7 2 2 := FldAt.mk Try.underlying7 rfl rfl Try.sizeOf4 (by decide)
theorem fa7_3 : FldAt Try.prog 7 3 3 := FldAt.mk Try.underlying7 rfl rfl Try.sizeOf6 (by decide)
theorem fa13_0 : FldAt Try.prog 13 0 0 := FldAt.mk Try.underlying13 rfl rfl Try.sizeOf9 (by decide)
theorem fa13_1 : FldAt Try.prog 13 1 1 := FldAt.mk Try.underlying13 rfl rfl Try.sizeOf12 (by decide)
theorem fa18_0 : FldAt Try.prog 18 0 0 := FldAt.mk Try.underlying18 rfl rfl Try.sizeOf17 (by decide)
theorem fa22_0 : FldAt Try.prog 22 0 0 := FldAt.mk Try.underlying22 rfl rfl Try.sizeOf9 (by decide)
theorem fa22_1 : FldAt Try.prog 22 1 1 := FldAt.mk Try.underlying22 rfl rfl Try.sizeOf3 (by decide)
theorem fa23_0 : FldAt Try.prog 23 0 0 := FldAt.mk Try.underlying23 rfl rfl Try.sizeOf9 (by decide)
theorem fa23_1 : FldAt Try.prog 23 1 1 := FldAt.mk Try.underlying23 rfl rfl Try.sizeOf3 (by decide)
theorem fa40_0 : FldAt Try.prog 40 0 0 := FldAt.mk Try.underlying40 rfl rfl Try.sizeOf3 (by decide)
theorem fa40_1 : FldAt Try.prog 40 1 1 := FldAt.mk Try.underlying40 rfl rfl Try.sizeOf23 (by decide)
theorem fa40_2 : FldAt Try.prog 40 2 3 := FldAt.mk Try.underlying40 rfl rfl Try.sizeOf3 (by decide)
theorem fa41_0 : FldAt Try.prog 41 0 0 := FldAt.mk Try.underlying41 rfl rfl Try.sizeOf3 (by decide)
theorem fa41_1 : FldAt Try.prog 41 1 1 := FldAt.mk Try.underlying41 rfl rfl Try.sizeOf23 (by decide)
theorem fa41_2 : FldAt Try.prog 41 2 3 := FldAt.mk Try.underlying41 rfl rfl Try.sizeOf3 (by decide)
theorem fa55_0 : FldAt Try.prog 55 0 0 := FldAt.mk Try.underlying55 rfl rfl Try.sizeOf23 (by decide)
theorem fa55_1 : FldAt Try.prog 55 1 2 := FldAt.mk Try.underlying55 rfl rfl Try.sizeOf3 (by decide)
theorem fa56_0 : FldAt Try.prog 56 0 0 := FldAt.mk Try.underlying56 rfl rfl Try.sizeOf23 (by decide)
theorem fa56_1 : FldAt Try.prog 56 1 2 := FldAt.mk Try.underlying56 rfl rfl Try.sizeOf3 (by decide)
theorem fa59_0 : FldAt Try.prog 59 0 0 := FldAt.mk Try.underlying59 rfl rfl Try.sizeOf58 (by decide)
theorem fa60_0 : FldAt Try.prog 60 0 0 := FldAt.mk Try.underlying60 rfl rfl Try.sizeOf58 (by decide)
theorem fa112_0 : FldAt Try.prog 112 0 0 := FldAt.mk Try.underlying112 rfl rfl Try.sizeOf17 (by decide)
theorem fa112_1 : FldAt Try.prog 112 1 1 := FldAt.mk Try.underlying112 rfl rfl Try.sizeOf17 (by decide)
theorem fa112_2 : FldAt Try.prog 112 2 2 := FldAt.mk Try.underlying112 rfl rfl Try.sizeOf17 (by decide)
theorem fa112_3 : FldAt Try.prog 112 3 3 := FldAt.mk Try.underlying112 rfl rfl Try.sizeOf9 (by decide)
theorem fa123_0 : FldAt Try.prog 123 0 0 := FldAt.mk Try.underlying123 rfl rfl Try.sizeOf12 (by decide)
theorem fa123_1 : FldAt Try.prog 123 1 1 := FldAt.mk Try.underlying123 rfl rfl Try.sizeOf12 (by decide)
theorem fa123_2 : FldAt Try.prog 123 2 2 := FldAt.mk Try.underlying123 rfl rfl Try.sizeOf99 (by decide)
theorem fa123_3 : FldAt Try.prog 123 3 3 := FldAt.mk Try.underlying123 rfl rfl Try.sizeOf117 (by decide)
theorem fa123_4 : FldAt Try.prog 123 4 4 := FldAt.mk Try.underlying123 rfl rfl Try.sizeOf5 (by decide)
theorem fa123_5 : FldAt Try.prog 123 5 5 := FldAt.mk Try.underlying123 rfl rfl Try.sizeOf5 (by decide)
theorem fa123_6 : FldAt Try.prog 123 6 6 := FldAt.mk Try.underlying123 rfl rfl Try.sizeOf118 (by decide)
theorem fa123_7 : FldAt Try.prog 123 7 7 := FldAt.mk Try.underlying123 rfl rfl Try.sizeOf119 (by decide)
theorem fa123_8 : FldAt Try.prog 123 8 8 := FldAt.mk Try.underlying123 rfl rfl Try.sizeOf120 (by decide)
theorem fa123_9 : FldAt Try.prog 123 9 9 := FldAt.mk Try.underlying123 rfl rfl Try.sizeOf121 (by decide)
theorem fa123_10 : FldAt Try.prog 123 10 10 := FldAt.mk Try.underlying123 rfl rfl Try.sizeOf122 (by decide)
theorem pl7 : Places Try.prog 7 [(0, 1), (1, 1), (2, 1), (3, 1)] := ⟨_, Try.underlying7, fun w => by simp [Try.sizeOf2, Try.sizeOf3, Try.sizeOf4, Try.sizeOf6]⟩
theorem pl13 : Places Try.prog 13 [(0, 1), (1, 1)] := ⟨_, Try.underlying13, fun w => by simp [Try.sizeOf12, Try.sizeOf9]⟩
theorem pl18 : Places Try.prog 18 [(0, 1)] := ⟨_, Try.underlying18, fun w => by simp [Try.sizeOf17]⟩
theorem pl22 : Places Try.prog 22 [(0, 1), (1, 1)] := ⟨_, Try.underlying22, fun w => by simp [Try.sizeOf3, Try.sizeOf9]⟩
theorem pl23 : Places Try.prog 23 [(0, 1), (1, 1)] := ⟨_, Try.underlying23, fun w => by simp [Try.sizeOf3, Try.sizeOf9]⟩
theorem pl40 : Places Try.prog 40 [(0, 1), (1, 2), (3, 1)] := ⟨_, Try.underlying40, fun w => by simp [Try.sizeOf23, Try.sizeOf3]⟩
theorem pl41 : Places Try.prog 41 [(0, 1), (1, 2), (3, 1)] := ⟨_, Try.underlying41, fun w => by simp [Try.sizeOf23, Try.sizeOf3]⟩
theorem pl55 : Places Try.prog 55 [(0, 2), (2, 1)] := ⟨_, Try.underlying55, fun w => by simp [Try.sizeOf23, Try.sizeOf3]⟩
theorem pl56 : Places Try.prog 56 [(0, 2), (2, 1)] := ⟨_, Try.underlying56, fun w => by simp [Try.sizeOf23, Try.sizeOf3]⟩
theorem pl59 : Places Try.prog 59 [(0, 1)] := ⟨_, Try.underlying59, fun w => by simp [Try.sizeOf58]⟩
theorem pl60 : Places Try.prog 60 [(0, 1)] := ⟨_, Try.underlying60, fun w => by simp [Try.sizeOf58]⟩
theorem pl112 : Places Try.prog 112 [(0, 1), (1, 1), (2, 1), (3, 1)] := ⟨_, Try.underlying112, fun w => by simp [Try.sizeOf17, Try.sizeOf9]⟩
theorem pl115 : Places Try.prog 115 [(0, 0)] := ⟨_, Try.underlying115, fun w => by simp [Try.sizeOf114]⟩
theorem pl123 : Places Try.prog 123 [(0, 1), (1, 1), (2, 1), (3, 1), (4, 1), (5, 1), (6, 1), (7, 1), (8, 1), (9, 1), (10, 1)] := ⟨_, Try.underlying123, fun w => by simp [Try.sizeOf117, Try.sizeOf118, Try.sizeOf119, Try.sizeOf12, Try.sizeOf120, Try.sizeOf121, Try.sizeOf122, Try.sizeOf5, Try.sizeOf99]⟩
theorem sc1 : Sc Try.prog 1 := fun w => ⟨Try.isAgg1 w, Try.sizeOf1 w⟩
theorem sc2 : Sc Try.prog 2 := fun w => ⟨Try.isAgg2 w, Try.sizeOf2 w⟩
theorem sc3 : Sc Try.prog 3 := fun w => ⟨Try.isAgg3 w, Try.sizeOf3 w⟩
theorem sc4 : Sc Try.prog 4 := fun w => ⟨Try.isAgg4 w, Try.sizeOf4 w⟩
theorem sc5 : Sc Try.prog 5 := fun w => ⟨Try.isAgg5 w, Try.sizeOf5 w⟩
theorem sc9 : Sc Try.prog 9 := fun w => ⟨Try.isAgg9 w, Try.sizeOf9 w⟩
theorem sc12 : Sc Try.prog 12 := fun w => ⟨Try.isAgg12 w, Try.sizeOf12 w⟩
theorem sc21 : Sc Try.prog 21 := fun w => ⟨Try.isAgg21 w, Try.sizeOf21 w⟩
theorem sc24 : Sc Try.prog 24 := fun w => ⟨Try.isAgg24 w, Try.sizeOf24 w⟩
theorem sc25 : Sc Try.prog 25 := fun w => ⟨Try.isAgg25 w, Try.sizeOf25 w⟩
theorem sc26 : Sc Try.prog 26 := fun w => ⟨Try.isAgg26 w, Try.sizeOf26 w⟩
theorem sc27 : Sc Try.prog 27 := fun w => ⟨Try.isAgg27 w, Try.sizeOf27 w⟩
theorem sc28 : Sc Try.prog 28 := fun w => ⟨Try.isAgg28 w, Try.sizeOf28 w⟩
theorem sc29 : Sc Try.prog 29 := fun w => ⟨Try.isAgg29 w, Try.sizeOf29 w⟩
theorem sc31 : Sc Try.prog 31 := fun w => ⟨Try.isAgg31 w, Try.sizeOf31 w⟩
theorem sc32 : Sc Try.prog 32 := fun w => ⟨Try.isAgg32 w, Try.sizeOf32 w⟩
theorem sc33 : Sc Try.prog 33 := fun w => ⟨Try.isAgg33 w, Try.sizeOf33 w⟩
theorem sc34 : Sc Try.prog 34 := fun w => ⟨Try.isAgg34 w, Try.sizeOf34 w⟩
theorem sc35 : Sc Try.prog 35 := fun w => ⟨Try.isAgg35 w, Try.sizeOf35 w⟩
theorem sc36 : Sc Try.prog 36 := fun w => ⟨Try.isAgg36 w, Try.sizeOf36 w⟩
theorem sc37 : Sc Try.prog 37 := fun w => ⟨Try.isAgg37 w, Try.sizeOf37 w⟩
theorem sc38 : Sc Try.prog 38 := fun w => ⟨Try.isAgg38 w, Try.sizeOf38 w⟩
theorem sc39 : Sc Try.prog 39 := fun w => ⟨Try.isAgg39 w, Try.sizeOf39 w⟩
theorem sc43 : Sc Try.prog 43 := fun w => ⟨Try.isAgg43 w, Try.sizeOf43 w⟩
theorem sc44 : Sc Try.prog 44 := fun w => ⟨Try.isAgg44 w, Try.sizeOf44 w⟩
theorem sc45 : Sc Try.prog 45 := fun w => ⟨Try.isAgg45 w, Try.sizeOf45 w⟩
theorem sc47 : Sc Try.prog 47 := fun w => ⟨Try.isAgg47 w, Try.sizeOf47 w⟩
theorem sc48 : Sc Try.prog 48 := fun w => ⟨Try.isAgg48 w, Try.sizeOf48 w⟩
theorem sc50 : Sc Try.prog 50 := fun w => ⟨Try.isAgg50 w, Try.sizeOf50 w⟩
theorem sc51 : Sc Try.prog 51 := fun w => ⟨Try.isAgg51 w, Try.sizeOf51 w⟩
theorem sc52 : Sc Try.prog 52 := fun w => ⟨Try.isAgg52 w, Try.sizeOf52 w⟩
theorem sc53 : Sc Try.prog 53 := fun w => ⟨Try.isAgg53 w, Try.sizeOf53 w⟩
theorem sc54 : Sc Try.prog 54 := fun w => ⟨Try.isAgg54 w, Try.sizeOf54 w⟩
theorem sc57 : Sc Try.prog 57 := fun w => ⟨Try.isAgg57 w, Try.sizeOf57 w⟩
theorem sc58 : Sc Try.prog 58 := fun w => ⟨Try.isAgg58 w, Try.sizeOf58 w⟩
theorem sc61 : Sc Try.prog 61 := fun w => ⟨Try.isAgg61 w, Try.sizeOf61 w⟩
theorem sc62 : Sc Try.prog 62 := fun w => ⟨Try.isAgg62 w, Try.sizeOf62 w⟩
theorem sc63 : Sc Try.prog 63 := fun w => ⟨Try.isAgg63 w, Try.sizeOf63 w⟩
theorem sc64 : Sc Try.prog 64 := fun w => ⟨Try.isAgg64 w, Try.sizeOf64 w⟩
theorem sc65 : Sc Try.prog 65 := fun w => ⟨Try.isAgg65 w, Try.sizeOf65 w⟩
theorem sc66 : Sc Try.prog 66 := fun w => ⟨Try.isAgg66 w, Try.sizeOf66 w⟩
theorem sc67 : Sc Try.prog 67 := fun w => ⟨Try.isAgg67 w, Try.sizeOf67 w⟩
theorem sc69 : Sc Try.prog 69 := fun w => ⟨Try.isAgg69 w, Try.sizeOf69 w⟩
theorem sc71 : Sc Try.prog 71 := fun w => ⟨Try.isAgg71 w, Try.sizeOf71 w⟩
theorem sc72 : Sc Try.prog 72 := fun w => ⟨Try.isAgg72 w, Try.sizeOf72 w⟩
theorem sc73 : Sc Try.prog 73 := fun w => ⟨Try.isAgg73 w, Try.sizeOf73 w⟩
theorem sc74 : Sc Try.prog 74 := fun w => ⟨Try.isAgg74 w, Try.sizeOf74 w⟩
theorem sc75 : Sc Try.prog 75 := fun w => ⟨Try.isAgg75 w, Try.sizeOf75 w⟩
theorem sc76 : Sc Try.prog 76 := fun w => ⟨Try.isAgg76 w, Try.sizeOf76 w⟩
theorem sc77 : Sc Try.prog 77 := fun w => ⟨Try.isAgg77 w, Try.sizeOf77 w⟩
theorem sc78 : Sc Try.prog 78 := fun w => ⟨Try.isAgg78 w, Try.sizeOf78 w⟩
theorem sc79 : Sc Try.prog 79 := fun w => ⟨Try.isAgg79 w, Try.sizeOf79 w⟩
theorem sc80 : Sc Try.prog 80 := fun w => ⟨Try.isAgg80 w, Try.sizeOf80 w⟩
theorem sc81 : Sc Try.prog 81 := fun w => ⟨Try.isAgg81 w, Try.sizeOf81 w⟩
theorem sc82 : Sc Try.prog 82 := fun w => ⟨Try.isAgg82 w, Try.sizeOf82 w⟩
theorem sc83 : Sc Try.prog 83 := fun w => ⟨Try.isAgg83 w, Try.sizeOf83 w⟩
theorem sc84 : Sc Try.prog 84 := fun w => ⟨Try.isAgg84 w, Try.sizeOf84 w⟩
theorem sc85 : Sc Try.prog 85 := fun w => ⟨Try.isAgg85 w, Try.sizeOf85 w⟩
theorem sc86 : Sc Try.prog 86 := fun w => ⟨Try.isAgg86 w, Try.sizeOf86 w⟩
theorem sc87 : Sc Try.prog 87 := fun w => ⟨Try.isAgg87 w, Try.sizeOf87 w⟩
theorem sc88 : Sc Try.prog 88 := fun w => ⟨Try.isAgg88 w, Try.sizeOf88 w⟩
theorem sc89 : Sc Try.prog 89 := fun w => ⟨Try.isAgg89 w, Try.sizeOf89 w⟩
theorem sc90 : Sc Try.prog 90 := fun w => ⟨Try.isAgg90 w, Try.sizeOf90 w⟩
theorem sc91 : Sc Try.prog 91 := fun w => ⟨Try.isAgg91 w, Try.sizeOf91 w⟩
theorem sc92 : Sc Try.prog 92 := fun w => ⟨Try.isAgg92 w, Try.sizeOf92 w⟩
theorem sc94 : Sc Try.prog 94 := fun w => ⟨Try.isAgg94 w, Try.sizeOf94 w⟩
theorem sc95 : Sc Try.prog 95 := fun w => ⟨Try.isAgg95 w, Try.sizeOf95 w⟩
theorem sc96 : Sc Try.prog 96 := fun w => ⟨Try.isAgg96 w, Try.sizeOf96 w⟩
theorem sc97 : Sc Try.prog 97 := fun w => ⟨Try.isAgg97 w, Try.sizeOf97 w⟩
theorem sc98 : Sc Try.prog 98 := fun w => ⟨Try.isAgg98 w, Try.sizeOf98 w⟩
theorem sc99 : Sc Try.prog 99 := fun w => ⟨Try.isAgg99 w, Try.sizeOf99 w⟩
theorem sc100 : Sc Try.prog 100 := fun w => ⟨Try.isAgg100 w, Try.sizeOf100 w⟩
theorem sc101 : Sc Try.prog 101 := fun w => ⟨Try.isAgg101 w, Try.sizeOf101 w⟩
theorem sc102 : Sc Try.prog 102 := fun w => ⟨Try.isAgg102 w, Try.sizeOf102 w⟩
theorem sc103 : Sc Try.prog 103 := fun w => ⟨Try.isAgg103 w, Try.sizeOf103 w⟩
theorem sc104 : Sc Try.prog 104 := fun w => ⟨Try.isAgg104 w, Try.sizeOf104 w⟩
theorem sc105 : Sc Try.prog 105 := fun w => ⟨Try.isAgg105 w, Try.sizeOf105 w⟩
theorem sc106 : Sc Try.prog 106 := fun w => ⟨Try.isAgg106 w, Try.sizeOf106 w⟩
theorem sc107 : Sc Try.prog 107 := fun w => ⟨Try.isAgg107 w, Try.sizeOf107 w⟩
theorem sc108 : Sc Try.prog 108 := fun w => ⟨Try.isAgg108 w, Try.sizeOf108 w⟩
theorem sc110 : Sc Try.prog 110 := fun w => ⟨Try.isAgg110 w, Try.sizeOf110 w⟩
theorem sc111 : Sc Try.prog 111 := fun w => ⟨Try.isAgg111 w, Try.sizeOf111 w⟩
theorem sc120 : Sc Try.prog 120 := fun w => ⟨Try.isAgg120 w, Try.sizeOf120 w⟩
set_option linter.unusedSimpArgs false in
theorem eqin23_10000 (a0 b0 : ByteArray) (a1 b1 : Int) (w : World) : (Op.equalIn 10000 23 (.agg #[.string a0, .int .i64 a1]) (.agg #[.string b0, .int .i64 b1])).run Try.prog w = .ok (decide (a0 = b0 ∧ a1 = b1)) w := by
  rw [run_equalIn_struct w 9999 23 _ _ (by simp [Program.fieldsOf, Try.underlying23]) Try.stoodInHeld23]
  by_cases h0 : a0 = b0 <;> by_cases h1 : a1 = b1 <;> simp [Program.fieldsOf, Try.underlying23, Op.eqFields, part, Try.isAgg3, Try.isAgg9, run_eqStr w 9998 9 _ _ Try.underlying9, run_equalIn_int w 9998 3 .i64 .i64 _ _ Try.underlying3, h0, h1]
theorem seq23 (a0 b0 : ByteArray) (a1 b1 : Int) (w : World) : (binOp .eql 23 (.agg #[.string a0, .int .i64 a1]) (.agg #[.string b0, .int .i64 b1])).run Try.prog w = .ok (.bool (decide (a0 = b0 ∧ a1 = b1))) w := by
  rw [run_eql_struct, eqin23_10000]
  rfl
theorem R_seq23 {X : Ctx} {E : Env} {H : Heap} {o : Oper} {x y : Operand} {t' : TypeId} {a0 b0 : ByteArray} {a1 b1 : Int} (hP : X.P = Try.prog) (ho : o.op = .binOp .eql 23 x y t') (hx : ev E x = some (.agg #[.string a0, .int .i64 a1])) (hy : ev E y = some (.agg #[.string b0, .int .i64 b1])) : Runs X o E H (.bool (decide (a0 = b0 ∧ a1 = b1))) :=
  R_bin ho hx hy (fun w => by rw [hP]; exact run_eqGuard_agg w _ 23 x y _ _ Try.eqGuardType23) (fun w => by rw [hP]; exact seq23 a0 b0 a1 b1 w)
theorem sne23 (a0 b0 : ByteArray) (a1 b1 : Int) (w : World) : (binOp .neq 23 (.agg #[.string a0, .int .i64 a1]) (.agg #[.string b0, .int .i64 b1])).run Try.prog w = .ok (.bool (decide (¬ (a0 = b0 ∧ a1 = b1)))) w := by
  rw [run_neq_struct, eqin23_10000]
  simp
theorem R_sne23 {X : Ctx} {E : Env} {H : Heap} {o : Oper} {x y : Operand} {t' : TypeId} {a0 b0 : ByteArray} {a1 b1 : Int} (hP : X.P = Try.prog) (ho : o.op = .binOp .neq 23 x y t') (hx : ev E x = some (.agg #[.string a0, .int .i64 a1])) (hy : ev E y = some (.agg #[.string b0, .int .i64 b1])) : Runs X o E H (.bool (decide (¬ (a0 = b0 ∧ a1 = b1)))) :=
  R_bin ho hx hy (fun w => by rw [hP]; exact run_eqGuard_agg w _ 23 x y _ _ Try.eqGuardType23) (fun w => by rw [hP]; exact sne23 a0 b0 a1 b1 w)
set_option linter.unusedSimpArgs false in
theorem eqin23_9999 (a0 b0 : ByteArray) (a1 b1 : Int) (w : World) : (Op.equalIn 9999 23 (.agg #[.string a0, .int .i64 a1]) (.agg #[.string b0, .int .i64 b1])).run Try.prog w = .ok (decide (a0 = b0 ∧ a1 = b1)) w := by
  rw [run_equalIn_struct w 9998 23 _ _ (by simp [Program.fieldsOf, Try.underlying23]) Try.stoodInHeld23]
  by_cases h0 : a0 = b0 <;> by_cases h1 : a1 = b1 <;> simp [Program.fieldsOf, Try.underlying23, Op.eqFields, part, Try.isAgg3, Try.isAgg9, run_eqStr w 9997 9 _ _ Try.underlying9, run_equalIn_int w 9997 3 .i64 .i64 _ _ Try.underlying3, h0, h1]
set_option linter.unusedSimpArgs false in
theorem eqin56_10000 (a0 b0 : ByteArray) (a1 b1 : Int) (a2 b2 : Int) (w : World) : (Op.equalIn 10000 56 (.agg #[.string a0, .int .i64 a1, .int .i64 a2]) (.agg #[.string b0, .int .i64 b1, .int .i64 b2])).run Try.prog w = .ok (decide (a0 = b0 ∧ a1 = b1 ∧ a2 = b2)) w := by
  rw [run_equalIn_struct w 9999 56 _ _ (by simp [Program.fieldsOf, Try.underlying56]) Try.stoodInHeld56]
  by_cases h0 : a0 = b0 <;> by_cases h1 : a1 = b1 <;> by_cases h2 : a2 = b2 <;> simp [Program.fieldsOf, Try.underlying56, Op.eqFields, part, Try.isAgg23, Try.isAgg3, Try.sizeOf23, eqin23_9999, run_equalIn_int w 9998 3 .i64 .i64 _ _ Try.underlying3, h0, h1, h2]
theorem seq56 (a0 b0 : ByteArray) (a1 b1 : Int) (a2 b2 : Int) (w : World) : (binOp .eql 56 (.agg #[.string a0, .int .i64 a1, .int .i64 a2]) (.agg #[.string b0, .int .i64 b1, .int .i64 b2])).run Try.prog w = .ok (.bool (decide (a0 = b0 ∧ a1 = b1 ∧ a2 = b2))) w := by
  rw [run_eql_struct, eqin56_10000]
  rfl
theorem R_seq56 {X : Ctx} {E : Env} {H : Heap} {o : Oper} {x y : Operand} {t' : TypeId} {a0 b0 : ByteArray} {a1 b1 : Int} {a2 b2 : Int} (hP : X.P = Try.prog) (ho : o.op = .binOp .eql 56 x y t') (hx : ev E x = some (.agg #[.string a0, .int .i64 a1, .int .i64 a2])) (hy : ev E y = some (.agg #[.string b0, .int .i64 b1, .int .i64 b2])) : Runs X o E H (.bool (decide (a0 = b0 ∧ a1 = b1 ∧ a2 = b2))) :=
  R_bin ho hx hy (fun w => by rw [hP]; exact run_eqGuard_agg w _ 56 x y _ _ Try.eqGuardType56) (fun w => by rw [hP]; exact seq56 a0 b0 a1 b1 a2 b2 w)
theorem sne56 (a0 b0 : ByteArray) (a1 b1 : Int) (a2 b2 : Int) (w : World) : (binOp .neq 56 (.agg #[.string a0, .int .i64 a1, .int .i64 a2]) (.agg #[.string b0, .int .i64 b1, .int .i64 b2])).run Try.prog w = .ok (.bool (decide (¬ (a0 = b0 ∧ a1 = b1 ∧ a2 = b2)))) w := by
  rw [run_neq_struct, eqin56_10000]
  simp
theorem R_sne56 {X : Ctx} {E : Env} {H : Heap} {o : Oper} {x y : Operand} {t' : TypeId} {a0 b0 : ByteArray} {a1 b1 : Int} {a2 b2 : Int} (hP : X.P = Try.prog) (ho : o.op = .binOp .neq 56 x y t') (hx : ev E x = some (.agg #[.string a0, .int .i64 a1, .int .i64 a2])) (hy : ev E y = some (.agg #[.string b0, .int .i64 b1, .int .i64 b2])) : Runs X o E H (.bool (decide (¬ (a0 = b0 ∧ a1 = b1 ∧ a2 = b2)))) :=
  R_bin ho hx hy (fun w => by rw [hP]; exact run_eqGuard_agg w _ 56 x y _ _ Try.eqGuardType56) (fun w => by rw [hP]; exact sne56 a0 b0 a1 b1 a2 b2 w)
theorem inf27 : Try.prog.info? 56 = some Try.t56 := by kernel_rfl
theorem si27 : SI Try.prog 27 56 3 32 [.string ByteArray.empty, .int .i64 0, .int .i64 0] := ⟨Try.underlying27, Try.t56, _, inf27, rfl, rfl, rfl, rfl, rfl, by decide⟩
theorem inf28 : Try.prog.info? 9 = some Try.t9 := by kernel_rfl
theorem si28 : SI Try.prog 28 9 1 16 [.string ByteArray.empty] := ⟨Try.underlying28, Try.t9, _, inf28, rfl, rfl, rfl, rfl, rfl, by decide⟩
theorem inf37 : Try.prog.info? 41 = some Try.t41 := by kernel_rfl
theorem si37 : SI Try.prog 37 41 4 40 [.int .i64 0, .string ByteArray.empty, .int .i64 0, .int .i64 0] := ⟨Try.underlying37, Try.t41, _, inf37, rfl, rfl, rfl, rfl, rfl, by decide⟩
theorem inf61 : Try.prog.info? 25 = some Try.t25 := by kernel_rfl
theorem si61 : SI Try.prog 61 25 1 8 [.pointer none] := ⟨Try.underlying61, Try.t25, _, inf61, rfl, rfl, rfl, rfl, rfl, by decide⟩
theorem inf74 : Try.prog.info? 23 = some Try.t23 := by kernel_rfl
theorem si74 : SI Try.prog 74 23 2 24 [.string ByteArray.empty, .int .i64 0] := ⟨Try.underlying74, Try.t23, _, inf74, rfl, rfl, rfl, rfl, rfl, by decide⟩
theorem inf89 : Try.prog.info? 3 = some Try.t3 := by kernel_rfl
theorem si89 : SI Try.prog 89 3 1 8 [.int .i64 0] := ⟨Try.underlying89, Try.t3, _, inf89, rfl, rfl, rfl, rfl, rfl, by decide⟩
theorem zv1 : Zv Try.prog 1 [.nilFunc] := ⟨_, rfl, Try.zeroValue1⟩
theorem zv2 : Zv Try.prog 2 [.int .i64 0] := ⟨_, rfl, Try.zeroValue2⟩
theorem zv3 : Zv Try.prog 3 [.int .i64 0] := ⟨_, rfl, Try.zeroValue3⟩
theorem zv4 : Zv Try.prog 4 [.bool false] := ⟨_, rfl, Try.zeroValue4⟩
theorem zv5 : Zv Try.prog 5 [.int .u8 0] := ⟨_, rfl, Try.zeroValue5⟩
theorem zv7 : Zv Try.prog 7 [.int .i64 0, .int .i64 0, .bool false, .int .u8 0] := ⟨_, rfl, Try.zeroValue7⟩
theorem zv9 : Zv Try.prog 9 [.string ByteArray.empty] := ⟨_, rfl, Try.zeroValue9⟩
theorem zv12 : Zv Try.prog 12 [.int .u64 0] := ⟨_, rfl, Try.zeroValue12⟩
theorem zv13 : Zv Try.prog 13 [.string ByteArray.empty, .int .u64 0] := ⟨_, rfl, Try.zeroValue13⟩
theorem zv18 : Zv Try.prog 18 [.pointer none] := ⟨_, rfl, Try.zeroValue18⟩
theorem zv21 : Zv Try.prog 21 [.int .i32 0] := ⟨_, rfl, Try.zeroValue21⟩
theorem zv22 : Zv Try.prog 22 [.string ByteArray.empty, .int .i64 0] := ⟨_, rfl, Try.zeroValue22⟩
theorem zv23 : Zv Try.prog 23 [.string ByteArray.empty, .int .i64 0] := ⟨_, rfl, Try.zeroValue23⟩
theorem zv24 : Zv Try.prog 24 [.nilFunc] := ⟨_, rfl, Try.zeroValue24⟩
theorem zv25 : Zv Try.prog 25 [.pointer none] := ⟨_, rfl, Try.zeroValue25⟩
theorem zv26 : Zv Try.prog 26 [.nilFunc] := ⟨_, rfl, Try.zeroValue26⟩
theorem zv27 : Zv Try.prog 27 [.slice none 0 0] := ⟨_, rfl, Try.zeroValue27⟩
theorem zv28 : Zv Try.prog 28 [.slice none 0 0] := ⟨_, rfl, Try.zeroValue28⟩
theorem zv29 : Zv Try.prog 29 [.int .i64 0] := ⟨_, rfl, Try.zeroValue29⟩
theorem zv31 : Zv Try.prog 31 [.nilFunc] := ⟨_, rfl, Try.zeroValue31⟩
theorem zv32 : Zv Try.prog 32 [.nilFunc] := ⟨_, rfl, Try.zeroValue32⟩
theorem zv33 : Zv Try.prog 33 [.nilFunc] := ⟨_, rfl, Try.zeroValue33⟩
theorem zv34 : Zv Try.prog 34 [.nilFunc] := ⟨_, rfl, Try.zeroValue34⟩
theorem zv35 : Zv Try.prog 35 [.nilFunc] := ⟨_, rfl, Try.zeroValue35⟩
theorem zv36 : Zv Try.prog 36 [.nilFunc] := ⟨_, rfl, Try.zeroValue36⟩
theorem zv37 : Zv Try.prog 37 [.slice none 0 0] := ⟨_, rfl, Try.zeroValue37⟩
theorem zv38 : Zv Try.prog 38 [.nilFunc] := ⟨_, rfl, Try.zeroValue38⟩
theorem zv39 : Zv Try.prog 39 [.nilFunc] := ⟨_, rfl, Try.zeroValue39⟩
theorem zv40 : Zv Try.prog 40 [.int .i64 0, .string ByteArray.empty, .int .i64 0, .int .i64 0] := ⟨_, rfl, Try.zeroValue40⟩
theorem zv41 : Zv Try.prog 41 [.int .i64 0, .string ByteArray.empty, .int .i64 0, .int .i64 0] := ⟨_, rfl, Try.zeroValue41⟩
theorem zv43 : Zv Try.prog 43 [.nilFunc] := ⟨_, rfl, Try.zeroValue43⟩
theorem zv44 : Zv Try.prog 44 [.nilFunc] := ⟨_, rfl, Try.zeroValue44⟩
theorem zv45 : Zv Try.prog 45 [.nilFunc] := ⟨_, rfl, Try.zeroValue45⟩
theorem zv47 : Zv Try.prog 47 [.nilFunc] := ⟨_, rfl, Try.zeroValue47⟩
theorem zv48 : Zv Try.prog 48 [.nilFunc] := ⟨_, rfl, Try.zeroValue48⟩
theorem zv50 : Zv Try.prog 50 [.nilFunc] := ⟨_, rfl, Try.zeroValue50⟩
theorem zv51 : Zv Try.prog 51 [.nilFunc] := ⟨_, rfl, Try.zeroValue51⟩
theorem zv52 : Zv Try.prog 52 [.nilFunc] := ⟨_, rfl, Try.zeroValue52⟩
theorem zv53 : Zv Try.prog 53 [.nilFunc] := ⟨_, rfl, Try.zeroValue53⟩
theorem zv54 : Zv Try.prog 54 [.nilFunc] := ⟨_, rfl, Try.zeroValue54⟩
theorem zv55 : Zv Try.prog 55 [.string ByteArray.empty, .int .i64 0, .int .i64 0] := ⟨_, rfl, Try.zeroValue55⟩
theorem zv56 : Zv Try.prog 56 [.string ByteArray.empty, .int .i64 0, .int .i64 0] := ⟨_, rfl, Try.zeroValue56⟩
theorem zv57 : Zv Try.prog 57 [.nilFunc] := ⟨_, rfl, Try.zeroValue57⟩
theorem zv58 : Zv Try.prog 58 [.map none] := ⟨_, rfl, Try.zeroValue58⟩
theorem zv59 : Zv Try.prog 59 [.map none] := ⟨_, rfl, Try.zeroValue59⟩
theorem zv60 : Zv Try.prog 60 [.map none] := ⟨_, rfl, Try.zeroValue60⟩
theorem zv61 : Zv Try.prog 61 [.slice none 0 0] := ⟨_, rfl, Try.zeroValue61⟩
theorem zv62 : Zv Try.prog 62 [.nilFunc] := ⟨_, rfl, Try.zeroValue62⟩
theorem zv63 : Zv Try.prog 63 [.nilFunc] := ⟨_, rfl, Try.zeroValue63⟩
theorem zv64 : Zv Try.prog 64 [.nilFunc] := ⟨_, rfl, Try.zeroValue64⟩
theorem zv65 : Zv Try.prog 65 [.nilFunc] := ⟨_, rfl, Try.zeroValue65⟩
theorem zv66 : Zv Try.prog 66 [.nilFunc] := ⟨_, rfl, Try.zeroValue66⟩
theorem zv67 : Zv Try.prog 67 [.nilFunc] := ⟨_, rfl, Try.zeroValue67⟩
theorem zv69 : Zv Try.prog 69 [.nilFunc] := ⟨_, rfl, Try.zeroValue69⟩
theorem zv71 : Zv Try.prog 71 [.nilFunc] := ⟨_, rfl, Try.zeroValue71⟩
theorem zv72 : Zv Try.prog 72 [.nilFunc] := ⟨_, rfl, Try.zeroValue72⟩
theorem zv73 : Zv Try.prog 73 [.nilFunc] := ⟨_, rfl, Try.zeroValue73⟩
theorem zv74 : Zv Try.prog 74 [.slice none 0 0] := ⟨_, rfl, Try.zeroValue74⟩
theorem zv75 : Zv Try.prog 75 [.nilFunc] := ⟨_, rfl, Try.zeroValue75⟩
theorem zv76 : Zv Try.prog 76 [.nilFunc] := ⟨_, rfl, Try.zeroValue76⟩
theorem zv77 : Zv Try.prog 77 [.nilFunc] := ⟨_, rfl, Try.zeroValue77⟩
theorem zv78 : Zv Try.prog 78 [.nilFunc] := ⟨_, rfl, Try.zeroValue78⟩
theorem zv79 : Zv Try.prog 79 [.nilFunc] := ⟨_, rfl, Try.zeroValue79⟩
theorem zv80 : Zv Try.prog 80 [.nilFunc] := ⟨_, rfl, Try.zeroValue80⟩
theorem zv81 : Zv Try.prog 81 [.nilFunc] := ⟨_, rfl, Try.zeroValue81⟩
theorem zv82 : Zv Try.prog 82 [.nilFunc] := ⟨_, rfl, Try.zeroValue82⟩
theorem zv83 : Zv Try.prog 83 [.nilFunc] := ⟨_, rfl, Try.zeroValue83⟩
theorem zv84 : Zv Try.prog 84 [.nilFunc] := ⟨_, rfl, Try.zeroValue84⟩
theorem zv85 : Zv Try.prog 85 [.nilFunc] := ⟨_, rfl, Try.zeroValue85⟩
theorem zv86 : Zv Try.prog 86 [.nilFunc] := ⟨_, rfl, Try.zeroValue86⟩
theorem zv87 : Zv Try.prog 87 [.nilFunc] := ⟨_, rfl, Try.zeroValue87⟩
theorem zv88 : Zv Try.prog 88 [.int .u64 0] := ⟨_, rfl, Try.zeroValue88⟩
theorem zv89 : Zv Try.prog 89 [.slice none 0 0] := ⟨_, rfl, Try.zeroValue89⟩
theorem zv90 : Zv Try.prog 90 [.nilFunc] := ⟨_, rfl, Try.zeroValue90⟩
theorem zv91 : Zv Try.prog 91 [.nilFunc] := ⟨_, rfl, Try.zeroValue91⟩
theorem zv92 : Zv Try.prog 92 [.int .i64 0] := ⟨_, rfl, Try.zeroValue92⟩
theorem zv94 : Zv Try.prog 94 [.nilFunc] := ⟨_, rfl, Try.zeroValue94⟩
theorem zv95 : Zv Try.prog 95 [.nilFunc] := ⟨_, rfl, Try.zeroValue95⟩
theorem zv96 : Zv Try.prog 96 [.nilFunc] := ⟨_, rfl, Try.zeroValue96⟩
theorem zv97 : Zv Try.prog 97 [.nilFunc] := ⟨_, rfl, Try.zeroValue97⟩
theorem zv98 : Zv Try.prog 98 [.nilFunc] := ⟨_, rfl, Try.zeroValue98⟩
theorem zv99 : Zv Try.prog 99 [.int .u32 0] := ⟨_, rfl, Try.zeroValue99⟩
theorem zv100 : Zv Try.prog 100 [.nilFunc] := ⟨_, rfl, Try.zeroValue100⟩
theorem zv101 : Zv Try.prog 101 [.int .u64 0] := ⟨_, rfl, Try.zeroValue101⟩
theorem zv102 : Zv Try.prog 102 [.int .u64 0] := ⟨_, rfl, Try.zeroValue102⟩
theorem zv103 : Zv Try.prog 103 [.nilFunc] := ⟨_, rfl, Try.zeroValue103⟩
theorem zv104 : Zv Try.prog 104 [.nilFunc] := ⟨_, rfl, Try.zeroValue104⟩
theorem zv105 : Zv Try.prog 105 [.nilFunc] := ⟨_, rfl, Try.zeroValue105⟩
theorem zv106 : Zv Try.prog 106 [.pointer none] := ⟨_, rfl, Try.zeroValue106⟩
theorem zv107 : Zv Try.prog 107 [.nilFunc] := ⟨_, rfl, Try.zeroValue107⟩
theorem zv108 : Zv Try.prog 108 [.pointer none] := ⟨_, rfl, Try.zeroValue108⟩
theorem zv110 : Zv Try.prog 110 [.nilFunc] := ⟨_, rfl, Try.zeroValue110⟩
theorem zv111 : Zv Try.prog 111 [.nilFunc] := ⟨_, rfl, Try.zeroValue111⟩
theorem zv112 : Zv Try.prog 112 [.pointer none, .pointer none, .pointer none, .string ByteArray.empty] := ⟨_, rfl, Try.zeroValue112⟩
theorem zv115 : Zv Try.prog 115 [] := ⟨_, rfl, Try.zeroValue115⟩
theorem zv120 : Zv Try.prog 120 [.pointer none] := ⟨_, rfl, Try.zeroValue120⟩
theorem zv123 : Zv Try.prog 123 [.int .u64 0, .int .u64 0, .int .u32 0, .int .u8 0, .int .u8 0, .int .u8 0, .int .u8 0, .nilFunc, .pointer none, .int .i32 0, .int .i32 0] := ⟨_, rfl, Try.zeroValue123⟩
end Go.Proofs.Ytiomimjjdbijmaa
