/-
  Chapter 46 (pool), part Known: contracts of functions that the laws call, each for the heap it names.
-/
import Derived.Test.YteofigbgdbpjgaaRows
import Derived.Test.YteofigbgdbpjgaaZB
import Derived.Test.YteofigbgdbpjgaaSLMapJ
import Derived.Test.YteofigbgdbpjgaaSLScope
import Derived.Test.YteofigbgdbpjgaaTab
import Derived.Test.YteofigbgdbpjgaaKnownL
import Derived.Test.YteofigbgdbpjgaaPoolG
set_option linter.unusedVariables false
set_option maxRecDepth 20000
set_option maxHeartbeats 4000000
namespace Go.Proofs.Yteofigbgdbpjgaa


theorem known_ok : Spec Try.prog 7 [] [] (fun r H' => r = .bool true ∧ H' = []) := by
  refine Spec.of (E := []) Try.func7 rfl (by kernel_rfl) Try.ntmps7 rfl rfl (fun w => ?_)
  refine WC_seq ?_
  refine WC_region ?_
  refine WL_val rfl rfl rfl (R_assign rfl rfl) ?_
  refine WL_nil ?_
  refine WQ_code ?_
  refine WC_seq ?_
  refine WC_region ?_
  refine WL_do rfl rfl rfl (D_call (pnew_ok 1 1 10 (by decide) (by decide) (by decide)) rfl rfl rfl rfl (pqZ)) ?_
  rintro _ _ ⟨_, ⟨m0, rfl, rfl, g0⟩, rfl⟩
  rw [kq0_eq] at g0 ⊢
  refine WL_val rfl rfl rfl (R_move rfl rfl) ?_
  refine WL_val rfl rfl rfl (R_extract rfl rfl rfl) ?_
  refine WL_val rfl rfl rfl (R_extract rfl rfl rfl) ?_
  refine WL_val rfl rfl rfl (R_assign rfl rfl) ?_
  refine WL_val rfl rfl rfl (R_assign rfl rfl) ?_
  refine WL_nil ?_
  refine WQ_code ?_
  refine WC_seq ?_
  refine WC_seq ?_
  refine WC_region ?_
  refine WL_val rfl rfl rfl (R_move rfl rfl) ?_
  refine WL_val rfl rfl rfl (R_ptrEqNil rfl Try.underlying23 rfl) ?_
  refine WL_set (s := 12) (v := .bool false) rfl (by rfl) ?_
  refine WL_val rfl rfl rfl (R_move rfl rfl) ?_
  refine WL_val rfl rfl rfl (R_move rfl rfl) ?_
  refine WL_val rfl rfl rfl (R_neq rfl rfl rfl) ?_
  refine WL_val rfl rfl rfl (R_pickF rfl rfl rfl) ?_
  refine WL_val rfl rfl rfl (R_move rfl rfl) ?_
  refine WL_set (s := 17) (v := .bool false) rfl (by simp) ?_
  refine WL_val rfl rfl rfl (R_move rfl rfl) ?_
  refine WL_do rfl rfl rfl (D_call (gets_ok g0 (Nat.le_of_ble_eq_true rfl) (Nat.le_of_ble_eq_true rfl) 5 0 9 (Nat.le_of_ble_eq_true rfl) 2 (0) (by kernel_rfl) (by kernel_rfl)) rfl rfl rfl rfl (pqZ)) ?_
  rintro _ _ ⟨_, ⟨m1, rfl, rfl, p1, g1⟩, rfl⟩
  rw [kq1_eq] at g1 ⊢
  rw [← p1]
  refine WL_val rfl rfl rfl (R_not rfl rfl) ?_
  refine WL_val rfl rfl rfl (R_pickF rfl rfl rfl) ?_
  refine WL_val rfl rfl rfl (R_move rfl rfl) ?_
  refine WL_val rfl rfl rfl (R_move rfl rfl) ?_
  refine WL_do rfl rfl rfl (D_call (gets_ok g1 (Nat.le_of_ble_eq_true rfl) (Nat.le_of_ble_eq_true rfl) 6 0 9 (Nat.le_of_ble_eq_true rfl) 3 (-1) (by kernel_rfl) (by kernel_rfl)) rfl rfl rfl rfl (pqZ)) ?_
  rintro _ _ ⟨_, ⟨m2, rfl, rfl, p2, g2⟩, rfl⟩
  rw [kq2_eq] at g2 ⊢
  rw [← p2]
  refine WL_val rfl rfl rfl (R_not rfl rfl) ?_
  refine WL_val rfl rfl rfl (R_pickF rfl rfl rfl) ?_
  refine WL_val rfl rfl rfl (R_move rfl rfl) ?_
  refine WL_val rfl rfl rfl (R_move rfl rfl) ?_
  refine WL_do rfl rfl rfl (D_call (pdialed_ok g2 (Nat.le_of_ble_eq_true rfl) 0 true 1 (Nat.le_of_ble_eq_true rfl)) rfl rfl rfl rfl (pqZ)) ?_
  rintro _ _ ⟨_, ⟨m3, rfl, rfl, p3, g3⟩, rfl⟩
  rw [kq3_eq] at g3 ⊢
  rw [← p3]
  rw [show kq2.inE 0 1 1 = 0 from by kernel_rfl]
  refine WL_val rfl rfl rfl (R_neq rfl rfl rfl) ?_
  refine WL_val rfl rfl rfl (R_pickF rfl rfl rfl) ?_
  refine WL_val rfl rfl rfl (R_move rfl rfl) ?_
  refine WL_set (s := 32) (v := .bool false) rfl (by simp) ?_
  refine WL_val rfl rfl rfl (R_move rfl rfl) ?_
  refine WL_do rfl rfl rfl (D_call (pput_ok g3 (Nat.le_of_ble_eq_true rfl) 0 true 2 (Nat.le_of_ble_eq_true rfl)) rfl rfl rfl rfl (pqZ)) ?_
  rintro _ _ ⟨_, ⟨m4, rfl, rfl, p4, g4⟩, rfl⟩
  rw [kq4_eq] at g4 ⊢
  rw [← p4]
  rw [show kq3.inE 0 2 2 = 0 from by kernel_rfl]
  refine WL_val rfl rfl rfl (R_neq rfl rfl rfl) ?_
  refine WL_val rfl rfl rfl (R_pickF rfl rfl rfl) ?_
  refine WL_val rfl rfl rfl (R_move rfl rfl) ?_
  refine WL_set (s := 37) (v := .bool false) rfl (by simp) ?_
  refine WL_val rfl rfl rfl (R_move rfl rfl) ?_
  refine WL_do rfl rfl rfl (D_call (tells_ok g4 1 (6) (0) rfl) rfl rfl rfl rfl (pqZ)) ?_
  rintro _ _ ⟨_, ⟨m5, rfl, rfl, p5, g5⟩, rfl⟩
  rw [kq5_eq] at g5 ⊢
  rw [← p5]
  refine WL_val rfl rfl rfl (R_not rfl rfl) ?_
  refine WL_val rfl rfl rfl (R_pickF rfl rfl rfl) ?_
  refine WL_val rfl rfl rfl (R_move rfl rfl) ?_
  refine WL_val rfl rfl rfl (R_move rfl rfl) ?_
  refine WL_do rfl rfl rfl (D_call (pcounts_ok g5) rfl rfl rfl rfl (pqZ)) ?_
  rintro _ _ ⟨_, ⟨rfl, rfl⟩, rfl⟩
  refine WL_val rfl rfl rfl (R_build rfl zv33 pl33 rfl rfl) ?_
  refine WL_val rfl rfl rfl (R_sne33 rfl rfl rfl rfl) ?_
  refine WL_set (s := 46) (v := .bool false) rfl (by exact congrArg Value.bool (by kernel_rfl)) ?_
  refine WL_val rfl rfl rfl (R_pickF rfl rfl rfl) ?_
  refine WL_nil ?_
  refine WQ_code ?_
  refine WC_F rfl ?_
  refine WC_skip ?_
  refine WQ_code ?_
  refine WC_seq ?_
  refine WC_seq ?_
  refine WC_region ?_
  refine WL_val rfl rfl rfl (R_move rfl rfl) ?_
  refine WL_do rfl rfl rfl (D_call (pput_ok g5 (Nat.le_of_ble_eq_true rfl) 0 true 3 (Nat.le_of_ble_eq_true rfl)) rfl rfl rfl rfl (pqZ)) ?_
  rintro _ _ ⟨_, ⟨m6, rfl, rfl, p6, g6⟩, rfl⟩
  rw [kq6_eq] at g6 ⊢
  rw [← p6]
  rw [show kq5.inE 0 2 3 = 0 from by kernel_rfl]
  refine WL_val rfl rfl rfl (R_neq rfl rfl rfl) ?_
  refine WL_val rfl rfl rfl (R_move rfl rfl) ?_
  refine WL_set (s := 51) (v := .bool false) rfl (by simp) ?_
  refine WL_val rfl rfl rfl (R_move rfl rfl) ?_
  refine WL_do rfl rfl rfl (D_call (gets_ok g6 (Nat.le_of_ble_eq_true rfl) (Nat.le_of_ble_eq_true rfl) 7 4 9 (Nat.le_of_ble_eq_true rfl) 1 (0) (by kernel_rfl) (by kernel_rfl)) rfl rfl rfl rfl (pqZ)) ?_
  rintro _ _ ⟨_, ⟨m7, rfl, rfl, p7, g7⟩, rfl⟩
  rw [kq7_eq] at g7 ⊢
  rw [← p7]
  refine WL_val rfl rfl rfl (R_not rfl rfl) ?_
  refine WL_val rfl rfl rfl (R_pickF rfl rfl rfl) ?_
  refine WL_val rfl rfl rfl (R_move rfl rfl) ?_
  refine WL_val rfl rfl rfl (R_move rfl rfl) ?_
  refine WL_do rfl rfl rfl (D_call (pput_ok g7 (Nat.le_of_ble_eq_true rfl) 0 true 4 (Nat.le_of_ble_eq_true rfl)) rfl rfl rfl rfl (pqZ)) ?_
  rintro _ _ ⟨_, ⟨m8, rfl, rfl, p8, g8⟩, rfl⟩
  rw [kq8_eq] at g8 ⊢
  rw [← p8]
  rw [show kq7.inE 0 2 4 = 0 from by kernel_rfl]
  refine WL_val rfl rfl rfl (R_neq rfl rfl rfl) ?_
  refine WL_val rfl rfl rfl (R_pickF rfl rfl rfl) ?_
  refine WL_val rfl rfl rfl (R_move rfl rfl) ?_
  refine WL_set (s := 61) (v := .bool false) rfl (by simp) ?_
  refine WL_val rfl rfl rfl (R_move rfl rfl) ?_
  refine WL_do rfl rfl rfl (D_call (padv_ok g8 (Nat.le_of_ble_eq_true rfl) 13 (Nat.le_of_ble_eq_true rfl) (of_decide_eq_true (by kernel_rfl))) rfl rfl rfl rfl (pqZ)) ?_
  rintro _ _ ⟨_, ⟨m9, rfl, rfl, p9, g9⟩, rfl⟩
  rw [kq9_eq] at g9 ⊢
  rw [← p9]
  rw [show kq8.may true 13 = 0 from by kernel_rfl]
  refine WL_val rfl rfl rfl (R_neq rfl rfl rfl) ?_
  refine WL_val rfl rfl rfl (R_pickF rfl rfl rfl) ?_
  refine WL_nil ?_
  refine WQ_code ?_
  refine WC_dF rfl (by simp) ?_
  refine WC_skip ?_
  refine WQ_code ?_
  refine WC_seq ?_
  refine WC_seq ?_
  refine WC_region ?_
  refine WL_val rfl rfl rfl (R_move rfl rfl) ?_
  refine WL_do rfl rfl rfl (D_call (pnext_none g9 rfl) rfl rfl rfl rfl (pqZ)) ?_
  rintro _ _ ⟨_, ⟨rfl, rfl⟩, rfl⟩
  refine WL_val rfl rfl rfl (R_move rfl rfl) ?_
  refine WL_val rfl rfl rfl (R_extract rfl rfl rfl) ?_
  refine WL_val rfl rfl rfl (R_extract rfl rfl rfl) ?_
  refine WL_set (s := 70) (v := .bool false) rfl (by rfl) ?_
  refine WL_do rfl rfl rfl (D_alloc rfl zv44) ?_
  rintro _ _ ⟨b1, rfl, rfl⟩
  refine WL_do0 rfl rfl (D_store (vs := [_, _, _]) rfl Try.sizeOf44 rfl rfl rfl rfl rfl (plZ) (by exact Nat.le_of_ble_eq_true rfl)) ?_
  rintro _ _ rfl
  refine WL_val rfl rfl rfl (R_assign rfl rfl) ?_
  refine WL_nil ?_
  refine WQ_code ?_
  refine WC_seq ?_
  refine WC_region ?_
  refine WL_val rfl rfl rfl (R_move rfl rfl) ?_
  refine WL_val rfl rfl rfl (R_move rfl rfl) ?_
  refine WL_val rfl rfl rfl (R_move rfl rfl) ?_
  refine WL_do rfl rfl rfl (D_call (padv_ok g9 (Nat.le_of_ble_eq_true rfl) 14 (Nat.le_of_ble_eq_true rfl) (of_decide_eq_true (by kernel_rfl))) rfl rfl rfl rfl (pqZ)) ?_
  rintro _ _ ⟨_, ⟨m10, rfl, rfl, p10, g10⟩, rfl⟩
  rw [kq10_eq] at g10 ⊢
  rw [← p10]
  rw [show kq9.may true 14 = 0 from by kernel_rfl]
  refine WL_val rfl rfl rfl (R_neq rfl rfl rfl) ?_
  refine WL_val rfl rfl rfl (R_pickF rfl rfl rfl) ?_
  refine WL_val rfl rfl rfl (R_move rfl rfl) ?_
  refine WL_set (s := 77) (v := .bool false) rfl (by simp) ?_
  refine WL_val rfl rfl rfl (R_move rfl rfl) ?_
  refine WL_do rfl rfl rfl (D_call (tells_ok g10 5 (-1) (0) rfl) rfl rfl rfl rfl (pqZ)) ?_
  rintro _ _ ⟨_, ⟨m11, rfl, rfl, p11, g11⟩, rfl⟩
  rw [kq11_eq] at g11 ⊢
  rw [← p11]
  refine WL_val rfl rfl rfl (R_not rfl rfl) ?_
  refine WL_val rfl rfl rfl (R_pickF rfl rfl rfl) ?_
  refine WL_nil ?_
  refine WQ_code ?_
  refine WC_F rfl ?_
  refine WC_skip ?_
  refine WQ_code ?_
  refine WC_seq ?_
  refine WC_seq ?_
  refine WC_region ?_
  refine WL_val rfl rfl rfl (R_move rfl rfl) ?_
  refine WL_do rfl rfl rfl (D_call (gets_ok g11 (Nat.le_of_ble_eq_true rfl) (Nat.le_of_ble_eq_true rfl) 7 14 99 (Nat.le_of_ble_eq_true rfl) 2 (0) (by kernel_rfl) (by kernel_rfl)) rfl rfl rfl rfl (pqZ)) ?_
  rintro _ _ ⟨_, ⟨m12, rfl, rfl, p12, g12⟩, rfl⟩
  rw [kq12_eq] at g12 ⊢
  rw [← p12]
  refine WL_val rfl rfl rfl (R_not rfl rfl) ?_
  refine WL_val rfl rfl rfl (R_move rfl rfl) ?_
  refine WL_val rfl rfl rfl (R_move rfl rfl) ?_
  refine WL_do rfl rfl rfl (D_call (gets_ok g12 (Nat.le_of_ble_eq_true rfl) (Nat.le_of_ble_eq_true rfl) 8 14 20 (Nat.le_of_ble_eq_true rfl) 3 (-1) (by kernel_rfl) (by kernel_rfl)) rfl rfl rfl rfl (pqZ)) ?_
  rintro _ _ ⟨_, ⟨m13, rfl, rfl, p13, g13⟩, rfl⟩
  rw [kq13_eq] at g13 ⊢
  rw [← p13]
  refine WL_val rfl rfl rfl (R_not rfl rfl) ?_
  refine WL_val rfl rfl rfl (R_pickF rfl rfl rfl) ?_
  refine WL_nil ?_
  refine WQ_code ?_
  refine WC_F rfl ?_
  refine WC_skip ?_
  refine WQ_code ?_
  refine WC_seq ?_
  refine WC_region ?_
  refine WL_val rfl rfl rfl (R_move rfl rfl) ?_
  refine WL_do rfl rfl rfl (D_call (pget_ok g13 (Nat.le_of_ble_eq_true rfl) (Nat.le_of_ble_eq_true rfl) 8 14 20 (Nat.le_of_ble_eq_true rfl)) rfl rfl rfl rfl (pqZ)) ?_
  rintro _ _ ⟨_, ⟨m14, rfl, rfl, p14, g14⟩, rfl⟩
  rw [kq14_eq] at g14 ⊢
  rw [← p14]
  rw [show getE_ kq13 8 14 20 = 11 from by kernel_rfl]
  refine WL_val rfl rfl rfl (R_move rfl rfl) ?_
  refine WL_val rfl rfl rfl (R_extract rfl rfl rfl) ?_
  refine WL_val rfl rfl rfl (R_extract rfl rfl rfl) ?_
  refine WL_do rfl rfl rfl (D_alloc rfl zv44) ?_
  rintro _ _ ⟨b2, rfl, rfl⟩
  refine WL_do0 rfl rfl (D_store (vs := [_, _, _]) rfl Try.sizeOf44 rfl rfl rfl rfl rfl (plZ) (by exact Nat.le_of_ble_eq_true rfl)) ?_
  rintro _ _ rfl
  refine WL_val rfl rfl rfl (R_assign rfl rfl) ?_
  refine WL_nil ?_
  refine WQ_code ?_
  refine WC_seq ?_
  refine WC_seq ?_
  refine WC_region ?_
  refine WL_val rfl rfl rfl (R_move rfl rfl) ?_
  refine WL_val rfl rfl rfl (R_neq rfl rfl rfl) ?_
  refine WL_val rfl rfl rfl (R_move rfl rfl) ?_
  refine WL_set (s := 97) (v := .bool false) rfl (by simp) ?_
  refine WL_val rfl rfl rfl (R_move rfl rfl) ?_
  refine WL_do rfl rfl rfl (D_call (padv_ok g14 (Nat.le_of_ble_eq_true rfl) 20 (Nat.le_of_ble_eq_true rfl) (of_decide_eq_true (by kernel_rfl))) rfl rfl rfl rfl (pqZ)) ?_
  rintro _ _ ⟨_, ⟨m15, rfl, rfl, p15, g15⟩, rfl⟩
  rw [kq15_eq] at g15 ⊢
  rw [← p15]
  rw [show kq14.may true 20 = 0 from by kernel_rfl]
  refine WL_val rfl rfl rfl (R_neq rfl rfl rfl) ?_
  refine WL_val rfl rfl rfl (R_pickF rfl rfl rfl) ?_
  refine WL_val rfl rfl rfl (R_move rfl rfl) ?_
  refine WL_set (s := 102) (v := .bool false) rfl (by simp) ?_
  refine WL_val rfl rfl rfl (R_move rfl rfl) ?_
  refine WL_do rfl rfl rfl (D_call (tells_ok g15 4 (8) (-1) rfl) rfl rfl rfl rfl (pqZ)) ?_
  rintro _ _ ⟨_, ⟨m16, rfl, rfl, p16, g16⟩, rfl⟩
  rw [kq16_eq] at g16 ⊢
  rw [← p16]
  refine WL_val rfl rfl rfl (R_not rfl rfl) ?_
  refine WL_val rfl rfl rfl (R_pickF rfl rfl rfl) ?_
  refine WL_nil ?_
  refine WQ_code ?_
  refine WC_F rfl ?_
  refine WC_skip ?_
  refine WQ_code ?_
  refine WC_seq ?_
  refine WC_region ?_
  refine WL_val rfl rfl rfl (R_move rfl rfl) ?_
  refine WL_do rfl rfl rfl (D_call (gets_ok g16 (Nat.le_of_ble_eq_true rfl) (Nat.le_of_ble_eq_true rfl) 9 20 30 (Nat.le_of_ble_eq_true rfl) 3 (-1) (by kernel_rfl) (by kernel_rfl)) rfl rfl rfl rfl (pqZ)) ?_
  rintro _ _ ⟨_, ⟨m17, rfl, rfl, p17, g17⟩, rfl⟩
  rw [kq17_eq] at g17 ⊢
  rw [← p17]
  refine WL_val rfl rfl rfl (R_move rfl rfl) ?_
  refine WL_val rfl rfl rfl (R_move rfl rfl) ?_
  refine WL_do rfl rfl rfl (D_call (pdialed_ok g17 (Nat.le_of_ble_eq_true rfl) 0 false 21 (Nat.le_of_ble_eq_true rfl)) rfl rfl rfl rfl (pqZ)) ?_
  rintro _ _ ⟨_, ⟨m18, rfl, rfl, p18, g18⟩, rfl⟩
  rw [kq18_eq] at g18 ⊢
  rw [← p18]
  rw [show kq17.inE 0 1 21 = 0 from by kernel_rfl]
  refine WL_val rfl rfl rfl (R_eql rfl rfl rfl) ?_
  refine WL_val rfl rfl rfl (R_pickT rfl rfl rfl) ?_
  refine WL_val rfl rfl rfl (R_move rfl rfl) ?_
  refine WL_set (s := 114) (v := .bool true) rfl (by simp) ?_
  refine WL_val rfl rfl rfl (R_move rfl rfl) ?_
  refine WL_do rfl rfl rfl (D_call (tells_ok g18 2 (9) (0) rfl) rfl rfl rfl rfl (pqZ)) ?_
  rintro _ _ ⟨_, ⟨m19, rfl, rfl, p19, g19⟩, rfl⟩
  rw [kq19_eq] at g19 ⊢
  rw [← p19]
  refine WL_val rfl rfl rfl (R_pickT rfl rfl rfl) ?_
  refine WL_val rfl rfl rfl (R_move rfl rfl) ?_
  refine WL_val rfl rfl rfl (R_move rfl rfl) ?_
  refine WL_do rfl rfl rfl (D_call (pput_ok g19 (Nat.le_of_ble_eq_true rfl) 0 true 21 (Nat.le_of_ble_eq_true rfl)) rfl rfl rfl rfl (pqZ)) ?_
  rintro _ _ ⟨_, ⟨m20, rfl, rfl, p20, g20⟩, rfl⟩
  rw [kq20_eq] at g20 ⊢
  rw [← p20]
  rw [show kq19.inE 0 2 21 = 9 from by kernel_rfl]
  refine WL_val rfl rfl rfl (R_eql rfl rfl rfl) ?_
  refine WL_val rfl rfl rfl (R_pickT rfl rfl rfl) ?_
  refine WL_val rfl rfl rfl (R_assign rfl rfl) ?_
  refine WL_nil ?_
  refine WQ_code ?_
  refine WC_ret ?_
  refine WQ_ret rfl rfl (.cons (.tmp rfl) .nil) rfl (by
      exact ⟨congrArg Value.bool (decide_eq_true rfl), rfl⟩) (pqZ)

end Go.Proofs.Yteofigbgdbpjgaa
