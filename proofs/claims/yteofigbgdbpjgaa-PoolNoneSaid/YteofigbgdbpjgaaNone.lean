/-
  Chapter 46 (pool), part None: contracts of functions that the laws call, each for the heap it names.
-/
import Derived.Test.YteofigbgdbpjgaaRows
import Derived.Test.YteofigbgdbpjgaaZB
import Derived.Test.YteofigbgdbpjgaaSLMapJ
import Derived.Test.YteofigbgdbpjgaaSLScope
import Derived.Test.YteofigbgdbpjgaaTab
import Derived.Test.YteofigbgdbpjgaaKnown
import Derived.Test.YteofigbgdbpjgaaPoolZ
set_option linter.unusedVariables false
set_option maxRecDepth 20000
set_option maxHeartbeats 2000000
namespace Go.Proofs.Yteofigbgdbpjgaa


theorem none_ok (wt n : Int) (now dl : Nat) (good : Bool) : Spec Try.prog 6 [.agg #[.int .i64 wt, .int .i64 n, .int .u64 (now : Int), .int .u64 (dl : Int), .bool good]] [] (fun r H' => r = .bool true ∧ H' = []) := by
  refine Spec.of (E := [(0, .agg #[.int .i64 wt, .int .i64 n, .int .u64 (now : Int), .int .u64 (dl : Int), .bool good])]) Try.func6 rfl (by kernel_rfl) Try.ntmps6 rfl rfl (fun w => ?_)
  refine WC_seq ?_
  refine WC_region ?_
  refine WL_do rfl rfl rfl (D_box (cs := [_, _, _, _, _]) rfl rfl rfl) ?_
  rintro _ _ ⟨b1, rfl, rfl⟩
  refine WL_val rfl rfl rfl (R_assign rfl rfl) ?_
  refine WL_nil ?_
  refine WQ_code ?_
  refine WC_seq ?_
  refine WC_seq ?_
  refine WC_region ?_
  refine WL_val rfl rfl rfl (R_build (cs := poZ) rfl zvPZ pl71 rfl rfl) ?_
  refine WL_do rfl rfl rfl (D_box (cs := poZ) rfl rfl rfl) ?_
  rintro _ _ ⟨bz, rfl, rfl⟩
  refine WL_do rfl rfl rfl (D_buildSlice rfl si72 rfl rfl rfl) ?_
  rintro _ _ ⟨b2, rfl, rfl⟩
  refine WL_val rfl rfl rfl (R_len rfl Try.underlying72 rfl) ?_
  refine WL_val rfl rfl rfl (R_move rfl rfl) ?_
  refine WL_nil ?_
  refine WQ_code ?_
  refine WC_block ?_
  refine WC_loopF (G := Nat) [2, 4, 5, 6, 7, 8, 13, 14, 15, 16, 17, 18, 19, 20, 21, 22, 23, 24, 25, 26, 27, 28, 29, 30, 31, 32, 33, 34, 35, 36, 37, 38, 39, 40, 41, 42, 43, 44, 45, 46, 47, 48, 49, 50, 51, 52, 53, 54, 55, 56, 57, 58, 59, 60, 61, 62, 63, 64, 65, 66, 67, 68, 69, 70, 71, 72, 73, 74, 75, 76, 77, 78, 79, 80, 81, 82, 83, 84, 85, 86, 87, 88, 89, 90, 91, 92, 93, 94, 95, 96, 97] (fun y => y ≤ 2) (fun y => [(13, .int .i64 (y : Int))]) (fun y => [⟨some bz, cl poZ 71⟩]) (fun y => 2 - y) (0) (by omega) leZ (pqZ) ?_
  rintro y hy
  refine WC_seq ?_
  refine WC_region ?_
  refine WL_val rfl rfl rfl (R_lss rfl rfl rfl) ?_
  refine WL_nil ?_
  refine WQ_code ?_
  refine WC_seq ?_
  refine WC_dec rfl (fun c1 => ?_) (fun c1 => ?_)
  · obtain rfl | rfl : y = 0 ∨ y = 1 := by omega
    · refine WC_skip ?_
      refine WQ_code ?_
      refine WC_seq ?_
      refine WC_block ?_
      refine WC_seq ?_
      refine WC_region ?_
      refine WL_val rfl rfl rfl (R_indexAddrN rfl Try.underlying72 Try.sizeOf23 rfl rfl (by omega)) ?_
      refine WL_val rfl rfl rfl (R_load (v := .pointer none) rfl sc23 rfl (mmZ) (rfl)) ?_
      refine WL_val rfl rfl rfl (R_assign rfl rfl) ?_
      refine WL_nil ?_
      refine WQ_code ?_
      refine WC_seq ?_
      refine WC_region ?_
      refine WL_val rfl rfl rfl (R_move rfl rfl) ?_
      refine WL_val rfl rfl rfl (R_fieldAddr rfl fa41_1 rfl) ?_
      refine WL_val rfl rfl rfl (R_load rfl sc3 rfl (mmZ) rfl) ?_
      refine WL_val rfl rfl rfl (R_fieldAddr rfl fa41_2 rfl) ?_
      refine WL_val rfl rfl rfl (R_load rfl sc28 rfl (mmZ) rfl) ?_
      refine WL_val rfl rfl rfl (R_fieldAddr rfl fa41_3 rfl) ?_
      refine WL_val rfl rfl rfl (R_load rfl sc28 rfl (mmZ) rfl) ?_
      refine WL_do rfl rfl rfl (D_call (pget_nil dl now n) rfl rfl rfl rfl (pqZ)) ?_
      rintro _ _ ⟨_, ⟨rfl, rfl⟩, rfl⟩
      refine WL_val rfl rfl rfl (R_move rfl rfl) ?_
      refine WL_val rfl rfl rfl (R_extract rfl rfl rfl) ?_
      refine WL_val rfl rfl rfl (R_extract rfl rfl rfl) ?_
      refine WL_do rfl rfl rfl (D_alloc rfl zv44) ?_
      rintro _ _ ⟨b3, rfl, rfl⟩
      refine WL_do0 rfl rfl (D_store (vs := [_, _, _]) rfl Try.sizeOf44 rfl rfl rfl rfl rfl (plZ) (by exact Nat.le_of_ble_eq_true rfl)) ?_
      rintro _ _ rfl
      refine WL_val rfl rfl rfl (R_assign rfl rfl) ?_
      refine WL_nil ?_
      refine WQ_code ?_
      refine WC_seq ?_
      refine WC_region ?_
      refine WL_val rfl rfl rfl (R_move rfl rfl) ?_
      refine WL_do rfl rfl rfl (D_call (pnext_nil ) rfl rfl rfl rfl (pqZ)) ?_
      rintro _ _ ⟨_, ⟨rfl, rfl⟩, rfl⟩
      refine WL_val rfl rfl rfl (R_move rfl rfl) ?_
      refine WL_val rfl rfl rfl (R_extract rfl rfl rfl) ?_
      refine WL_val rfl rfl rfl (R_extract rfl rfl rfl) ?_
      refine WL_set (s := 32) (v := .bool false) rfl (by rfl) ?_
      refine WL_do rfl rfl rfl (D_alloc rfl zv44) ?_
      rintro _ _ ⟨b4, rfl, rfl⟩
      refine WL_do0 rfl rfl (D_store (vs := [_, _, _]) rfl Try.sizeOf44 rfl rfl rfl rfl rfl (plZ) (by exact Nat.le_of_ble_eq_true rfl)) ?_
      rintro _ _ rfl
      refine WL_val rfl rfl rfl (R_assign rfl rfl) ?_
      refine WL_nil ?_
      refine WQ_code ?_
      refine WC_seq ?_
      refine WC_region ?_
      refine WL_val rfl rfl rfl (R_loadA (vs := [_, _, _]) rfl ag44 rfl (mmZ) rfl (atZ)) ?_
      refine WL_val rfl rfl rfl (R_build rfl zv44 pl44 rfl rfl) ?_
      refine WL_val rfl rfl rfl (R_sne44 rfl rfl rfl rfl) ?_
      refine WL_val rfl rfl rfl (R_move rfl rfl) ?_
      refine WL_set (s := 36) (v := .bool false) rfl (by simp) ?_
      refine WL_val rfl rfl rfl (R_move rfl rfl) ?_
      refine WL_val rfl rfl rfl (R_neq rfl rfl rfl) ?_
      refine WL_val rfl rfl rfl (R_pickF rfl rfl rfl) ?_
      refine WL_val rfl rfl rfl (R_move rfl rfl) ?_
      refine WL_set (s := 40) (v := .bool false) rfl (by simp) ?_
      refine WL_val rfl rfl rfl (R_loadA (vs := [_, _, _]) rfl ag44 rfl (mmZ) rfl (atZ)) ?_
      refine WL_val rfl rfl rfl (R_build rfl zv44 pl44 rfl rfl) ?_
      refine WL_val rfl rfl rfl (R_sne44 rfl rfl rfl rfl) ?_
      refine WL_val rfl rfl rfl (R_pickF rfl rfl rfl) ?_
      refine WL_val rfl rfl rfl (R_move rfl rfl) ?_
      refine WL_set (s := 45) (v := .bool false) rfl (by simp) ?_
      refine WL_val rfl rfl rfl (R_move rfl rfl) ?_
      refine WL_val rfl rfl rfl (R_pickF rfl rfl rfl) ?_
      refine WL_val rfl rfl rfl (R_move rfl rfl) ?_
      refine WL_val rfl rfl rfl (R_move rfl rfl) ?_
      refine WL_val rfl rfl rfl (R_fieldAddr rfl fa41_1 rfl) ?_
      refine WL_val rfl rfl rfl (R_load rfl sc3 rfl (mmZ) rfl) ?_
      refine WL_val rfl rfl rfl (R_fieldAddr rfl fa41_4 rfl) ?_
      refine WL_val rfl rfl rfl (R_load rfl sc4 rfl (mmZ) rfl) ?_
      refine WL_val rfl rfl rfl (R_fieldAddr rfl fa41_2 rfl) ?_
      refine WL_val rfl rfl rfl (R_load rfl sc28 rfl (mmZ) rfl) ?_
      refine WL_do rfl rfl rfl (D_call (pdialed_nil n good now) rfl rfl rfl rfl (pqZ)) ?_
      rintro _ _ ⟨_, ⟨rfl, rfl⟩, rfl⟩
      refine WL_val rfl rfl rfl (R_neq rfl rfl rfl) ?_
      refine WL_val rfl rfl rfl (R_pickF rfl rfl rfl) ?_
      refine WL_val rfl rfl rfl (R_move rfl rfl) ?_
      refine WL_set (s := 59) (v := .bool false) rfl (by simp) ?_
      refine WL_val rfl rfl rfl (R_move rfl rfl) ?_
      refine WL_val rfl rfl rfl (R_fieldAddr rfl fa41_1 rfl) ?_
      refine WL_val rfl rfl rfl (R_load rfl sc3 rfl (mmZ) rfl) ?_
      refine WL_val rfl rfl rfl (R_fieldAddr rfl fa41_4 rfl) ?_
      refine WL_val rfl rfl rfl (R_load rfl sc4 rfl (mmZ) rfl) ?_
      refine WL_val rfl rfl rfl (R_fieldAddr rfl fa41_2 rfl) ?_
      refine WL_val rfl rfl rfl (R_load rfl sc28 rfl (mmZ) rfl) ?_
      refine WL_do rfl rfl rfl (D_call (pput_nil n good now) rfl rfl rfl rfl (pqZ)) ?_
      rintro _ _ ⟨_, ⟨rfl, rfl⟩, rfl⟩
      refine WL_val rfl rfl rfl (R_neq rfl rfl rfl) ?_
      refine WL_val rfl rfl rfl (R_pickF rfl rfl rfl) ?_
      refine WL_val rfl rfl rfl (R_move rfl rfl) ?_
      refine WL_set (s := 70) (v := .bool false) rfl (by simp) ?_
      refine WL_val rfl rfl rfl (R_move rfl rfl) ?_
      refine WL_val rfl rfl rfl (R_fieldAddr rfl fa41_1 rfl) ?_
      refine WL_val rfl rfl rfl (R_load rfl sc3 rfl (mmZ) rfl) ?_
      refine WL_val rfl rfl rfl (R_fieldAddr rfl fa41_2 rfl) ?_
      refine WL_val rfl rfl rfl (R_load rfl sc28 rfl (mmZ) rfl) ?_
      refine WL_do rfl rfl rfl (D_call (pcancel_nil now n) rfl rfl rfl rfl (pqZ)) ?_
      rintro _ _ ⟨_, ⟨rfl, rfl⟩, rfl⟩
      refine WL_val rfl rfl rfl (R_neq rfl rfl rfl) ?_
      refine WL_val rfl rfl rfl (R_pickF rfl rfl rfl) ?_
      refine WL_val rfl rfl rfl (R_move rfl rfl) ?_
      refine WL_set (s := 79) (v := .bool false) rfl (by simp) ?_
      refine WL_val rfl rfl rfl (R_move rfl rfl) ?_
      refine WL_val rfl rfl rfl (R_fieldAddr rfl fa41_2 rfl) ?_
      refine WL_val rfl rfl rfl (R_load rfl sc28 rfl (mmZ) rfl) ?_
      refine WL_do rfl rfl rfl (D_call (padv_nil now) rfl rfl rfl rfl (pqZ)) ?_
      rintro _ _ ⟨_, ⟨rfl, rfl⟩, rfl⟩
      refine WL_val rfl rfl rfl (R_neq rfl rfl rfl) ?_
      refine WL_val rfl rfl rfl (R_pickF rfl rfl rfl) ?_
      refine WL_val rfl rfl rfl (R_move rfl rfl) ?_
      refine WL_set (s := 86) (v := .bool false) rfl (by simp) ?_
      refine WL_val rfl rfl rfl (R_move rfl rfl) ?_
      refine WL_do rfl rfl rfl (D_call (pcounts_nil ) rfl rfl rfl rfl (pqZ)) ?_
      rintro _ _ ⟨_, ⟨rfl, rfl⟩, rfl⟩
      refine WL_val rfl rfl rfl (R_build rfl zv33 pl33 rfl rfl) ?_
      refine WL_val rfl rfl rfl (R_sne33 rfl rfl rfl rfl) ?_
      refine WL_val rfl rfl rfl (R_pickF rfl rfl rfl) ?_
      refine WL_val rfl rfl rfl (R_move rfl rfl) ?_
      refine WL_set (s := 92) (v := .bool false) rfl (by simp) ?_
      refine WL_val rfl rfl rfl (R_move rfl rfl) ?_
      refine WL_do rfl rfl rfl (D_call (pcopy_nil ) rfl rfl rfl rfl (pqZ)) ?_
      rintro _ _ ⟨_, ⟨rfl, rfl⟩, rfl⟩
      refine WL_val rfl rfl rfl (R_ptrNeNil rfl Try.underlying23 rfl) ?_
      refine WL_set (s := 95) (v := .bool false) rfl (by rfl) ?_
      refine WL_val rfl rfl rfl (R_pickF rfl rfl rfl) ?_
      refine WL_nil ?_
      refine WQ_code ?_
      refine WC_F rfl ?_
      refine WC_skip ?_
      refine WQ_code ?_
      refine WC_region ?_
      refine WL_val rfl rfl rfl (R_add rfl rfl rfl (by omega)) ?_
      refine WL_val rfl rfl rfl (R_move rfl rfl) ?_
      refine WL_nil ?_
      refine WQ_nextF (1) (by omega) (by omega) leZ (psZ) rfl (pqZ)
    · refine WC_skip ?_
      refine WQ_code ?_
      refine WC_seq ?_
      refine WC_block ?_
      refine WC_seq ?_
      refine WC_region ?_
      refine WL_val rfl rfl rfl (R_indexAddrN rfl Try.underlying72 Try.sizeOf23 rfl rfl (by omega)) ?_
      refine WL_val rfl rfl rfl (R_load (v := ptrP bz) rfl sc23 rfl (mmZ) (rfl)) ?_
      refine WL_val rfl rfl rfl (R_assign rfl rfl) ?_
      refine WL_nil ?_
      refine WQ_code ?_
      refine WC_seq ?_
      refine WC_region ?_
      refine WL_val rfl rfl rfl (R_move rfl rfl) ?_
      refine WL_val rfl rfl rfl (R_fieldAddr rfl fa41_1 rfl) ?_
      refine WL_val rfl rfl rfl (R_load rfl sc3 rfl (mmZ) rfl) ?_
      refine WL_val rfl rfl rfl (R_fieldAddr rfl fa41_2 rfl) ?_
      refine WL_val rfl rfl rfl (R_load rfl sc28 rfl (mmZ) rfl) ?_
      refine WL_val rfl rfl rfl (R_fieldAddr rfl fa41_3 rfl) ?_
      refine WL_val rfl rfl rfl (R_load rfl sc28 rfl (mmZ) rfl) ?_
      refine WL_do rfl rfl rfl (D_call (pget_zero dl now n bz) rfl rfl rfl rfl (pqZ)) ?_
      rintro _ _ ⟨_, ⟨rfl, rfl⟩, rfl⟩
      refine WL_val rfl rfl rfl (R_move rfl rfl) ?_
      refine WL_val rfl rfl rfl (R_extract rfl rfl rfl) ?_
      refine WL_val rfl rfl rfl (R_extract rfl rfl rfl) ?_
      refine WL_do rfl rfl rfl (D_alloc rfl zv44) ?_
      rintro _ _ ⟨b5, rfl, rfl⟩
      refine WL_do0 rfl rfl (D_store (vs := [_, _, _]) rfl Try.sizeOf44 rfl rfl rfl rfl rfl (plZ) (by exact Nat.le_of_ble_eq_true rfl)) ?_
      rintro _ _ rfl
      refine WL_val rfl rfl rfl (R_assign rfl rfl) ?_
      refine WL_nil ?_
      refine WQ_code ?_
      refine WC_seq ?_
      refine WC_region ?_
      refine WL_val rfl rfl rfl (R_move rfl rfl) ?_
      refine WL_do rfl rfl rfl (D_call (pnext_zero  bz) rfl rfl rfl rfl (pqZ)) ?_
      rintro _ _ ⟨_, ⟨rfl, rfl⟩, rfl⟩
      refine WL_val rfl rfl rfl (R_move rfl rfl) ?_
      refine WL_val rfl rfl rfl (R_extract rfl rfl rfl) ?_
      refine WL_val rfl rfl rfl (R_extract rfl rfl rfl) ?_
      refine WL_set (s := 32) (v := .bool false) rfl (by rfl) ?_
      refine WL_do rfl rfl rfl (D_alloc rfl zv44) ?_
      rintro _ _ ⟨b6, rfl, rfl⟩
      refine WL_do0 rfl rfl (D_store (vs := [_, _, _]) rfl Try.sizeOf44 rfl rfl rfl rfl rfl (plZ) (by exact Nat.le_of_ble_eq_true rfl)) ?_
      rintro _ _ rfl
      refine WL_val rfl rfl rfl (R_assign rfl rfl) ?_
      refine WL_nil ?_
      refine WQ_code ?_
      refine WC_seq ?_
      refine WC_region ?_
      refine WL_val rfl rfl rfl (R_loadA (vs := [_, _, _]) rfl ag44 rfl (mmZ) rfl (atZ)) ?_
      refine WL_val rfl rfl rfl (R_build rfl zv44 pl44 rfl rfl) ?_
      refine WL_val rfl rfl rfl (R_sne44 rfl rfl rfl rfl) ?_
      refine WL_val rfl rfl rfl (R_move rfl rfl) ?_
      refine WL_set (s := 36) (v := .bool false) rfl (by simp) ?_
      refine WL_val rfl rfl rfl (R_move rfl rfl) ?_
      refine WL_val rfl rfl rfl (R_neq rfl rfl rfl) ?_
      refine WL_val rfl rfl rfl (R_pickF rfl rfl rfl) ?_
      refine WL_val rfl rfl rfl (R_move rfl rfl) ?_
      refine WL_set (s := 40) (v := .bool false) rfl (by simp) ?_
      refine WL_val rfl rfl rfl (R_loadA (vs := [_, _, _]) rfl ag44 rfl (mmZ) rfl (atZ)) ?_
      refine WL_val rfl rfl rfl (R_build rfl zv44 pl44 rfl rfl) ?_
      refine WL_val rfl rfl rfl (R_sne44 rfl rfl rfl rfl) ?_
      refine WL_val rfl rfl rfl (R_pickF rfl rfl rfl) ?_
      refine WL_val rfl rfl rfl (R_move rfl rfl) ?_
      refine WL_set (s := 45) (v := .bool false) rfl (by simp) ?_
      refine WL_val rfl rfl rfl (R_move rfl rfl) ?_
      refine WL_val rfl rfl rfl (R_pickF rfl rfl rfl) ?_
      refine WL_val rfl rfl rfl (R_move rfl rfl) ?_
      refine WL_val rfl rfl rfl (R_move rfl rfl) ?_
      refine WL_val rfl rfl rfl (R_fieldAddr rfl fa41_1 rfl) ?_
      refine WL_val rfl rfl rfl (R_load rfl sc3 rfl (mmZ) rfl) ?_
      refine WL_val rfl rfl rfl (R_fieldAddr rfl fa41_4 rfl) ?_
      refine WL_val rfl rfl rfl (R_load rfl sc4 rfl (mmZ) rfl) ?_
      refine WL_val rfl rfl rfl (R_fieldAddr rfl fa41_2 rfl) ?_
      refine WL_val rfl rfl rfl (R_load rfl sc28 rfl (mmZ) rfl) ?_
      refine WL_do rfl rfl rfl (D_call (pdialed_zero n good now bz) rfl rfl rfl rfl (pqZ)) ?_
      rintro _ _ ⟨_, ⟨rfl, rfl⟩, rfl⟩
      refine WL_val rfl rfl rfl (R_neq rfl rfl rfl) ?_
      refine WL_val rfl rfl rfl (R_pickF rfl rfl rfl) ?_
      refine WL_val rfl rfl rfl (R_move rfl rfl) ?_
      refine WL_set (s := 59) (v := .bool false) rfl (by simp) ?_
      refine WL_val rfl rfl rfl (R_move rfl rfl) ?_
      refine WL_val rfl rfl rfl (R_fieldAddr rfl fa41_1 rfl) ?_
      refine WL_val rfl rfl rfl (R_load rfl sc3 rfl (mmZ) rfl) ?_
      refine WL_val rfl rfl rfl (R_fieldAddr rfl fa41_4 rfl) ?_
      refine WL_val rfl rfl rfl (R_load rfl sc4 rfl (mmZ) rfl) ?_
      refine WL_val rfl rfl rfl (R_fieldAddr rfl fa41_2 rfl) ?_
      refine WL_val rfl rfl rfl (R_load rfl sc28 rfl (mmZ) rfl) ?_
      refine WL_do rfl rfl rfl (D_call (pput_zero n good now bz) rfl rfl rfl rfl (pqZ)) ?_
      rintro _ _ ⟨_, ⟨rfl, rfl⟩, rfl⟩
      refine WL_val rfl rfl rfl (R_neq rfl rfl rfl) ?_
      refine WL_val rfl rfl rfl (R_pickF rfl rfl rfl) ?_
      refine WL_val rfl rfl rfl (R_move rfl rfl) ?_
      refine WL_set (s := 70) (v := .bool false) rfl (by simp) ?_
      refine WL_val rfl rfl rfl (R_move rfl rfl) ?_
      refine WL_val rfl rfl rfl (R_fieldAddr rfl fa41_1 rfl) ?_
      refine WL_val rfl rfl rfl (R_load rfl sc3 rfl (mmZ) rfl) ?_
      refine WL_val rfl rfl rfl (R_fieldAddr rfl fa41_2 rfl) ?_
      refine WL_val rfl rfl rfl (R_load rfl sc28 rfl (mmZ) rfl) ?_
      refine WL_do rfl rfl rfl (D_call (pcancel_zero now n bz) rfl rfl rfl rfl (pqZ)) ?_
      rintro _ _ ⟨_, ⟨rfl, rfl⟩, rfl⟩
      refine WL_val rfl rfl rfl (R_neq rfl rfl rfl) ?_
      refine WL_val rfl rfl rfl (R_pickF rfl rfl rfl) ?_
      refine WL_val rfl rfl rfl (R_move rfl rfl) ?_
      refine WL_set (s := 79) (v := .bool false) rfl (by simp) ?_
      refine WL_val rfl rfl rfl (R_move rfl rfl) ?_
      refine WL_val rfl rfl rfl (R_fieldAddr rfl fa41_2 rfl) ?_
      refine WL_val rfl rfl rfl (R_load rfl sc28 rfl (mmZ) rfl) ?_
      refine WL_do rfl rfl rfl (D_call (padv_zero now bz) rfl rfl rfl rfl (pqZ)) ?_
      rintro _ _ ⟨_, ⟨rfl, rfl⟩, rfl⟩
      refine WL_val rfl rfl rfl (R_neq rfl rfl rfl) ?_
      refine WL_val rfl rfl rfl (R_pickF rfl rfl rfl) ?_
      refine WL_val rfl rfl rfl (R_move rfl rfl) ?_
      refine WL_set (s := 86) (v := .bool false) rfl (by simp) ?_
      refine WL_val rfl rfl rfl (R_move rfl rfl) ?_
      refine WL_do rfl rfl rfl (D_call (pcounts_zero  bz) rfl rfl rfl rfl (pqZ)) ?_
      rintro _ _ ⟨_, ⟨rfl, rfl⟩, rfl⟩
      refine WL_val rfl rfl rfl (R_build rfl zv33 pl33 rfl rfl) ?_
      refine WL_val rfl rfl rfl (R_sne33 rfl rfl rfl rfl) ?_
      refine WL_val rfl rfl rfl (R_pickF rfl rfl rfl) ?_
      refine WL_val rfl rfl rfl (R_move rfl rfl) ?_
      refine WL_set (s := 92) (v := .bool false) rfl (by simp) ?_
      refine WL_val rfl rfl rfl (R_move rfl rfl) ?_
      refine WL_do rfl rfl rfl (D_call (pcopy_zero  bz) rfl rfl rfl rfl (pqZ)) ?_
      rintro _ _ ⟨_, ⟨rfl, rfl⟩, rfl⟩
      refine WL_val rfl rfl rfl (R_ptrNeNil rfl Try.underlying23 rfl) ?_
      refine WL_set (s := 95) (v := .bool false) rfl (by rfl) ?_
      refine WL_val rfl rfl rfl (R_pickF rfl rfl rfl) ?_
      refine WL_nil ?_
      refine WQ_code ?_
      refine WC_F rfl ?_
      refine WC_skip ?_
      refine WQ_code ?_
      refine WC_region ?_
      refine WL_val rfl rfl rfl (R_add rfl rfl rfl (by omega)) ?_
      refine WL_val rfl rfl rfl (R_move rfl rfl) ?_
      refine WL_nil ?_
      refine WQ_nextF (2) (by omega) (by omega) leZ (psZ) rfl (pqZ)
  · refine WC_exit ?_
    refine WQ_code ?_
    refine WC_seq ?_
    refine WC_region ?_
    refine WL_do rfl rfl rfl (D_call (known_ok) rfl rfl rfl rfl (pqZ)) ?_
    rintro _ _ ⟨_, ⟨rfl, rfl⟩, rfl⟩
    refine WL_val rfl rfl rfl (R_assign rfl rfl) ?_
    refine WL_nil ?_
    refine WQ_code ?_
    refine WC_ret ?_
    refine WQ_ret rfl rfl (.cons (.tmp rfl) .nil) rfl (by
        exact ⟨rfl, rfl⟩) (pqZ)

end Go.Proofs.Yteofigbgdbpjgaa
