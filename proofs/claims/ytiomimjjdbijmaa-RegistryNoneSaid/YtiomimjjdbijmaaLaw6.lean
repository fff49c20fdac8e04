/-
  Chapter 17 (registry), part Law6: contracts of functions that the laws call, each for the heap it names.
-/
import Derived.Test.YtiomimjjdbijmaaRows
import Derived.Test.YtiomimjjdbijmaaZB
import Derived.Test.YtiomimjjdbijmaaSLMapJ
import Derived.Test.YtiomimjjdbijmaaSLScope
import Derived.Test.YtiomimjjdbijmaaTab
import Derived.Test.YtiomimjjdbijmaaLaw2
import Derived.Test.YtiomimjjdbijmaaLaw5
set_option linter.unusedVariables false
set_option maxRecDepth 20000
set_option maxHeartbeats 4000000
namespace Go.Proofs.Ytiomimjjdbijmaa


theorem known_ok (hs : SortOk) : Spec Try.prog 8 [] [] (fun r H' => r = .bool true ∧ H' = []) := by
  refine Spec.of (E := []) Try.func8 rfl (by kernel_rfl) Try.ntmps8 rfl rfl (fun w => ?_)
  refine WC_seq ?_
  refine WC_region ?_
  refine WL_val rfl rfl rfl (R_assign rfl rfl) ?_
  refine WL_nil ?_
  refine WQ_code ?_
  refine WC_seq ?_
  refine WC_region ?_
  refine WL_do rfl rfl rfl (D_call (rnew_ok) rfl rfl rfl rfl (pqZ)) ?_
  rintro _ _ ⟨_, ⟨r0, rfl, rfl, g0⟩, rfl⟩
  refine WL_val rfl rfl rfl (R_assign rfl rfl) ?_
  refine WL_nil ?_
  refine WQ_code ?_
  refine WC_seq ?_
  refine WC_region ?_
  refine WL_val rfl rfl rfl (R_build rfl zv23 pl23 rfl rfl) ?_
  refine WL_do rfl rfl rfl (D_alloc rfl zv23) ?_
  rintro _ _ ⟨b1, rfl, rfl⟩
  refine WL_do0 rfl rfl (D_store (vs := [_, _]) rfl Try.sizeOf23 rfl rfl rfl rfl rfl (plZ) (by exact Nat.le_of_ble_eq_true rfl)) ?_
  rintro _ _ rfl
  refine WL_nil ?_
  refine WQ_code ?_
  refine WC_seq ?_
  refine WC_seq ?_
  refine WC_draw ([⟨some b1, _⟩]) [(0, true), (1, true), (2, true), (3, true), (4, false), (5, false), (6, false), (7, true), (8, true), (9, true), (10, true), (12, true), (11, false), (13, false), (14, true), (15, true), (16, true), (17, true), (18, false), (19, false), (20, false), (21, true), (22, true), (23, true), (24, true), (25, false), (26, false), (27, false), (28, true), (29, true), (30, true), (31, true), (32, false), (33, false), (34, false), (35, true), (36, true)] followsMixed rfl rfl (by kernel_rfl) pqZ ?_
  refine WM_val rfl rfl rfl rfl (R_move rfl rfl) ?_
  refine WM_val rfl rfl rfl rfl (R_ptrEqNil rfl Try.underlying25 rfl) ?_
  refine WM_val rfl rfl rfl rfl (R_move rfl rfl) ?_
  refine WM_val rfl rfl rfl rfl (R_move rfl rfl) ?_
  refine WM_do rfl rfl rfl rfl (D_call (to_ok _ _) rfl rfl rfl rfl (pqZ)) ?_
  rintro _ _ ⟨_, ⟨rfl, rfl⟩, rfl⟩
  refine ⟨⟨_, pqZ⟩, ?_⟩
  refine WM_do rfl rfl rfl rfl (D_call (to_ok _ _) rfl rfl rfl rfl (pqZ)) ?_
  rintro _ _ ⟨_, ⟨rfl, rfl⟩, rfl⟩
  refine ⟨⟨_, pqZ⟩, ?_⟩
  refine WM_do rfl rfl rfl rfl (D_call (binds_run g0 wb 80 (7) wb 80 0 kr1 kn1.1 kn1.2) rfl rfl rfl rfl (pqZ)) ?_
  rintro _ _ ⟨_, ⟨rfl, r1, rfl, p1, g1⟩, rfl⟩
  refine ⟨⟨_, pqZ⟩, ?_⟩
  rw [← p1]
  refine WM_val rfl rfl rfl rfl (R_not rfl rfl) ?_
  refine WM_val rfl rfl rfl rfl (R_pickF rfl rfl rfl) ?_
  refine WM_val rfl rfl rfl rfl (R_move rfl rfl) ?_
  refine WM_val rfl rfl rfl rfl (R_move rfl rfl) ?_
  refine WM_val rfl rfl rfl rfl (R_loadA (vs := [_, _]) rfl ag23 rfl (mmZ) rfl (atZ)) ?_
  refine WM_do rfl rfl rfl rfl (D_call (to_ok _ _) rfl rfl rfl rfl (pqZ)) ?_
  rintro _ _ ⟨_, ⟨rfl, rfl⟩, rfl⟩
  refine ⟨⟨_, pqZ⟩, ?_⟩
  refine WM_do rfl rfl rfl rfl (D_call (binds_run g1 wb 80 (8) ⟨#[]⟩ 0 11 kr1 kn2.1 kn2.2) rfl rfl rfl rfl (pqZ)) ?_
  rintro _ _ ⟨_, ⟨rfl, r2, rfl, p2, g2⟩, rfl⟩
  refine ⟨⟨_, pqZ⟩, ?_⟩
  rw [← p2]
  refine WM_val rfl rfl rfl rfl (R_not rfl rfl) ?_
  refine WM_val rfl rfl rfl rfl (R_pickF rfl rfl rfl) ?_
  refine WM_val rfl rfl rfl rfl (R_move rfl rfl) ?_
  refine WM_val rfl rfl rfl rfl (R_move rfl rfl) ?_
  refine WM_do rfl rfl rfl rfl (D_call (to_ok _ _) rfl rfl rfl rfl (pqZ)) ?_
  rintro _ _ ⟨_, ⟨rfl, rfl⟩, rfl⟩
  refine ⟨⟨_, pqZ⟩, ?_⟩
  refine WM_do rfl rfl rfl rfl (D_call (to_ok _ _) rfl rfl rfl rfl (pqZ)) ?_
  rintro _ _ ⟨_, ⟨rfl, rfl⟩, rfl⟩
  refine ⟨⟨_, pqZ⟩, ?_⟩
  refine WM_do rfl rfl rfl rfl (D_call (binds_run g2 wb 0 (9) wb 49152 0 kr3 kn3.1 kn3.2) rfl rfl rfl rfl (pqZ)) ?_
  rintro _ _ ⟨_, ⟨rfl, r3, rfl, p3, g3⟩, rfl⟩
  refine ⟨⟨_, pqZ⟩, ?_⟩
  rw [← p3]
  refine WM_val rfl rfl rfl rfl (R_not rfl rfl) ?_
  refine WM_val rfl rfl rfl rfl (R_pickF rfl rfl rfl) ?_
  refine WM_val rfl rfl rfl rfl (R_move rfl rfl) ?_
  refine WM_val rfl rfl rfl rfl (R_move rfl rfl) ?_
  refine WM_do rfl rfl rfl rfl (D_call (to_ok _ _) rfl rfl rfl rfl (pqZ)) ?_
  rintro _ _ ⟨_, ⟨rfl, rfl⟩, rfl⟩
  refine ⟨⟨_, pqZ⟩, ?_⟩
  refine WM_do rfl rfl rfl rfl (D_call (to_ok _ _) rfl rfl rfl rfl (pqZ)) ?_
  rintro _ _ ⟨_, ⟨rfl, rfl⟩, rfl⟩
  refine ⟨⟨_, pqZ⟩, ?_⟩
  refine WM_do rfl rfl rfl rfl (D_call (binds_run g3 wb 0 (5) wb 49153 0 kr4 kn4.1 kn4.2) rfl rfl rfl rfl (pqZ)) ?_
  rintro _ _ ⟨_, ⟨rfl, r4, rfl, p4, g4⟩, rfl⟩
  refine ⟨⟨_, pqZ⟩, ?_⟩
  rw [← p4]
  refine WM_val rfl rfl rfl rfl (R_not rfl rfl) ?_
  refine WM_val rfl rfl rfl rfl (R_pickF rfl rfl rfl) ?_
  refine WM_val rfl rfl rfl rfl (R_move rfl rfl) ?_
  refine WM_val rfl rfl rfl rfl (R_move rfl rfl) ?_
  refine WM_do rfl rfl rfl rfl (D_call (to_ok _ _) rfl rfl rfl rfl (pqZ)) ?_
  rintro _ _ ⟨_, ⟨rfl, rfl⟩, rfl⟩
  refine ⟨⟨_, pqZ⟩, ?_⟩
  refine WM_do rfl rfl rfl rfl (D_call (to_ok _ _) rfl rfl rfl rfl (pqZ)) ?_
  rintro _ _ ⟨_, ⟨rfl, rfl⟩, rfl⟩
  refine ⟨⟨_, pqZ⟩, ?_⟩
  refine WM_do rfl rfl rfl rfl (D_call (binds_run g4 db 0 (1) db 49152 0 kr5 kn5.1 kn5.2) rfl rfl rfl rfl (pqZ)) ?_
  rintro _ _ ⟨_, ⟨rfl, r5, rfl, p5, g5⟩, rfl⟩
  refine ⟨⟨_, pqZ⟩, ?_⟩
  rw [← p5]
  refine WM_val rfl rfl rfl rfl (R_not rfl rfl) ?_
  refine WM_val rfl rfl rfl rfl (R_pickF rfl rfl rfl) ?_
  refine WM_nil ?_
  refine WQ_code ?_
  refine WC_F rfl ?_
  refine WC_skip ?_
  refine WQ_code ?_
  refine WC_seq ?_
  refine WC_region ?_
  refine WL_val rfl rfl rfl (R_move rfl rfl) ?_
  refine WL_do rfl rfl rfl (D_call (to_ok _ _) rfl rfl rfl rfl (pqZ)) ?_
  rintro _ _ ⟨_, ⟨rfl, rfl⟩, rfl⟩
  refine WL_do rfl rfl rfl (D_call (rel_run g5 wb 49152 9 0 kr6 kn6.1 kn6.2) rfl rfl rfl rfl (pqZ)) ?_
  rintro _ _ ⟨_, ⟨r6, rfl, rfl, p6, g6⟩, rfl⟩
  rw [← p6]
  refine WL_val rfl rfl rfl (R_move rfl rfl) ?_
  refine WL_val rfl rfl rfl (R_extract rfl rfl rfl) ?_
  refine WL_val rfl rfl rfl (R_extract rfl rfl rfl) ?_
  refine WL_val rfl rfl rfl (R_assign rfl rfl) ?_
  refine WL_val rfl rfl rfl (R_assign rfl rfl) ?_
  refine WL_nil ?_
  refine WQ_code ?_
  refine WC_seq ?_
  refine WC_region ?_
  refine WL_val rfl rfl rfl (R_move rfl rfl) ?_
  refine WL_do rfl rfl rfl (D_call (free_run g6 wb kn6f.1 49152 kn6f.2) rfl rfl rfl rfl (pqZ)) ?_
  rintro _ _ ⟨_, ⟨rfl, rfl⟩, rfl⟩
  refine WL_val rfl rfl rfl (R_move rfl rfl) ?_
  refine WL_val rfl rfl rfl (R_extract rfl rfl rfl) ?_
  refine WL_val rfl rfl rfl (R_extract rfl rfl rfl) ?_
  refine WL_val rfl rfl rfl (R_assign rfl rfl) ?_
  refine WL_val rfl rfl rfl (R_assign rfl rfl) ?_
  refine WL_nil ?_
  refine WQ_code ?_
  refine WC_seq ?_
  refine WC_seq ?_
  refine WC_region ?_
  refine WL_val rfl rfl rfl (R_move rfl rfl) ?_
  refine WL_val rfl rfl rfl (R_neq rfl rfl rfl) ?_
  refine WL_set (s := 58) (v := .bool false) rfl (by simp) ?_
  refine WL_val rfl rfl rfl (R_move rfl rfl) ?_
  refine WL_val rfl rfl rfl (R_move rfl rfl) ?_
  refine WL_val rfl rfl rfl (R_neq rfl rfl rfl) ?_
  refine WL_set (s := 61) (v := .bool false) rfl (by simp) ?_
  refine WL_val rfl rfl rfl (R_pickF rfl rfl rfl) ?_
  refine WL_val rfl rfl rfl (R_move rfl rfl) ?_
  refine WL_val rfl rfl rfl (R_move rfl rfl) ?_
  refine WL_val rfl rfl rfl (R_neq rfl rfl rfl) ?_
  refine WL_set (s := 65) (v := .bool false) rfl (by simp) ?_
  refine WL_val rfl rfl rfl (R_pickF rfl rfl rfl) ?_
  refine WL_val rfl rfl rfl (R_move rfl rfl) ?_
  refine WL_val rfl rfl rfl (R_move rfl rfl) ?_
  refine WL_val rfl rfl rfl (R_neq rfl rfl rfl) ?_
  refine WL_set (s := 69) (v := .bool false) rfl (by simp) ?_
  refine WL_val rfl rfl rfl (R_pickF rfl rfl rfl) ?_
  refine WL_val rfl rfl rfl (R_move rfl rfl) ?_
  refine WL_val rfl rfl rfl (R_move rfl rfl) ?_
  refine WL_do rfl rfl rfl (D_call (to_ok _ _) rfl rfl rfl rfl (pqZ)) ?_
  rintro _ _ ⟨_, ⟨rfl, rfl⟩, rfl⟩
  refine WL_do rfl rfl rfl (D_call (to_ok _ _) rfl rfl rfl rfl (pqZ)) ?_
  rintro _ _ ⟨_, ⟨rfl, rfl⟩, rfl⟩
  refine WL_do rfl rfl rfl (D_call (binds_run g6 wb 0 (3) wb 49152 0 kr7 kn7.1 kn7.2) rfl rfl rfl rfl (pqZ)) ?_
  rintro _ _ ⟨_, ⟨rfl, r7, rfl, p7, g7⟩, rfl⟩
  rw [← p7]
  refine WL_val rfl rfl rfl (R_not rfl rfl) ?_
  refine WL_val rfl rfl rfl (R_pickF rfl rfl rfl) ?_
  refine WL_val rfl rfl rfl (R_move rfl rfl) ?_
  refine WL_val rfl rfl rfl (R_move rfl rfl) ?_
  refine WL_do rfl rfl rfl (D_call (to_ok _ _) rfl rfl rfl rfl (pqZ)) ?_
  rintro _ _ ⟨_, ⟨rfl, rfl⟩, rfl⟩
  refine WL_do rfl rfl rfl (D_call (finds_run g7 wb 0 0 9 kn8.1) rfl rfl rfl rfl (pqZ)) ?_
  rintro _ _ ⟨_, ⟨rfl, rfl⟩, rfl⟩
  refine WL_val rfl rfl rfl (R_not rfl rfl) ?_
  refine WL_val rfl rfl rfl (R_pickF rfl rfl rfl) ?_
  refine WL_val rfl rfl rfl (R_move rfl rfl) ?_
  refine WL_val rfl rfl rfl (R_move rfl rfl) ?_
  refine WL_do rfl rfl rfl (D_call (to_ok _ _) rfl rfl rfl rfl (pqZ)) ?_
  rintro _ _ ⟨_, ⟨rfl, rfl⟩, rfl⟩
  refine WL_do rfl rfl rfl (D_call (finds_run g7 wb 49153 5 0 kn8.2) rfl rfl rfl rfl (pqZ)) ?_
  rintro _ _ ⟨_, ⟨rfl, rfl⟩, rfl⟩
  refine WL_val rfl rfl rfl (R_not rfl rfl) ?_
  refine WL_val rfl rfl rfl (R_pickF rfl rfl rfl) ?_
  refine WL_nil ?_
  refine WQ_code ?_
  refine WC_F rfl ?_
  refine WC_skip ?_
  refine WQ_code ?_
  refine WC_seq ?_
  refine WC_seq ?_
  refine WC_region ?_
  refine WL_val rfl rfl rfl (R_move rfl rfl) ?_
  refine WL_do rfl rfl rfl (D_call (rlen_ok g7) rfl rfl rfl rfl (pqZ)) ?_
  rintro _ _ ⟨_, ⟨rfl, rfl⟩, rfl⟩
  refine WL_val rfl rfl rfl (R_neq rfl rfl rfl) ?_
  refine WL_set (s := 92) (v := .bool false) rfl (by simp [kr7]) ?_
  refine WL_val rfl rfl rfl (R_move rfl rfl) ?_
  refine WL_val rfl rfl rfl (R_move rfl rfl) ?_
  refine WL_do rfl rfl rfl (D_call (to_ok _ _) rfl rfl rfl rfl (pqZ)) ?_
  rintro _ _ ⟨_, ⟨rfl, rfl⟩, rfl⟩
  refine WL_val rfl rfl rfl (R_build rfl zv56 pl56 rfl rfl) ?_
  refine WL_do rfl rfl rfl (D_call (to_ok _ _) rfl rfl rfl rfl (pqZ)) ?_
  rintro _ _ ⟨_, ⟨rfl, rfl⟩, rfl⟩
  refine WL_val rfl rfl rfl (R_build rfl zv56 pl56 rfl rfl) ?_
  refine WL_do rfl rfl rfl (D_call (to_ok _ _) rfl rfl rfl rfl (pqZ)) ?_
  rintro _ _ ⟨_, ⟨rfl, rfl⟩, rfl⟩
  refine WL_val rfl rfl rfl (R_build rfl zv56 pl56 rfl rfl) ?_
  refine WL_do rfl rfl rfl (D_call (to_ok _ _) rfl rfl rfl rfl (pqZ)) ?_
  rintro _ _ ⟨_, ⟨rfl, rfl⟩, rfl⟩
  refine WL_val rfl rfl rfl (R_build rfl zv56 pl56 rfl rfl) ?_
  refine WL_do rfl rfl rfl (D_buildSlice rfl si27 rfl rfl rfl) ?_
  rintro _ _ ⟨b2, rfl, rfl⟩
  refine WL_do rfl rfl rfl (D_call (lists_ok hs g7 (W := kr7) (o := some b2) (c := 4) (tl := []) ⟨rfl, rfl, by decide, by decide, fun e => by cases e⟩) rfl rfl rfl rfl (pqZ)) ?_
  rintro _ _ ⟨_, ⟨rfl, rfl⟩, rfl⟩
  refine WL_val rfl rfl rfl (R_not rfl rfl) ?_
  refine WL_val rfl rfl rfl (R_pickF rfl rfl rfl) ?_
  refine WL_nil ?_
  refine WQ_code ?_
  refine WC_F rfl ?_
  refine WC_skip ?_
  refine WQ_code ?_
  refine WC_seq ?_
  refine WC_region ?_
  refine WL_val rfl rfl rfl (R_move rfl rfl) ?_
  refine WL_do rfl rfl rfl (D_call (to_ok _ _) rfl rfl rfl rfl (pqZ)) ?_
  rintro _ _ ⟨_, ⟨rfl, rfl⟩, rfl⟩
  refine WL_do rfl rfl rfl (D_call (rel_run g7 ⟨#[97]⟩ 80 0 9 kr7 kn9.1 kn9.2.1) rfl rfl rfl rfl (pqZ)) ?_
  rintro _ _ ⟨_, ⟨r8, rfl, rfl, p8, g8⟩, rfl⟩
  rw [← p8]
  refine WL_val rfl rfl rfl (R_move rfl rfl) ?_
  refine WL_val rfl rfl rfl (R_extract rfl rfl rfl) ?_
  refine WL_val rfl rfl rfl (R_extract rfl rfl rfl) ?_
  refine WL_val rfl rfl rfl (R_assign rfl rfl) ?_
  refine WL_nil ?_
  refine WQ_code ?_
  refine WC_seq ?_
  refine WC_region ?_
  refine WL_val rfl rfl rfl (R_move rfl rfl) ?_
  refine WL_do rfl rfl rfl (D_call (free_bad g8 ⟨#[]⟩ kn9.2.2) rfl rfl rfl rfl (pqZ)) ?_
  rintro _ _ ⟨_, ⟨rfl, rfl⟩, rfl⟩
  refine WL_val rfl rfl rfl (R_move rfl rfl) ?_
  refine WL_val rfl rfl rfl (R_extract rfl rfl rfl) ?_
  refine WL_val rfl rfl rfl (R_extract rfl rfl rfl) ?_
  refine WL_val rfl rfl rfl (R_assign rfl rfl) ?_
  refine WL_nil ?_
  refine WQ_code ?_
  refine WC_seq ?_
  refine WC_draw ([⟨some b1, _⟩]) [(0, true), (2, true), (1, false), (3, false), (4, true), (5, true), (7, true), (6, false), (8, false), (9, true), (10, true), (11, true), (12, true), (13, true), (14, true), (15, true), (16, true), (17, true), (18, true)] followsMixed rfl rfl (by kernel_rfl) pqZ ?_
  refine WM_val rfl rfl rfl rfl (R_move rfl rfl) ?_
  refine WM_val rfl rfl rfl rfl (R_loadA (vs := [_, _]) rfl ag23 rfl (mmZ) rfl (atZ)) ?_
  refine WM_do rfl rfl rfl rfl (D_call (to_ok _ _) rfl rfl rfl rfl (pqZ)) ?_
  rintro _ _ ⟨_, ⟨rfl, rfl⟩, rfl⟩
  refine ⟨⟨_, pqZ⟩, ?_⟩
  refine WM_do rfl rfl rfl rfl (D_call (binds_run g8 ⟨#[49]⟩ 80 (7) ⟨#[]⟩ 0 2 kr7 kn10.1 kn10.2) rfl rfl rfl rfl (pqZ)) ?_
  rintro _ _ ⟨_, ⟨rfl, r9, rfl, p9, g9⟩, rfl⟩
  refine ⟨⟨_, pqZ⟩, ?_⟩
  rw [← p9]
  refine WM_val rfl rfl rfl rfl (R_move rfl rfl) ?_
  refine WM_val rfl rfl rfl rfl (R_move rfl rfl) ?_
  refine WM_val rfl rfl rfl rfl (R_loadA (vs := [_, _]) rfl ag23 rfl (mmZ) rfl (atZ)) ?_
  refine WM_do rfl rfl rfl rfl (D_call (to_ok _ _) rfl rfl rfl rfl (pqZ)) ?_
  rintro _ _ ⟨_, ⟨rfl, rfl⟩, rfl⟩
  refine ⟨⟨_, pqZ⟩, ?_⟩
  refine WM_do rfl rfl rfl rfl (D_call (binds_run g9 ⟨#[97]⟩ 80 (-1) ⟨#[]⟩ 0 2 kr7 kn11.1 kn11.2) rfl rfl rfl rfl (pqZ)) ?_
  rintro _ _ ⟨_, ⟨rfl, r10, rfl, p10, g10⟩, rfl⟩
  refine ⟨⟨_, pqZ⟩, ?_⟩
  rw [← p10]
  refine WM_val rfl rfl rfl rfl (R_pickT rfl rfl rfl) ?_
  refine WM_val rfl rfl rfl rfl (R_move rfl rfl) ?_
  refine WM_val rfl rfl rfl rfl (R_move rfl rfl) ?_
  refine WM_val rfl rfl rfl rfl (R_eql rfl rfl rfl) ?_
  refine WM_set (s := 130) (v := .bool true) rfl (by simp) ?_
  refine WM_val rfl rfl rfl rfl (R_pickT rfl rfl rfl) ?_
  refine WM_val rfl rfl rfl rfl (R_move rfl rfl) ?_
  refine WM_val rfl rfl rfl rfl (R_move rfl rfl) ?_
  refine WM_val rfl rfl rfl rfl (R_eql rfl rfl rfl) ?_
  refine WM_set (s := 134) (v := .bool true) rfl (by simp) ?_
  refine WM_val rfl rfl rfl rfl (R_pickT rfl rfl rfl) ?_
  refine WM_val rfl rfl rfl rfl (R_assign rfl rfl) ?_
  refine WM_nil ?_
  refine WQ_code ?_
  refine WC_ret ?_
  refine WQ_ret rfl rfl (.cons (.tmp rfl) .nil) rfl (by
      exact ⟨rfl, rfl⟩) (pqZ)

end Go.Proofs.Ytiomimjjdbijmaa
