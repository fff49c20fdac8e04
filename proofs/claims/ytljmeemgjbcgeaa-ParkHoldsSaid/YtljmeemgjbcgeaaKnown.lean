/-
  Chapter 09 (park), part Known: contracts of functions that the laws call, each for the heap it names.
-/
import Derived.Test.YtljmeemgjbcgeaaRows
import Derived.Test.YtljmeemgjbcgeaaZSLQueue
import Derived.Test.YtljmeemgjbcgeaaTab
import Derived.Test.YtljmeemgjbcgeaaDo
set_option linter.unusedVariables false
set_option maxRecDepth 20000
set_option maxHeartbeats 4000000
namespace Go.Proofs.Ytljmeemgjbcgeaa


abbrev k0 : PS := ⟨[0, 0, 0], [], []⟩
abbrev k1 : PS := ⟨[1, 0, 0], [0], []⟩
abbrev k2 : PS := ⟨[1, 1, 0], [0, 1], []⟩
abbrev k3 : PS := ⟨[1, 1, 1], [0, 1, 2], []⟩
abbrev k4 : PS := ⟨[1, 2, 1], [0, 2], [⟨1, (5, 0)⟩]⟩
abbrev k5 : PS := ⟨[2, 2, 1], [2], [⟨1, (5, 0)⟩, ⟨0, (5, 0)⟩]⟩
abbrev k6 : PS := ⟨[2, 2, 2], [], [⟨1, (5, 0)⟩, ⟨0, (5, 0)⟩, ⟨2, (5, 1)⟩]⟩
abbrev k7 : PS := ⟨[2, 1, 2], [1], [⟨0, (5, 0)⟩, ⟨2, (5, 1)⟩]⟩
abbrev k8 : PS := ⟨[1, 1, 2], [1, 0], [⟨2, (5, 1)⟩]⟩
abbrev k9 : PS := ⟨[1, 1, 1], [1, 0, 2], []⟩
theorem lwaits_ok (N : Nat) (s : PS) (l : PkM) (hl : PkIs N s l) (a : Sp) (h : vldS a) (lw : List Int) (hw : s.waiting a = lw) (o2 : Option Nat) (c2 : Nat) (t2 : List Value) (own2 : Own o2 lw.length c2 1 (ivs lw) t2) : Spec Try.prog 14 [ptrQ l.p, ekS a, slV o2 lw.length c2] (⟨o2, cl (ivs lw ++ t2) 3⟩ :: pkH l) (fun r H' => r = .bool true ∧ H' = ⟨o2, cl (ivs lw ++ t2) 3⟩ :: pkH l) := by
  subst hw
  have hwl := waiting_len hl.ps a
  refine Spec.of (E := [(0, ptrQ l.p), (1, ekS a), (2, slV o2 (s.waiting a).length c2)]) Try.func14 rfl (by kernel_rfl) Try.ntmps14 rfl rfl (fun w => ?_)
  refine WC_seq ?_
  refine WC_region ?_
  refine WL_do rfl rfl rfl (D_box (cs := [_, _]) rfl rfl rfl) ?_
  rintro _ _ ⟨b1, rfl, rfl⟩
  refine WL_val rfl rfl rfl (R_assign rfl rfl) ?_
  refine WL_nil ?_
  refine WQ_code ?_
  refine WC_seq ?_
  refine WC_region ?_
  refine WL_val rfl rfl rfl (R_move rfl rfl) ?_
  refine WL_val rfl rfl rfl (R_loadA (vs := [_, _]) rfl ag25 rfl (mmY) rfl (atZ)) ?_
  refine WL_do rfl rfl rfl (D_call (pk_waiting N s l hl a) rfl rfl rfl rfl (pqY)) ?_
  rintro _ _ ⟨_, ⟨ob, c', tl', rfl, own', rfl⟩, rfl⟩
  refine WL_val rfl rfl rfl (R_move rfl rfl) ?_
  refine WL_val rfl rfl rfl (R_extract rfl rfl rfl) ?_
  refine WL_val rfl rfl rfl (R_extract rfl rfl rfl) ?_
  refine WL_val rfl rfl rfl (R_assign rfl rfl) ?_
  refine WL_val rfl rfl rfl (R_assign rfl rfl) ?_
  refine WL_nil ?_
  refine WQ_code ?_
  refine WC_seq ?_
  refine WC_region ?_
  refine WL_val rfl rfl rfl (R_move rfl rfl) ?_
  refine WL_val rfl rfl rfl (R_move rfl rfl) ?_
  refine WL_do rfl rfl rfl (D_call (same_ok (s.waiting a) (by omega) ob c' tl' o2 c2 t2 own' own2) rfl rfl rfl rfl (pqY)) ?_
  rintro _ _ ⟨_, ⟨rfl, rfl⟩, rfl⟩
  refine WL_val rfl rfl rfl (R_move rfl rfl) ?_
  refine WL_val rfl rfl rfl (R_move rfl rfl) ?_
  refine WL_val rfl rfl rfl (R_eql rfl rfl rfl) ?_
  refine WL_set (s := 20) (v := .bool true) rfl (by simp [spE, h]) ?_
  refine WL_val rfl rfl rfl (R_pickT rfl rfl rfl) ?_
  refine WL_val rfl rfl rfl (R_assign rfl rfl) ?_
  refine WL_nil ?_
  refine WQ_code ?_
  refine WC_ret ?_
  refine WQ_ret rfl rfl (.cons (.tmp rfl) .nil) rfl (by
      exact ⟨rfl, rfl⟩) (pqY)
theorem known_ok : Spec Try.prog 9 [] [] (fun r H' => r = .bool true ∧ H' = []) := by
  refine Spec.of (E := []) Try.func9 rfl (by kernel_rfl) Try.ntmps9 rfl rfl (fun w => ?_)
  refine WC_seq ?_
  refine WC_region ?_
  refine WL_val rfl rfl rfl (R_assign rfl rfl) ?_
  refine WL_nil ?_
  refine WQ_code ?_
  refine WC_seq ?_
  refine WC_region ?_
  refine WL_do rfl rfl rfl (D_call (pnew_ok 3 (by decide) (by decide)) rfl rfl rfl rfl (pqY)) ?_
  rintro _ _ ⟨_, ⟨l0, rfl, rfl, h0⟩, rfl⟩
  have g0 : PkIs 0 k0 l0 := h0
  refine WL_val rfl rfl rfl (R_move rfl rfl) ?_
  refine WL_val rfl rfl rfl (R_extract rfl rfl rfl) ?_
  refine WL_val rfl rfl rfl (R_extract rfl rfl rfl) ?_
  refine WL_val rfl rfl rfl (R_assign rfl rfl) ?_
  refine WL_val rfl rfl rfl (R_assign rfl rfl) ?_
  refine WL_nil ?_
  refine WQ_code ?_
  refine WC_seq ?_
  refine WC_seq ?_
  refine WC_region ?_
  refine WL_val rfl rfl rfl (R_move rfl rfl) ?_
  refine WL_val rfl rfl rfl (R_ptrEqNil rfl Try.underlying28 rfl) ?_
  refine WL_val rfl rfl rfl (R_move rfl rfl) ?_
  refine WL_val rfl rfl rfl (R_move rfl rfl) ?_
  refine WL_val rfl rfl rfl (R_neq rfl rfl rfl) ?_
  refine WL_set (s := 24) (v := .bool false) rfl (by simp) ?_
  refine WL_val rfl rfl rfl (R_pickF rfl rfl rfl) ?_
  refine WL_val rfl rfl rfl (R_move rfl rfl) ?_
  refine WL_val rfl rfl rfl (R_move rfl rfl) ?_
  refine WL_do rfl rfl rfl (D_call (pk_start 0 k0 l0 g0 (by decide) 0) rfl rfl rfl rfl (pqY)) ?_
  rintro _ _ ⟨_, ⟨l1, rfl, rfl, p1, h1⟩, rfl⟩
  have g1 : PkIs 1 k1 l1 := h1
  rw [← p1]
  refine WL_val rfl rfl rfl (R_neq rfl rfl rfl) ?_
  refine WL_set (s := 29) (v := .bool false) rfl (by exact congrArg Value.bool (decide_eq_false (by decide))) ?_
  refine WL_val rfl rfl rfl (R_pickF rfl rfl rfl) ?_
  refine WL_val rfl rfl rfl (R_move rfl rfl) ?_
  refine WL_val rfl rfl rfl (R_move rfl rfl) ?_
  refine WL_do rfl rfl rfl (D_call (pk_start 1 k1 l1 g1 (by decide) 1) rfl rfl rfl rfl (pqY)) ?_
  rintro _ _ ⟨_, ⟨l2, rfl, rfl, p2, h2⟩, rfl⟩
  have g2 : PkIs 2 k2 l2 := h2
  rw [← p2]
  refine WL_val rfl rfl rfl (R_neq rfl rfl rfl) ?_
  refine WL_set (s := 34) (v := .bool false) rfl (by exact congrArg Value.bool (decide_eq_false (by decide))) ?_
  refine WL_val rfl rfl rfl (R_pickF rfl rfl rfl) ?_
  refine WL_val rfl rfl rfl (R_move rfl rfl) ?_
  refine WL_val rfl rfl rfl (R_move rfl rfl) ?_
  refine WL_do rfl rfl rfl (D_call (pk_start 2 k2 l2 g2 (by decide) 2) rfl rfl rfl rfl (pqY)) ?_
  rintro _ _ ⟨_, ⟨l3, rfl, rfl, p3, h3⟩, rfl⟩
  have g3 : PkIs 3 k3 l3 := h3
  rw [← p3]
  refine WL_val rfl rfl rfl (R_neq rfl rfl rfl) ?_
  refine WL_set (s := 39) (v := .bool false) rfl (by exact congrArg Value.bool (decide_eq_false (by decide))) ?_
  refine WL_val rfl rfl rfl (R_pickF rfl rfl rfl) ?_
  refine WL_nil ?_
  refine WQ_code ?_
  refine WC_F rfl ?_
  refine WC_skip ?_
  refine WQ_code ?_
  refine WC_seq ?_
  refine WC_region ?_
  refine WL_do rfl rfl rfl (D_call (lspot_ok 5 0) rfl rfl rfl rfl (pqY)) ?_
  rintro _ _ ⟨_, ⟨rfl, rfl⟩, rfl⟩
  refine WL_do rfl rfl rfl (D_call (lspot_ok 5 1) rfl rfl rfl rfl (pqY)) ?_
  rintro _ _ ⟨_, ⟨rfl, rfl⟩, rfl⟩
  refine WL_do rfl rfl rfl (D_alloc rfl zv25) ?_
  rintro _ _ ⟨b1, rfl, rfl⟩
  refine WL_do rfl rfl rfl (D_alloc rfl zv25) ?_
  rintro _ _ ⟨b2, rfl, rfl⟩
  refine WL_do0 rfl rfl (D_store (vs := [_, _]) rfl Try.sizeOf25 rfl rfl rfl rfl rfl (plY) (by exact Nat.le_of_ble_eq_true rfl)) ?_
  rintro _ _ rfl
  refine WL_do0 rfl rfl (D_store (vs := [_, _]) rfl Try.sizeOf25 rfl rfl rfl rfl rfl (plY) (by exact Nat.le_of_ble_eq_true rfl)) ?_
  rintro _ _ rfl
  refine WL_nil ?_
  refine WQ_code ?_
  refine WC_seq ?_
  refine WC_seq ?_
  refine WC_region ?_
  refine WL_val rfl rfl rfl (R_move rfl rfl) ?_
  refine WL_val rfl rfl rfl (R_loadA (vs := [_, _]) rfl ag25 rfl (mmY) rfl (atZ)) ?_
  refine WL_do rfl rfl rfl (D_call (pk_park 3 k3 l3 g3 (by decide) 1 (5, 0)) rfl rfl rfl rfl (pqY)) ?_
  rintro _ _ ⟨_, ⟨l4, rfl, rfl, p4, h4⟩, rfl⟩
  have g4 : PkIs 4 k4 l4 := h4
  rw [← p4]
  refine WL_val rfl rfl rfl (R_neq rfl rfl rfl) ?_
  refine WL_set (s := 46) (v := .bool false) rfl (by exact congrArg Value.bool (decide_eq_false (by decide))) ?_
  refine WL_val rfl rfl rfl (R_move rfl rfl) ?_
  refine WL_val rfl rfl rfl (R_move rfl rfl) ?_
  refine WL_val rfl rfl rfl (R_loadA (vs := [_, _]) rfl ag25 rfl (mmY) rfl (atZ)) ?_
  refine WL_do rfl rfl rfl (D_call (pk_park 4 k4 l4 g4 (by decide) 0 (5, 0)) rfl rfl rfl rfl (pqY)) ?_
  rintro _ _ ⟨_, ⟨l5, rfl, rfl, p5, h5⟩, rfl⟩
  have g5 : PkIs 5 k5 l5 := h5
  rw [← p5]
  refine WL_val rfl rfl rfl (R_neq rfl rfl rfl) ?_
  refine WL_set (s := 51) (v := .bool false) rfl (by exact congrArg Value.bool (decide_eq_false (by decide))) ?_
  refine WL_val rfl rfl rfl (R_pickF rfl rfl rfl) ?_
  refine WL_val rfl rfl rfl (R_move rfl rfl) ?_
  refine WL_val rfl rfl rfl (R_move rfl rfl) ?_
  refine WL_val rfl rfl rfl (R_loadA (vs := [_, _]) rfl ag25 rfl (mmY) rfl (atZ)) ?_
  refine WL_do rfl rfl rfl (D_call (pk_park 5 k5 l5 g5 (by decide) 2 (5, 1)) rfl rfl rfl rfl (pqY)) ?_
  rintro _ _ ⟨_, ⟨l6, rfl, rfl, p6, h6⟩, rfl⟩
  have g6 : PkIs 6 k6 l6 := h6
  rw [← p6]
  refine WL_val rfl rfl rfl (R_neq rfl rfl rfl) ?_
  refine WL_set (s := 57) (v := .bool false) rfl (by exact congrArg Value.bool (decide_eq_false (by decide))) ?_
  refine WL_val rfl rfl rfl (R_pickF rfl rfl rfl) ?_
  refine WL_val rfl rfl rfl (R_move rfl rfl) ?_
  refine WL_val rfl rfl rfl (R_move rfl rfl) ?_
  refine WL_val rfl rfl rfl (R_loadA (vs := [_, _]) rfl ag25 rfl (mmY) rfl (atZ)) ?_
  refine WL_do rfl rfl rfl (D_buildSlice rfl si32 rfl rfl rfl) ?_
  rintro _ _ ⟨b3, rfl, rfl⟩
  refine WL_do rfl rfl rfl (D_call (lwaits_ok 6 k6 l6 g6 (5, 0) (by decide) [1, 0] rfl (some b3) 2 [] ⟨rfl, rfl, Nat.le_refl 2, by decide, fun h => by cases h⟩) rfl rfl rfl rfl (pqY)) ?_
  rintro _ _ ⟨_, ⟨rfl, rfl⟩, rfl⟩
  refine WL_val rfl rfl rfl (R_not rfl rfl) ?_
  refine WL_val rfl rfl rfl (R_pickF rfl rfl rfl) ?_
  refine WL_nil ?_
  refine WQ_code ?_
  refine WC_F rfl ?_
  refine WC_skip ?_
  refine WQ_code ?_
  refine WC_seq ?_
  refine WC_region ?_
  refine WL_val rfl rfl rfl (R_move rfl rfl) ?_
  refine WL_val rfl rfl rfl (R_loadA (vs := [_, _]) rfl ag25 rfl (mmY) rfl (atZ)) ?_
  refine WL_do rfl rfl rfl (D_call (pk_wake 6 k6 l6 g6 (by decide) (5, 0)) rfl rfl rfl rfl (pqY)) ?_
  rintro _ _ ⟨_, ⟨l7, rfl, rfl, p7, h7⟩, rfl⟩
  have g7 : PkIs 7 k7 l7 := h7
  rw [← p7]
  refine WL_val rfl rfl rfl (R_move rfl rfl) ?_
  refine WL_val rfl rfl rfl (R_extract rfl rfl rfl) ?_
  refine WL_val rfl rfl rfl (R_extract rfl rfl rfl) ?_
  refine WL_val rfl rfl rfl (R_assign rfl rfl) ?_
  refine WL_val rfl rfl rfl (R_assign rfl rfl) ?_
  refine WL_nil ?_
  refine WQ_code ?_
  refine WC_seq ?_
  refine WC_region ?_
  refine WL_val rfl rfl rfl (R_move rfl rfl) ?_
  refine WL_do rfl rfl rfl (D_call (pk_where 7 k7 l7 g7 0) rfl rfl rfl rfl (pqY)) ?_
  rintro _ _ ⟨_, ⟨rfl, rfl⟩, rfl⟩
  refine WL_val rfl rfl rfl (R_move rfl rfl) ?_
  refine WL_val rfl rfl rfl (R_extract rfl rfl rfl) ?_
  refine WL_val rfl rfl rfl (R_extract rfl rfl rfl) ?_
  refine WL_do rfl rfl rfl (D_alloc rfl zv25) ?_
  rintro _ _ ⟨b4, rfl, rfl⟩
  refine WL_do0 rfl rfl (D_store (vs := [_, _]) rfl Try.sizeOf25 rfl rfl rfl rfl rfl (plY) (by exact Nat.le_of_ble_eq_true rfl)) ?_
  rintro _ _ rfl
  refine WL_val rfl rfl rfl (R_assign rfl rfl) ?_
  refine WL_nil ?_
  refine WQ_code ?_
  refine WC_seq ?_
  refine WC_region ?_
  refine WL_val rfl rfl rfl (R_move rfl rfl) ?_
  refine WL_do rfl rfl rfl (D_call (pk_where 7 k7 l7 g7 1) rfl rfl rfl rfl (pqY)) ?_
  rintro _ _ ⟨_, ⟨rfl, rfl⟩, rfl⟩
  refine WL_val rfl rfl rfl (R_move rfl rfl) ?_
  refine WL_val rfl rfl rfl (R_extract rfl rfl rfl) ?_
  refine WL_val rfl rfl rfl (R_extract rfl rfl rfl) ?_
  refine WL_do rfl rfl rfl (D_alloc rfl zv25) ?_
  rintro _ _ ⟨b5, rfl, rfl⟩
  refine WL_do0 rfl rfl (D_store (vs := [_, _]) rfl Try.sizeOf25 rfl rfl rfl rfl rfl (plY) (by exact Nat.le_of_ble_eq_true rfl)) ?_
  rintro _ _ rfl
  refine WL_val rfl rfl rfl (R_assign rfl rfl) ?_
  refine WL_nil ?_
  refine WQ_code ?_
  refine WC_seq ?_
  refine WC_region ?_
  refine WL_val rfl rfl rfl (R_move rfl rfl) ?_
  refine WL_do rfl rfl rfl (D_call (pk_leave 7 k7 l7 g7 (by decide) 0) rfl rfl rfl rfl (pqY)) ?_
  rintro _ _ ⟨_, ⟨l8, rfl, rfl, p8, h8⟩, rfl⟩
  have g8 : PkIs 8 k8 l8 := h8
  rw [← p8]
  refine WL_val rfl rfl rfl (R_move rfl rfl) ?_
  refine WL_val rfl rfl rfl (R_extract rfl rfl rfl) ?_
  refine WL_val rfl rfl rfl (R_extract rfl rfl rfl) ?_
  refine WL_do rfl rfl rfl (D_alloc rfl zv25) ?_
  rintro _ _ ⟨b6, rfl, rfl⟩
  refine WL_do0 rfl rfl (D_store (vs := [_, _]) rfl Try.sizeOf25 rfl rfl rfl rfl rfl (plY) (by exact Nat.le_of_ble_eq_true rfl)) ?_
  rintro _ _ rfl
  refine WL_val rfl rfl rfl (R_assign rfl rfl) ?_
  refine WL_nil ?_
  refine WQ_code ?_
  refine WC_seq ?_
  refine WC_region ?_
  refine WL_val rfl rfl rfl (R_move rfl rfl) ?_
  refine WL_val rfl rfl rfl (R_loadA (vs := [_, _]) rfl ag25 rfl (mmY) rfl (atZ)) ?_
  refine WL_do rfl rfl rfl (D_call (pk_wake 8 k8 l8 g8 (by decide) (5, 0)) rfl rfl rfl rfl (pqY)) ?_
  rintro _ _ ⟨_, ⟨l9, rfl, rfl, p9, h9⟩, rfl⟩
  have g9 : PkIs 9 k8 l9 := h9
  rw [← p9]
  refine WL_val rfl rfl rfl (R_move rfl rfl) ?_
  refine WL_val rfl rfl rfl (R_extract rfl rfl rfl) ?_
  refine WL_val rfl rfl rfl (R_extract rfl rfl rfl) ?_
  refine WL_val rfl rfl rfl (R_assign rfl rfl) ?_
  refine WL_val rfl rfl rfl (R_assign rfl rfl) ?_
  refine WL_nil ?_
  refine WQ_code ?_
  refine WC_seq ?_
  refine WC_seq ?_
  refine WC_region ?_
  refine WL_val rfl rfl rfl (R_move rfl rfl) ?_
  refine WL_val rfl rfl rfl (R_neq rfl rfl rfl) ?_
  refine WL_set (s := 94) (v := .bool false) rfl (by exact congrArg Value.bool (decide_eq_false (by decide))) ?_
  refine WL_val rfl rfl rfl (R_move rfl rfl) ?_
  refine WL_val rfl rfl rfl (R_move rfl rfl) ?_
  refine WL_val rfl rfl rfl (R_neq rfl rfl rfl) ?_
  refine WL_set (s := 97) (v := .bool false) rfl (by exact congrArg Value.bool (decide_eq_false (by decide))) ?_
  refine WL_val rfl rfl rfl (R_pickF rfl rfl rfl) ?_
  refine WL_val rfl rfl rfl (R_move rfl rfl) ?_
  refine WL_val rfl rfl rfl (R_loadA (vs := [_, _]) rfl ag25 rfl (mmY) rfl (atZ)) ?_
  refine WL_val rfl rfl rfl (R_loadA (vs := [_, _]) rfl ag25 rfl (mmY) rfl (atZ)) ?_
  refine WL_val rfl rfl rfl (R_sne25 rfl rfl rfl rfl) ?_
  refine WL_set (s := 102) (v := .bool false) rfl (by exact congrArg Value.bool (decide_eq_false (by decide))) ?_
  refine WL_val rfl rfl rfl (R_pickF rfl rfl rfl) ?_
  refine WL_val rfl rfl rfl (R_move rfl rfl) ?_
  refine WL_val rfl rfl rfl (R_move rfl rfl) ?_
  refine WL_val rfl rfl rfl (R_neq rfl rfl rfl) ?_
  refine WL_set (s := 106) (v := .bool false) rfl (by exact congrArg Value.bool (decide_eq_false (by decide))) ?_
  refine WL_val rfl rfl rfl (R_pickF rfl rfl rfl) ?_
  refine WL_val rfl rfl rfl (R_move rfl rfl) ?_
  refine WL_val rfl rfl rfl (R_move rfl rfl) ?_
  refine WL_val rfl rfl rfl (R_neq rfl rfl rfl) ?_
  refine WL_set (s := 110) (v := .bool false) rfl (by exact congrArg Value.bool (decide_eq_false (by decide))) ?_
  refine WL_val rfl rfl rfl (R_pickF rfl rfl rfl) ?_
  refine WL_val rfl rfl rfl (R_move rfl rfl) ?_
  refine WL_val rfl rfl rfl (R_loadA (vs := [_, _]) rfl ag25 rfl (mmY) rfl (atZ)) ?_
  refine WL_val rfl rfl rfl (R_loadA (vs := [_, _]) rfl ag25 rfl (mmY) rfl (atZ)) ?_
  refine WL_val rfl rfl rfl (R_sne25 rfl rfl rfl rfl) ?_
  refine WL_set (s := 115) (v := .bool false) rfl (by exact congrArg Value.bool (decide_eq_false (by decide))) ?_
  refine WL_val rfl rfl rfl (R_pickF rfl rfl rfl) ?_
  refine WL_val rfl rfl rfl (R_move rfl rfl) ?_
  refine WL_val rfl rfl rfl (R_move rfl rfl) ?_
  refine WL_val rfl rfl rfl (R_neq rfl rfl rfl) ?_
  refine WL_set (s := 119) (v := .bool false) rfl (by exact congrArg Value.bool (decide_eq_false (by decide))) ?_
  refine WL_val rfl rfl rfl (R_pickF rfl rfl rfl) ?_
  refine WL_val rfl rfl rfl (R_move rfl rfl) ?_
  refine WL_val rfl rfl rfl (R_move rfl rfl) ?_
  refine WL_val rfl rfl rfl (R_neq rfl rfl rfl) ?_
  refine WL_set (s := 123) (v := .bool false) rfl (by exact congrArg Value.bool (decide_eq_false (by decide))) ?_
  refine WL_val rfl rfl rfl (R_pickF rfl rfl rfl) ?_
  refine WL_val rfl rfl rfl (R_move rfl rfl) ?_
  refine WL_val rfl rfl rfl (R_move rfl rfl) ?_
  refine WL_do rfl rfl rfl (D_call (pk_ready 9 k8 l9 g9) rfl rfl rfl rfl (pqY)) ?_
  rintro _ _ ⟨_, ⟨ob, cb, tb, rfl, ownb, rfl⟩, rfl⟩
  refine WL_do rfl rfl rfl (D_buildSlice rfl si32 rfl rfl rfl) ?_
  rintro _ _ ⟨b7, rfl, rfl⟩
  refine WL_do rfl rfl rfl (D_call (same_ok [1, 0] (by decide) ob cb tb (some b7) 2 [] ownb ⟨rfl, rfl, Nat.le_refl 2, by decide, fun h => by cases h⟩) rfl rfl rfl rfl (pqY)) ?_
  rintro _ _ ⟨_, ⟨rfl, rfl⟩, rfl⟩
  refine WL_val rfl rfl rfl (R_not rfl rfl) ?_
  refine WL_val rfl rfl rfl (R_pickF rfl rfl rfl) ?_
  refine WL_nil ?_
  refine WQ_code ?_
  refine WC_F rfl ?_
  refine WC_skip ?_
  refine WQ_code ?_
  refine WC_seq ?_
  refine WC_region ?_
  refine WL_val rfl rfl rfl (R_move rfl rfl) ?_
  refine WL_val rfl rfl rfl (R_loadA (vs := [_, _]) rfl ag25 rfl (mmY) rfl (atZ)) ?_
  refine WL_do rfl rfl rfl (D_call (pk_wakeall 9 k8 l9 g9 (by decide) (5, 1)) rfl rfl rfl rfl (pqY)) ?_
  rintro _ _ ⟨_, ⟨l10, o10, c10, t10, rfl, own10, rfl, p10, h10⟩, rfl⟩
  have g10 : PkIs 73 k9 l10 := h10
  rw [← p10]
  have e10 : k8.waiting (5, 1) = [2] := rfl
  rw [e10] at own10 ⊢
  refine WL_val rfl rfl rfl (R_move rfl rfl) ?_
  refine WL_val rfl rfl rfl (R_extract rfl rfl rfl) ?_
  refine WL_val rfl rfl rfl (R_extract rfl rfl rfl) ?_
  refine WL_val rfl rfl rfl (R_assign rfl rfl) ?_
  refine WL_val rfl rfl rfl (R_assign rfl rfl) ?_
  refine WL_nil ?_
  refine WQ_code ?_
  refine WC_seq ?_
  refine WC_region ?_
  refine WL_val rfl rfl rfl (R_move rfl rfl) ?_
  refine WL_val rfl rfl rfl (R_loadA (vs := [_, _]) rfl ag25 rfl (mmY) rfl (atZ)) ?_
  refine WL_do rfl rfl rfl (D_call (pk_wakeall 73 k9 l10 g10 (by decide) (5, 1)) rfl rfl rfl rfl (pqY)) ?_
  rintro _ _ ⟨_, ⟨l11, o11, c11, t11, rfl, own11, rfl, p11, h11⟩, rfl⟩
  have g11 : PkIs 137 k9 l11 := h11
  rw [← p11]
  have e11 : k9.waiting (5, 1) = [] := rfl
  rw [e11] at own11 ⊢
  refine WL_val rfl rfl rfl (R_move rfl rfl) ?_
  refine WL_val rfl rfl rfl (R_extract rfl rfl rfl) ?_
  refine WL_val rfl rfl rfl (R_extract rfl rfl rfl) ?_
  refine WL_val rfl rfl rfl (R_assign rfl rfl) ?_
  refine WL_val rfl rfl rfl (R_assign rfl rfl) ?_
  refine WL_nil ?_
  refine WQ_code ?_
  refine WC_seq ?_
  refine WC_region ?_
  refine WL_val rfl rfl rfl (R_move rfl rfl) ?_
  refine WL_do rfl rfl rfl (D_buildSlice rfl si32 rfl rfl rfl) ?_
  rintro _ _ ⟨b8, rfl, rfl⟩
  refine WL_do rfl rfl rfl (D_call (same_ok [2] (by decide) o10 c10 t10 (some b8) 1 [] own10 ⟨rfl, rfl, Nat.le_refl 1, by decide, fun h => by cases h⟩) rfl rfl rfl rfl (pqY)) ?_
  rintro _ _ ⟨_, ⟨rfl, rfl⟩, rfl⟩
  refine WL_val rfl rfl rfl (R_move rfl rfl) ?_
  refine WL_val rfl rfl rfl (R_move rfl rfl) ?_
  refine WL_val rfl rfl rfl (R_eql rfl rfl rfl) ?_
  refine WL_set (s := 149) (v := .bool true) rfl (by exact congrArg Value.bool (decide_eq_true (by decide))) ?_
  refine WL_val rfl rfl rfl (R_pickT rfl rfl rfl) ?_
  refine WL_val rfl rfl rfl (R_move rfl rfl) ?_
  refine WL_val rfl rfl rfl (R_move rfl rfl) ?_
  refine WL_val rfl rfl rfl (R_len rfl Try.underlying32 rfl) ?_
  refine WL_val rfl rfl rfl (R_eql rfl rfl rfl) ?_
  refine WL_set (s := 154) (v := .bool true) rfl (by exact congrArg Value.bool (decide_eq_true (by decide))) ?_
  refine WL_val rfl rfl rfl (R_pickT rfl rfl rfl) ?_
  refine WL_val rfl rfl rfl (R_move rfl rfl) ?_
  refine WL_val rfl rfl rfl (R_move rfl rfl) ?_
  refine WL_val rfl rfl rfl (R_eql rfl rfl rfl) ?_
  refine WL_set (s := 158) (v := .bool true) rfl (by exact congrArg Value.bool (decide_eq_true (by decide))) ?_
  refine WL_val rfl rfl rfl (R_pickT rfl rfl rfl) ?_
  refine WL_val rfl rfl rfl (R_move rfl rfl) ?_
  refine WL_val rfl rfl rfl (R_move rfl rfl) ?_
  refine WL_do rfl rfl rfl (D_call (lspot_ok 128 0) rfl rfl rfl rfl (pqY)) ?_
  rintro _ _ ⟨_, ⟨rfl, rfl⟩, rfl⟩
  refine WL_do rfl rfl rfl (D_call (pk_park 137 k9 l11 g11 (by decide) 1 (128, 0)) rfl rfl rfl rfl (pqY)) ?_
  rintro _ _ ⟨_, ⟨l12, rfl, rfl, p12, h12⟩, rfl⟩
  have g12 : PkIs 138 k9 l12 := h12
  rw [← p12]
  refine WL_val rfl rfl rfl (R_eql rfl rfl rfl) ?_
  refine WL_set (s := 164) (v := .bool true) rfl (by exact congrArg Value.bool (decide_eq_true (by decide))) ?_
  refine WL_val rfl rfl rfl (R_pickT rfl rfl rfl) ?_
  refine WL_val rfl rfl rfl (R_move rfl rfl) ?_
  refine WL_val rfl rfl rfl (R_move rfl rfl) ?_
  refine WL_val rfl rfl rfl (R_loadA (vs := [_, _]) rfl ag25 rfl (mmY) rfl (atZ)) ?_
  refine WL_do rfl rfl rfl (D_call (pk_park 138 k9 l12 g12 (by decide) 3 (5, 0)) rfl rfl rfl rfl (pqY)) ?_
  rintro _ _ ⟨_, ⟨l13, rfl, rfl, p13, h13⟩, rfl⟩
  refine WL_val rfl rfl rfl (R_eql rfl rfl rfl) ?_
  refine WL_set (s := 170) (v := .bool true) rfl (by exact congrArg Value.bool (decide_eq_true (by decide))) ?_
  refine WL_val rfl rfl rfl (R_pickT rfl rfl rfl) ?_
  refine WL_val rfl rfl rfl (R_assign rfl rfl) ?_
  refine WL_nil ?_
  refine WQ_code ?_
  refine WC_ret ?_
  refine WQ_ret rfl rfl (.cons (.tmp rfl) .nil) rfl (by
      exact ⟨rfl, rfl⟩) (pqY)

end Go.Proofs.Ytljmeemgjbcgeaa
