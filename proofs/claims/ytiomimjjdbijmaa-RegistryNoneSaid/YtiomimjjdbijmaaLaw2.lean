/-
  Chapter 17 (registry), part Law2: contracts of functions that the laws call, each for the heap it names.
-/
import Derived.Test.YtiomimjjdbijmaaRows
import Derived.Test.YtiomimjjdbijmaaZB
import Derived.Test.YtiomimjjdbijmaaSLMapJ
import Derived.Test.YtiomimjjdbijmaaSLScope
import Derived.Test.YtiomimjjdbijmaaTab
import Derived.Test.YtiomimjjdbijmaaLaw1
import Derived.Test.YtiomimjjdbijmaaReg10
set_option linter.unusedVariables false
set_option maxRecDepth 20000
set_option maxHeartbeats 4000000
namespace Go.Proofs.Ytiomimjjdbijmaa


structure LsW where
  turn : Nat
  ds : List Nat
  bt : Nat
theorem at_preW {α : Type} {l pre suf : List α} {x : α} (h : l = pre ++ x :: suf) : l[pre.length]? = some x := by
  rw [h, List.getElem?_append_right (Nat.le_refl _), Nat.sub_self]; rfl
theorem lists_ok (hs : SortOk) {W : List Bd} {r : Rg} (hr : RgIs W r) {o : Option Nat} {c : Nat} {tl : List Value} (own : Own o W.length c 3 (W.flatMap encBd) tl) : Spec Try.prog 14 [ptrR r.p, slV o W.length c] (rgH r ++ [⟨o, cl (W.flatMap encBd ++ tl) 56⟩]) (fun x H' => x = .bool true ∧ H' = rgH r ++ [⟨o, cl (W.flatMap encBd ++ tl) 56⟩]) := by
  have hlen := hr.len
  refine Spec.ofM (E := [(0, ptrR r.p), (1, slV o W.length c)]) Try.func14 rfl (by kernel_rfl) Try.ntmps14 rfl rfl (fun w => ?_)
  refine WC_seq ?_
  refine WC_region ?_
  refine WL_do rfl rfl rfl (D_box (cs := [_]) rfl rfl rfl) ?_
  rintro _ _ ⟨b1, rfl, rfl⟩
  refine WL_do rfl rfl rfl (D_alloc rfl zv4) ?_
  rintro _ _ ⟨b2, rfl, rfl⟩
  refine WL_nil ?_
  refine WQ_code ?_
  refine WC_seq ?_
  refine WC_region ?_
  refine WL_val rfl rfl rfl (R_move rfl rfl) ?_
  refine WL_do rfl rfl rfl (D_call (all_ok hr) rfl rfl rfl rfl (pqZ)) ?_
  rintro _ _ ⟨_, ⟨cb, m2, rfl, rfl⟩, rfl⟩
  refine WL_val rfl rfl rfl (R_assign rfl rfl) ?_
  refine WL_nil ?_
  refine WQ_code ?_
  refine WC_seq ?_
  refine WC_seq ?_
  refine WC_region ?_
  refine WL_val rfl rfl rfl (R_move rfl rfl) ?_
  refine WL_val rfl rfl rfl (R_funcEqNil rfl Try.underlying53 rfl) ?_
  refine WL_nil ?_
  refine WQ_code ?_
  refine WC_F rfl ?_
  refine WC_skip ?_
  refine WQ_code ?_
  refine WC_seq ?_
  refine WC_seq ?_
  refine WC_region ?_
  refine WL_do rfl rfl rfl (D_alloc rfl zv3) ?_
  rintro _ _ ⟨b3, rfl, rfl⟩
  refine WL_do0 rfl rfl (D_store (vs := [_]) rfl Try.sizeOf3 rfl rfl rfl rfl rfl (plZ) (by exact Nat.le_of_ble_eq_true rfl)) ?_
  rintro _ _ rfl
  refine WL_nil ?_
  refine WQ_code ?_
  refine WC_block ?_
  refine WC_loopHD (G := LsW) [6, 7, 8, 9, 14, 15, 16, 17, 18, 21, 22, 23, 24, 25, 26, 27, 28, 29, 30, 31, 32, 33, 34, 35, 36, 37, 38, 39, 40, 41, 42, 43, 44, 45, 46, 47, 48, 49, 50, 51, 52, 53, 54, 55] (fun z => z.turn ≤ 2) (fun z => [(6, .pointer (some ⟨z.bt, 0, none⟩))]) (fun z => ⟨some z.bt, cl [.int .i64 (z.turn : Int)] 3⟩ :: ⟨some b1, cl [slV o W.length c] 27⟩ :: ⟨o, cl (W.flatMap encBd ++ tl) 56⟩ :: ⟨some b2, cl [.bool false] 4⟩ :: ⟨some cb, cl [.map (some m2)] 58⟩ :: ⟨some m2, .map r.es r.c⟩ :: rgE1 r :: rgE2 r :: z.ds.map dlE) (fun z => z.ds.map markOf) (fun z => 2 - z.turn) (⟨0, [], b3⟩) (by dsimp only; omega) leZ (pqZ) rfl ?_
  rintro z hzt
  refine WC_seq ?_
  refine WC_seq ?_
  refine WC_region ?_
  refine WL_val rfl rfl rfl (R_load rfl sc3 rfl (mmZ) rfl) ?_
  refine WL_val rfl rfl rfl (R_lss rfl rfl rfl) ?_
  refine WL_nil ?_
  refine WQ_code ?_
  refine WC_dec rfl (fun c1 => ?_) (fun c1 => ?_)
  · refine WC_skip ?_
    refine WQ_code ?_
    refine WC_seq ?_
    refine WC_block ?_
    refine WC_seq ?_
    refine WC_region ?_
    refine WL_do rfl rfl rfl (D_alloc rfl zv3) ?_
    rintro _ _ ⟨b4, rfl, rfl⟩
    refine WL_do0 rfl rfl (D_store (vs := [_]) rfl Try.sizeOf3 rfl rfl rfl rfl rfl (plZ) (by exact Nat.le_of_ble_eq_true rfl)) ?_
    rintro _ _ rfl
    refine WL_nil ?_
    refine WQ_code ?_
    refine WC_seq ?_
    refine WC_seq ?_
    refine WC_region ?_
    refine WL_val rfl rfl rfl (R_move rfl rfl) ?_
    refine WL_nil ?_
    refine WQ_code ?_
    refine WC_block ?_
    refine WC_range (G := Nat) (GX := Nat) (all2_ok hs hr.len cb m2 r.es r.c hr.mp hr.srt) rfl rfl (fun _ => rfl) rfl (fun pre n => n = pre.length ∧ (z.turn = 0 → pre.length < 2)) (fun n => ⟨some b4, cl [.int .i64 (n : Int)] 3⟩ :: ⟨some z.bt, cl [.int .i64 (z.turn : Int)] 3⟩ :: ⟨some b1, cl [slV o W.length c] 27⟩ :: ⟨o, cl (W.flatMap encBd ++ tl) 56⟩ :: [⟨some b2, cl [.bool false] 4⟩]) (fun c pre n => c = .exit 2 ∧ n = pre.length ∧ z.turn = 0 ∧ pre.length = 2) (fun n => ⟨some b4, cl [.int .i64 (n : Int)] 3⟩ :: ⟨some z.bt, cl [.int .i64 (z.turn : Int)] 3⟩ :: ⟨some b1, cl [slV o W.length c] 27⟩ :: ⟨o, cl (W.flatMap encBd ++ tl) 56⟩ :: [⟨some b2, cl [.bool false] 4⟩]) (0) (⟨rfl, fun _ => by simp⟩) (pqZ) (pqZ) ?_ ?_ ?_
    · intro l pre x suf gg hx hI w2
      obtain ⟨rfl, hI2⟩ := hI
      have hlt := (List.getElem?_eq_some_iff.1 (at_preW hx)).1
      obtain ⟨wb, rfl⟩ := own.some_of (by omega)
      refine WC_seq ?_
      refine WC_region ?_
      refine WL_do rfl rfl rfl (D_alloc rfl zv23) ?_
      rintro _ _ ⟨b5, rfl, rfl⟩
      refine WL_do0 rfl rfl (D_store (vs := [_, _]) rfl Try.sizeOf23 rfl rfl rfl rfl rfl (plZ) (by exact Nat.le_of_ble_eq_true rfl)) ?_
      rintro _ _ rfl
      refine WL_nil ?_
      refine WQ_code ?_
      refine WC_region ?_
      refine WL_val rfl rfl rfl (R_assign rfl rfl) ?_
      refine WL_nil ?_
      refine WQ_begin (fun w3 => ?_)
      refine WC_block ?_
      refine WC_seq ?_
      refine WC_seq ?_
      refine WC_draw _ [(0, true), (1, true), (2, true), (3, true), (4, true), (5, true), (6, true), (7, true), (8, true), (9, true), (10, true), (11, true), (12, true), (13, true)] followsMixed rfl rfl (by kernel_rfl) .all ?_
      refine WM_val rfl rfl rfl rfl (R_load rfl sc3 rfl (mmZ) rfl) ?_
      refine WM_val rfl rfl rfl rfl (R_load rfl sc27 rfl (mmZ) rfl) ?_
      refine WM_val rfl rfl rfl rfl (R_len rfl Try.underlying27 rfl) ?_
      refine WM_val rfl rfl rfl rfl (R_geq rfl rfl rfl) ?_
      refine WM_val rfl rfl rfl rfl (R_move rfl rfl) ?_
      refine WM_set (s := 25) (v := .bool false) rfl (by exact congrArg Value.bool (decide_eq_false (by omega))) ?_
      refine WM_val rfl rfl rfl rfl (R_load rfl sc27 rfl (mmZ) rfl) ?_
      refine WM_val rfl rfl rfl rfl (R_load rfl sc3 rfl (mmZ) rfl) ?_
      refine WM_val rfl rfl rfl rfl (R_indexAddrN rfl Try.underlying27 Try.sizeOf56 rfl rfl (by omega)) ?_
      refine WM_val rfl rfl rfl rfl (R_loadA (vs := encBd x) rfl ag56 rfl (mmZ) rfl (fm_at0 encBd3 (at_preW hx) (j := 0) (vs := encBd x) (fun j v h => by rw [Nat.zero_add]; exact h) (Nat.le_refl _))) ?_
      refine WM_val rfl rfl rfl rfl (R_loadA (vs := [_, _]) rfl ag23 rfl (mmZ) rfl (atZ)) ?_
      refine WM_val rfl rfl rfl rfl (R_move rfl rfl) ?_
      refine WM_val rfl rfl rfl rfl (R_build rfl zv56 pl56 rfl rfl) ?_
      refine WM_val rfl rfl rfl rfl (R_sne56 rfl rfl rfl rfl) ?_
      refine WM_val rfl rfl rfl rfl (R_pickF rfl rfl rfl) ?_
      refine WM_set (s := 34) (v := .bool false) rfl (by simp) ?_
      refine WM_nil ?_
      refine WQ_code ?_
      refine WC_F rfl ?_
      refine WC_skip ?_
      refine WQ_code ?_
      refine WC_seq ?_
      refine WC_region ?_
      refine WL_val rfl rfl rfl (R_load rfl sc3 rfl (mmZ) rfl) ?_
      refine WL_val rfl rfl rfl (R_addR (r := ((pre.length + 1 : Nat) : Int)) rfl rfl rfl (by rw [IntWalk.i64_in _ (by omega)]; omega)) ?_
      refine WL_do0 rfl rfl (D_store (vs := [_]) rfl Try.sizeOf3 rfl rfl rfl rfl rfl (plZ) (by exact Nat.le_of_ble_eq_true rfl)) ?_
      rintro _ _ rfl
      refine WL_nil ?_
      refine WQ_code ?_
      refine WC_seq ?_
      refine WC_region ?_
      refine WL_val rfl rfl rfl (R_load rfl sc3 rfl (mmZ) rfl) ?_
      refine WL_val rfl rfl rfl (R_eql rfl rfl rfl) ?_
      refine WL_val rfl rfl rfl (R_move rfl rfl) ?_
      refine WL_splitD (s := 39) rfl (fun c2 => ?_) (fun c2 => ?_)
      · refine WL_val rfl rfl rfl (R_load rfl sc3 rfl (mmZ) rfl) ?_
        refine WL_val rfl rfl rfl (R_eql rfl rfl rfl) ?_
        refine WL_val rfl rfl rfl (R_pickT rfl rfl rfl) ?_
        refine WL_nil ?_
        refine WQ_code ?_
        refine WC_dec rfl (fun c3 => ?_) (fun c3 => ?_)
        · refine WC_exit ?_
          refine WQ_rndX (pre.length + 1) (⟨rfl, by simp, by omega, by rw [List.length_append, List.length_singleton]; omega⟩) (pqZ)
        · refine WC_skip ?_
          refine WQ_rnd (pre.length + 1) ?_ (pqZ)
          exact (⟨by simp, fun h9 => by rw [List.length_append, List.length_singleton]; have := hI2 h9; omega⟩)
      · refine WL_skip rfl rfl rfl ?_
        refine WL_skip rfl rfl rfl ?_
        refine WL_val rfl rfl rfl (R_pickF rfl rfl rfl) ?_
        refine WL_nil ?_
        refine WQ_code ?_
        refine WC_F rfl ?_
        refine WC_skip ?_
        refine WQ_rnd (pre.length + 1) ?_ (pqZ)
        exact (⟨by simp, fun h9 => by rw [List.length_append, List.length_singleton]; have := hI2 h9; omega⟩)
    · intro dl gg hI
      obtain ⟨rfl, hI2⟩ := hI
      refine WQ_code ?_
      refine WC_seq ?_
      refine WC_region ?_
      refine WL_val rfl rfl rfl (R_load rfl sc3 rfl (mmZ) rfl) ?_
      refine WL_val rfl rfl rfl (R_load rfl sc27 rfl (mmZ) rfl) ?_
      refine WL_val rfl rfl rfl (R_len rfl Try.underlying27 rfl) ?_
      refine WL_val rfl rfl rfl (R_neq rfl rfl rfl) ?_
      refine WL_val rfl rfl rfl (R_move rfl rfl) ?_
      refine WL_splitD (s := 47) rfl (fun c4 => ?_) (fun c4 => ?_)
      · have hg8 := c4
        refine WL_val rfl rfl rfl (R_load rfl sc3 rfl (mmZ) rfl) ?_
        refine WL_val rfl rfl rfl (R_eql rfl rfl rfl) ?_
        refine WL_val rfl rfl rfl (R_move rfl rfl) ?_
        refine WL_splitD (s := 50) rfl (fun c5 => ?_) (fun c5 => ?_)
        · refine WL_skip rfl rfl rfl ?_
          refine WL_skip rfl rfl rfl ?_
          refine WL_val rfl rfl rfl (R_pickT rfl rfl rfl) ?_
          refine WL_val rfl rfl rfl (R_pickT rfl rfl rfl) ?_
          refine WL_set (s := 54) (v := .bool false) rfl (by first | (exfalso; omega) | (simp; done) | exact congrArg Value.bool (decide_eq_false (by omega))) ?_
          refine WL_nil ?_
          refine WQ_code ?_
          refine WC_F rfl ?_
          refine WC_skip ?_
          refine WQ_code ?_
          refine WC_seq ?_
          refine WC_seq ?_
          refine WC_region ?_
          refine WL_val rfl rfl rfl (R_load rfl sc3 rfl (mmZ) rfl) ?_
          refine WL_nil ?_
          refine WQ_code ?_
          refine WC_region ?_
          refine WL_do rfl rfl rfl (D_alloc rfl zv3) ?_
          rintro _ _ ⟨b6, rfl, rfl⟩
          refine WL_do0 rfl rfl (D_store (vs := [_]) rfl Try.sizeOf3 rfl rfl rfl rfl rfl (plZ) (by exact Nat.le_of_ble_eq_true rfl)) ?_
          rintro _ _ rfl
          refine WL_nil ?_
          refine WQ_code ?_
          refine WC_region ?_
          refine WL_val rfl rfl rfl (R_load rfl sc3 rfl (mmZ) rfl) ?_
          refine WL_val rfl rfl rfl (R_add rfl rfl rfl (by omega)) ?_
          refine WL_do0 rfl rfl (D_store (vs := [_]) rfl Try.sizeOf3 rfl rfl rfl rfl rfl (plZ) (by exact Nat.le_of_ble_eq_true rfl)) ?_
          rintro _ _ rfl
          refine WL_nil ?_
          refine WQ_nextHD (⟨z.turn + 1, dl :: z.ds, b6⟩) (by dsimp only; omega) (by dsimp only; omega) leZ (psZ) rfl (pqZ) rfl
        · refine WL_val rfl rfl rfl (R_load rfl sc3 rfl (mmZ) rfl) ?_
          refine WL_val rfl rfl rfl (R_neq rfl rfl rfl) ?_
          refine WL_val rfl rfl rfl (R_pickF rfl rfl rfl) ?_
          refine WL_val rfl rfl rfl (R_pickT rfl rfl rfl) ?_
          refine WL_set (s := 54) (v := .bool false) rfl (by first | (exfalso; omega) | (simp; done) | exact congrArg Value.bool (decide_eq_false (by omega))) ?_
          refine WL_nil ?_
          refine WQ_code ?_
          refine WC_F rfl ?_
          refine WC_skip ?_
          refine WQ_code ?_
          refine WC_seq ?_
          refine WC_seq ?_
          refine WC_region ?_
          refine WL_val rfl rfl rfl (R_load rfl sc3 rfl (mmZ) rfl) ?_
          refine WL_nil ?_
          refine WQ_code ?_
          refine WC_region ?_
          refine WL_do rfl rfl rfl (D_alloc rfl zv3) ?_
          rintro _ _ ⟨b7, rfl, rfl⟩
          refine WL_do0 rfl rfl (D_store (vs := [_]) rfl Try.sizeOf3 rfl rfl rfl rfl rfl (plZ) (by exact Nat.le_of_ble_eq_true rfl)) ?_
          rintro _ _ rfl
          refine WL_nil ?_
          refine WQ_code ?_
          refine WC_region ?_
          refine WL_val rfl rfl rfl (R_load rfl sc3 rfl (mmZ) rfl) ?_
          refine WL_val rfl rfl rfl (R_add rfl rfl rfl (by omega)) ?_
          refine WL_do0 rfl rfl (D_store (vs := [_]) rfl Try.sizeOf3 rfl rfl rfl rfl rfl (plZ) (by exact Nat.le_of_ble_eq_true rfl)) ?_
          rintro _ _ rfl
          refine WL_nil ?_
          refine WQ_nextHD (⟨z.turn + 1, dl :: z.ds, b7⟩) (by dsimp only; omega) (by dsimp only; omega) leZ (psZ) rfl (pqZ) rfl
      · have hg8 := c4
        refine WL_skip rfl rfl rfl ?_
        refine WL_skip rfl rfl rfl ?_
        refine WL_skip rfl rfl rfl ?_
        refine WL_skip rfl rfl rfl ?_
        refine WL_skip rfl rfl rfl ?_
        refine WL_skip rfl rfl rfl ?_
        refine WL_val rfl rfl rfl (R_pickF rfl rfl rfl) ?_
        refine WL_set (s := 54) (v := .bool false) rfl (by first | (exfalso; omega) | (simp; done) | exact congrArg Value.bool (decide_eq_false (by omega))) ?_
        refine WL_nil ?_
        refine WQ_code ?_
        refine WC_F rfl ?_
        refine WC_skip ?_
        refine WQ_code ?_
        refine WC_seq ?_
        refine WC_seq ?_
        refine WC_region ?_
        refine WL_val rfl rfl rfl (R_load rfl sc3 rfl (mmZ) rfl) ?_
        refine WL_nil ?_
        refine WQ_code ?_
        refine WC_region ?_
        refine WL_do rfl rfl rfl (D_alloc rfl zv3) ?_
        rintro _ _ ⟨b8, rfl, rfl⟩
        refine WL_do0 rfl rfl (D_store (vs := [_]) rfl Try.sizeOf3 rfl rfl rfl rfl rfl (plZ) (by exact Nat.le_of_ble_eq_true rfl)) ?_
        rintro _ _ rfl
        refine WL_nil ?_
        refine WQ_code ?_
        refine WC_region ?_
        refine WL_val rfl rfl rfl (R_load rfl sc3 rfl (mmZ) rfl) ?_
        refine WL_val rfl rfl rfl (R_add rfl rfl rfl (by omega)) ?_
        refine WL_do0 rfl rfl (D_store (vs := [_]) rfl Try.sizeOf3 rfl rfl rfl rfl rfl (plZ) (by exact Nat.le_of_ble_eq_true rfl)) ?_
        rintro _ _ rfl
        refine WL_nil ?_
        refine WQ_nextHD (⟨z.turn + 1, dl :: z.ds, b8⟩) (by dsimp only; omega) (by dsimp only; omega) leZ (psZ) rfl (pqZ) rfl
    · intro dl c pre gx hIx
      obtain ⟨rfl, rfl, ht0, hmx⟩ := hIx
      refine WC_exit ?_
      refine WQ_code ?_
      refine WC_seq ?_
      refine WC_region ?_
      refine WL_val rfl rfl rfl (R_load rfl sc3 rfl (mmZ) rfl) ?_
      refine WL_val rfl rfl rfl (R_load rfl sc27 rfl (mmZ) rfl) ?_
      refine WL_val rfl rfl rfl (R_len rfl Try.underlying27 rfl) ?_
      refine WL_val rfl rfl rfl (R_neq rfl rfl rfl) ?_
      refine WL_val rfl rfl rfl (R_move rfl rfl) ?_
      refine WL_splitD (s := 47) rfl (fun c6 => ?_) (fun c6 => ?_)
      · have hg8 := c6
        refine WL_val rfl rfl rfl (R_load rfl sc3 rfl (mmZ) rfl) ?_
        refine WL_val rfl rfl rfl (R_eql rfl rfl rfl) ?_
        refine WL_val rfl rfl rfl (R_move rfl rfl) ?_
        refine WL_splitD (s := 50) rfl (fun c7 => ?_) (fun c7 => ?_)
        · refine WL_skip rfl rfl rfl ?_
          refine WL_skip rfl rfl rfl ?_
          refine WL_val rfl rfl rfl (R_pickT rfl rfl rfl) ?_
          refine WL_val rfl rfl rfl (R_pickT rfl rfl rfl) ?_
          refine WL_set (s := 54) (v := .bool false) rfl (by first | (exfalso; omega) | (simp; done) | exact congrArg Value.bool (decide_eq_false (by omega))) ?_
          refine WL_nil ?_
          refine WQ_code ?_
          refine WC_F rfl ?_
          refine WC_skip ?_
          refine WQ_code ?_
          refine WC_seq ?_
          refine WC_seq ?_
          refine WC_region ?_
          refine WL_val rfl rfl rfl (R_load rfl sc3 rfl (mmZ) rfl) ?_
          refine WL_nil ?_
          refine WQ_code ?_
          refine WC_region ?_
          refine WL_do rfl rfl rfl (D_alloc rfl zv3) ?_
          rintro _ _ ⟨b9, rfl, rfl⟩
          refine WL_do0 rfl rfl (D_store (vs := [_]) rfl Try.sizeOf3 rfl rfl rfl rfl rfl (plZ) (by exact Nat.le_of_ble_eq_true rfl)) ?_
          rintro _ _ rfl
          refine WL_nil ?_
          refine WQ_code ?_
          refine WC_region ?_
          refine WL_val rfl rfl rfl (R_load rfl sc3 rfl (mmZ) rfl) ?_
          refine WL_val rfl rfl rfl (R_add rfl rfl rfl (by omega)) ?_
          refine WL_do0 rfl rfl (D_store (vs := [_]) rfl Try.sizeOf3 rfl rfl rfl rfl rfl (plZ) (by exact Nat.le_of_ble_eq_true rfl)) ?_
          rintro _ _ rfl
          refine WL_nil ?_
          refine WQ_nextHD (⟨z.turn + 1, dl :: z.ds, b9⟩) (by dsimp only; omega) (by dsimp only; omega) leZ (psZ) rfl (pqZ) rfl
        · refine WL_val rfl rfl rfl (R_load rfl sc3 rfl (mmZ) rfl) ?_
          refine WL_val rfl rfl rfl (R_neq rfl rfl rfl) ?_
          refine WL_val rfl rfl rfl (R_pickF rfl rfl rfl) ?_
          refine WL_val rfl rfl rfl (R_pickT rfl rfl rfl) ?_
          refine WL_set (s := 54) (v := .bool false) rfl (by first | (exfalso; omega) | (simp; done) | exact congrArg Value.bool (decide_eq_false (by omega))) ?_
          refine WL_nil ?_
          refine WQ_code ?_
          refine WC_F rfl ?_
          refine WC_skip ?_
          refine WQ_code ?_
          refine WC_seq ?_
          refine WC_seq ?_
          refine WC_region ?_
          refine WL_val rfl rfl rfl (R_load rfl sc3 rfl (mmZ) rfl) ?_
          refine WL_nil ?_
          refine WQ_code ?_
          refine WC_region ?_
          refine WL_do rfl rfl rfl (D_alloc rfl zv3) ?_
          rintro _ _ ⟨b10, rfl, rfl⟩
          refine WL_do0 rfl rfl (D_store (vs := [_]) rfl Try.sizeOf3 rfl rfl rfl rfl rfl (plZ) (by exact Nat.le_of_ble_eq_true rfl)) ?_
          rintro _ _ rfl
          refine WL_nil ?_
          refine WQ_code ?_
          refine WC_region ?_
          refine WL_val rfl rfl rfl (R_load rfl sc3 rfl (mmZ) rfl) ?_
          refine WL_val rfl rfl rfl (R_add rfl rfl rfl (by omega)) ?_
          refine WL_do0 rfl rfl (D_store (vs := [_]) rfl Try.sizeOf3 rfl rfl rfl rfl rfl (plZ) (by exact Nat.le_of_ble_eq_true rfl)) ?_
          rintro _ _ rfl
          refine WL_nil ?_
          refine WQ_nextHD (⟨z.turn + 1, dl :: z.ds, b10⟩) (by dsimp only; omega) (by dsimp only; omega) leZ (psZ) rfl (pqZ) rfl
      · have hg8 := c6
        refine WL_skip rfl rfl rfl ?_
        refine WL_skip rfl rfl rfl ?_
        refine WL_skip rfl rfl rfl ?_
        refine WL_skip rfl rfl rfl ?_
        refine WL_skip rfl rfl rfl ?_
        refine WL_skip rfl rfl rfl ?_
        refine WL_val rfl rfl rfl (R_pickF rfl rfl rfl) ?_
        refine WL_set (s := 54) (v := .bool false) rfl (by first | (exfalso; omega) | (simp; done) | exact congrArg Value.bool (decide_eq_false (by omega))) ?_
        refine WL_nil ?_
        refine WQ_code ?_
        refine WC_F rfl ?_
        refine WC_skip ?_
        refine WQ_code ?_
        refine WC_seq ?_
        refine WC_seq ?_
        refine WC_region ?_
        refine WL_val rfl rfl rfl (R_load rfl sc3 rfl (mmZ) rfl) ?_
        refine WL_nil ?_
        refine WQ_code ?_
        refine WC_region ?_
        refine WL_do rfl rfl rfl (D_alloc rfl zv3) ?_
        rintro _ _ ⟨b11, rfl, rfl⟩
        refine WL_do0 rfl rfl (D_store (vs := [_]) rfl Try.sizeOf3 rfl rfl rfl rfl rfl (plZ) (by exact Nat.le_of_ble_eq_true rfl)) ?_
        rintro _ _ rfl
        refine WL_nil ?_
        refine WQ_code ?_
        refine WC_region ?_
        refine WL_val rfl rfl rfl (R_load rfl sc3 rfl (mmZ) rfl) ?_
        refine WL_val rfl rfl rfl (R_add rfl rfl rfl (by omega)) ?_
        refine WL_do0 rfl rfl (D_store (vs := [_]) rfl Try.sizeOf3 rfl rfl rfl rfl rfl (plZ) (by exact Nat.le_of_ble_eq_true rfl)) ?_
        rintro _ _ rfl
        refine WL_nil ?_
        refine WQ_nextHD (⟨z.turn + 1, dl :: z.ds, b11⟩) (by dsimp only; omega) (by dsimp only; omega) leZ (psZ) rfl (pqZ) rfl
  · refine WC_exit ?_
    refine WQ_code ?_
    refine WC_seq ?_
    refine WC_region ?_
    refine WL_do0 rfl rfl (D_store (vs := [_]) rfl Try.sizeOf4 rfl rfl rfl rfl rfl (plZ) (by exact Nat.le_of_ble_eq_true rfl)) ?_
    rintro _ _ rfl
    refine WL_nil ?_
    refine WQ_code ?_
    refine WC_ret ?_
    refine WQ_retMs (z.ds) rfl (pqZ) rfl (.cons (.cell1 rfl sc4 (mmZ) rfl) .nil) rfl (by
        exact ⟨rfl, rfl⟩) (pqZ)

end Go.Proofs.Ytiomimjjdbijmaa
