/-
  Chapter 46 (pool), part IslB: contracts of functions that the laws call, each for the heap it names.
-/
import Derived.Test.YteofigbgdbpjgaaRows
import Derived.Test.YteofigbgdbpjgaaZB
import Derived.Test.YteofigbgdbpjgaaSLMapJ
import Derived.Test.YteofigbgdbpjgaaSLScope
import Derived.Test.YteofigbgdbpjgaaTab
import Derived.Test.YteofigbgdbpjgaaIslL
import Derived.Test.YteofigbgdbpjgaaCmp
import Derived.Test.YteofigbgdbpjgaaSLSliceB
set_option linter.unusedVariables false
set_option maxRecDepth 20000
set_option maxHeartbeats 1000000
namespace Go.Proofs.Yteofigbgdbpjgaa


theorem isL_one (cf : Int → Int → Int) {l : List Int} (h : 1 ≤ l.length) : isL cf (l.take 1) ++ l.drop 1 = l := by
  cases l with
  | nil => simp at h
  | cons a r => rfl
theorem isort_nil (o : Option Nat) (c : Nat) (fv : Value) (b : Int) (hb : b ≤ 1) : Spec Try.prog 90 [slV o 0 c, .int .i64 0, .int .i64 b, fv] [] (fun r H' => r = .tuple #[] ∧ H' = []) := by
  refine Spec.of (E := [(0, slV o 0 c), (1, .int .i64 0), (2, .int .i64 b), (3, fv)]) Try.func90 rfl (by kernel_rfl) Try.ntmps90 rfl rfl (fun w => ?_)
  refine WC_seq ?_
  refine WC_region ?_
  refine WL_val rfl rfl rfl (R_move rfl rfl) ?_
  refine WL_val rfl rfl rfl (R_add rfl rfl rfl (by omega)) ?_
  refine WL_val rfl rfl rfl (R_assign rfl rfl) ?_
  refine WL_nil ?_
  refine WQ_code ?_
  refine WC_block ?_
  refine WC_loopF (G := Unit) [8, 9, 12, 13, 14, 15, 16, 17, 18, 19, 20, 21, 22, 23, 24, 25, 26, 27, 28, 29, 30, 31, 32, 33, 34, 35, 36, 37, 38, 39, 40, 41, 42, 43, 44, 45, 46, 47, 48, 49, 50, 51, 52] (fun u => True) (fun u => [(8, .int .i64 1)]) (fun u => []) (fun u => 0) (()) (trivial) leZ (pqY) ?_
  rintro u _
  refine WC_seq ?_
  refine WC_seq ?_
  refine WC_region ?_
  refine WL_val rfl rfl rfl (R_move rfl rfl) ?_
  refine WL_val rfl rfl rfl (R_move rfl rfl) ?_
  refine WL_val rfl rfl rfl (R_lss rfl rfl rfl) ?_
  refine WL_nil ?_
  refine WQ_code ?_
  refine WC_dF rfl (by omega) ?_
  refine WC_exit ?_
  refine WQ_ret rfl rfl .nil rfl (by
      exact ⟨rfl, rfl⟩) (pqY)
theorem isort_ok (l : List Int) (wa c : Nat) (tl : List Value) (gf : Nat) (ca : List Value) (Hc : Heap) (cf : Int → Int → Int) (hf : ∀ a ∈ l, ∀ b ∈ l, Spec Try.prog gf (.int .i64 a :: .int .i64 b :: ca) Hc (fun r H' => r = .int .i64 (cf a b) ∧ Hc = H')) (hl : 1 ≤ l.length) (hb : l.length ≤ 1000000) :
    Spec Try.prog 90 [slV (some wa) l.length c, .int .i64 0, .int .i64 (l.length : Int), .func (.func gf) #[] ca.toArray] (⟨some wa, cl (ivs l ++ tl) 3⟩ :: Hc) (fun r H' => r = .tuple #[] ∧ H' = ⟨some wa, cl (ivs (isL cf l) ++ tl) 3⟩ :: Hc) := by
  refine Spec.of (E := [(0, slV (some wa) l.length c), (1, .int .i64 0), (2, .int .i64 (l.length : Int)), (3, .func (.func gf) #[] ca.toArray)]) Try.func90 rfl (by kernel_rfl) Try.ntmps90 rfl rfl (fun w => ?_)
  refine WC_seq ?_
  refine WC_region ?_
  refine WL_val rfl rfl rfl (R_move rfl rfl) ?_
  refine WL_val rfl rfl rfl (R_add rfl rfl rfl (by omega)) ?_
  refine WL_val rfl rfl rfl (R_assign rfl rfl) ?_
  refine WL_nil ?_
  refine WQ_code ?_
  refine WC_block ?_
  rw [show cl (ivs l ++ tl) 3 = cl (ivs (isL cf (l.take 1) ++ l.drop 1) ++ tl) 3 from by rw [isL_one cf hl]]
  refine WC_loopF (G := Nat) [8, 9, 12, 13, 14, 15, 16, 17, 18, 19, 20, 21, 22, 23, 24, 25, 26, 27, 28, 29, 30, 31, 32, 33, 34, 35, 36, 37, 38, 39, 40, 41, 42, 43, 44, 45, 46, 47, 48, 49, 50, 51, 52] (fun k => 1 ≤ k ∧ k ≤ l.length) (fun k => [(8, .int .i64 (k : Int))]) (fun k => [⟨some wa, cl (ivs (isL cf (l.take k) ++ l.drop k) ++ tl) 3⟩]) (fun k => l.length - k) (1) (⟨Nat.le_refl _, hl⟩) leZ (pqY) ?_
  rintro k ⟨hk1, hk⟩
  refine WC_seq ?_
  refine WC_seq ?_
  refine WC_region ?_
  refine WL_val rfl rfl rfl (R_move rfl rfl) ?_
  refine WL_val rfl rfl rfl (R_move rfl rfl) ?_
  refine WL_val rfl rfl rfl (R_lss rfl rfl rfl) ?_
  refine WL_nil ?_
  refine WQ_code ?_
  refine WC_dec rfl (fun c1 => ?_) (fun c1 => ?_)
  · refine WC_skip ?_
    refine WQ_code ?_
    refine WC_seq ?_
    refine WC_block ?_
    refine WC_seq ?_
    refine WC_region ?_
    refine WL_val rfl rfl rfl (R_move rfl rfl) ?_
    refine WL_val rfl rfl rfl (R_assign rfl rfl) ?_
    refine WL_nil ?_
    refine WQ_code ?_
    refine WC_block ?_
    obtain ⟨x, hx⟩ := getE (T := l) (i := k) (by omega)
    have hxl := List.mem_of_getElem? hx
    rw [show cl (ivs (isL cf (l.take k) ++ l.drop k) ++ tl) 3 = cl (ivs (isL cf (l.take k) ++ x :: ([] ++ l.drop (k + 1))) ++ tl) 3 from by rw [drop_at hx]; rfl]
    refine WC_loopF (G := InsW) [9, 18, 19, 20, 21, 22, 23, 24, 25, 26, 27, 28, 29, 30, 31, 32, 33, 34, 35, 36, 37, 38, 39, 40, 41, 42, 43, 44, 45, 46, 47, 48, 49, 50, 51, 52] (fun y => y.j = y.A.length ∧ isL cf (l.take k) = y.A ++ y.B ∧ ∀ z ∈ y.B, cf x z < 0) (fun y => [(9, .int .i64 (y.j : Int))]) (fun y => [⟨some wa, cl (ivs (y.A ++ x :: (y.B ++ l.drop (k + 1))) ++ tl) 3⟩]) (fun y => y.j) (⟨k, isL cf (l.take k), []⟩) (⟨by dsimp only; rw [isL_len, List.length_take]; omega, (List.append_nil _).symm, fun z hz => by cases hz⟩) leZ (pqY) ?_
    rintro y ⟨hj, hAB, hBx⟩
    have hjk : y.j ≤ k := by have h8 := isL_len cf (l.take k); rw [hAB, List.length_append, List.length_take] at h8; omega
    refine WC_seq ?_
    refine WC_seq ?_
    refine WC_draw _ [(0, true), (1, true), (2, true), (3, true), (4, true), (5, true), (6, true), (7, true), (8, true), (9, true), (10, true), (11, true), (12, true), (13, true), (14, false), (15, true), (16, true)] followsMixed rfl rfl (by kernel_rfl) .all ?_
    refine WM_val rfl rfl rfl rfl (R_move rfl rfl) ?_
    refine WM_val rfl rfl rfl rfl (R_move rfl rfl) ?_
    refine WM_val rfl rfl rfl rfl (R_gtr rfl rfl rfl) ?_
    refine WM_val rfl rfl rfl rfl (R_move rfl rfl) ?_
    refine WM_splitD (s := 21) rfl (fun c2 => ?_) (fun c2 => ?_)
    · obtain ⟨P2, y2, hP⟩ : ∃ P2 y2, y.A = P2 ++ [y2] := by rcases snoc_or y.A with e | e; rw [e] at hj; simp at hj; omega; exact e
      have hjl : y.j = P2.length + 1 := by rw [hj, hP, List.length_append]; rfl
      have hlast : (y.A ++ x :: (y.B ++ l.drop (k + 1)))[P2.length]? = some y2 := by rw [hP, List.append_assoc, List.getElem?_append_right (Nat.le_refl _), Nat.sub_self]; rfl
      have hyl : y2 ∈ l := List.mem_of_mem_take ((isL_perm cf (l.take k)).mem_iff.1 (by rw [hAB, hP]; simp))
      have hxat : (y.A ++ x :: (y.B ++ l.drop (k + 1)))[y.A.length]? = some x := mid_atX y.A
      have hsw1 : putAt (ivs (y.A ++ x :: (y.B ++ l.drop (k + 1))) ++ tl) (0 + y.A.length * 1) [.int .i64 y2] = ivs ((y.A ++ x :: (y.B ++ l.drop (k + 1))).set y.A.length y2) ++ tl := by have := fm_put0 encI1 y2 hxat (j := 0) (vs := [.int .i64 y2]) (by simp) rfl (tl := tl); rw [Nat.add_zero] at this; exact this
      have hP2at : ((y.A ++ x :: (y.B ++ l.drop (k + 1))).set y.A.length y2)[P2.length]? = some y2 := by rw [List.getElem?_set_ne (by rw [hP, List.length_append]; simp), hlast]
      have hsw2 : putAt (ivs ((y.A ++ x :: (y.B ++ l.drop (k + 1))).set y.A.length y2) ++ tl) (0 + P2.length * 1) [.int .i64 x] = ivs (P2 ++ x :: ((y2 :: y.B) ++ l.drop (k + 1))) ++ tl := by have := fm_put0 encI1 x hP2at (j := 0) (vs := [.int .i64 x]) (by simp) rfl (tl := tl); rw [Nat.add_zero] at this; rw [show ivs (P2 ++ x :: ((y2 :: y.B) ++ l.drop (k + 1))) = (((y.A ++ x :: (y.B ++ l.drop (k + 1))).set y.A.length y2).set P2.length x).flatMap encI from by rw [hP, swap_set]]; exact this
      refine WM_val rfl rfl rfl rfl (R_move rfl rfl) ?_
      refine WM_val rfl rfl rfl rfl (R_move rfl rfl) ?_
      refine WM_val rfl rfl rfl rfl (R_move rfl rfl) ?_
      first | refine WZ_set (s := 24) (v := .int .i64 ((y.A.length : Nat) : Int)) rfl (by rw [hj]) ?_ | refine WM_set (s := 24) (v := .int .i64 ((y.A.length : Nat) : Int)) rfl (by rw [hj]) ?_
      refine WM_val rfl rfl rfl rfl (R_indexAddrN rfl Try.underlying78 Try.sizeOf3 rfl rfl (by omega)) ?_
      refine WM_val rfl rfl rfl rfl (R_load (v := .int .i64 x) rfl sc3 rfl (mmY) (fm_get0 encI1 (mid_atX (x := x) (R := y.B ++ l.drop (k + 1)) y.A) (j := 0) (by omega))) ?_
      refine WM_val rfl rfl rfl rfl (R_move rfl rfl) ?_
      refine WM_val rfl rfl rfl rfl (R_move rfl rfl) ?_
      refine WM_val rfl rfl rfl rfl (R_sub rfl rfl rfl (by omega)) ?_
      first | refine WZ_set (s := 29) (v := .int .i64 ((P2.length : Nat) : Int)) rfl (by rw [hjl]; exact congrArg (Value.int .i64) (by omega)) ?_ | refine WM_set (s := 29) (v := .int .i64 ((P2.length : Nat) : Int)) rfl (by rw [hjl]; exact congrArg (Value.int .i64) (by omega)) ?_
      refine WM_val rfl rfl rfl rfl (R_indexAddrN rfl Try.underlying78 Try.sizeOf3 rfl rfl (by omega)) ?_
      refine WM_val rfl rfl rfl rfl (R_load (v := .int .i64 y2) rfl sc3 rfl (mmY) (fm_get0 encI1 hlast (j := 0) (by omega))) ?_
      refine WM_do rfl rfl rfl rfl (D_call (hf x hxl y2 hyl) rfl rfl rfl rfl (pqY)) ?_
      rintro _ _ ⟨_, ⟨rfl, rfl⟩, rfl⟩
      refine ⟨⟨_, pqY⟩, ?_⟩
      refine WM_val rfl rfl rfl rfl (R_lss rfl rfl rfl) ?_
      refine WM_val rfl rfl rfl rfl (R_pickT rfl rfl rfl) ?_
      refine WM_nil ?_
      refine WQ_code ?_
      refine WC_dec rfl (fun c3 => ?_) (fun c3 => ?_)
      · have hc := c3
        refine WC_skip ?_
        refine WQ_code ?_
        refine WC_seq ?_
        refine WC_block ?_
        refine WC_drawE [⟨some wa, _⟩] [(0, false), (1, false), (2, false), (3, false), (4, false), (5, false), (6, false), (7, false), (8, false), (9, true), (10, false), (11, false), (12, false), (13, true)] [(14, true), (15, false), (16, true), (17, false)] followsMixed rfl rfl (by kernel_rfl) (pqY) ?_
        refine WZ_val rfl rfl rfl rfl (R_move rfl rfl) ?_
        refine WZ_val rfl rfl rfl rfl (R_move rfl rfl) ?_
        first | refine WZ_set (s := 38) (v := .int .i64 ((y.A.length : Nat) : Int)) rfl (by rw [hj]) ?_ | refine WM_set (s := 38) (v := .int .i64 ((y.A.length : Nat) : Int)) rfl (by rw [hj]) ?_
        refine WZ_val rfl rfl rfl rfl (R_move rfl rfl) ?_
        refine WZ_val rfl rfl rfl rfl (R_move rfl rfl) ?_
        refine WZ_val rfl rfl rfl rfl (R_sub rfl rfl rfl (by omega)) ?_
        first | refine WZ_set (s := 41) (v := .int .i64 ((P2.length : Nat) : Int)) rfl (by rw [hjl]; exact congrArg (Value.int .i64) (by omega)) ?_ | refine WM_set (s := 41) (v := .int .i64 ((P2.length : Nat) : Int)) rfl (by rw [hjl]; exact congrArg (Value.int .i64) (by omega)) ?_
        refine WZ_val rfl rfl rfl rfl (R_move rfl rfl) ?_
        refine WZ_val rfl rfl rfl rfl (R_move rfl rfl) ?_
        refine WZ_val rfl rfl rfl rfl (R_sub rfl rfl rfl (by omega)) ?_
        first | refine WZ_set (s := 44) (v := .int .i64 ((P2.length : Nat) : Int)) rfl (by rw [hjl]; exact congrArg (Value.int .i64) (by omega)) ?_ | refine WM_set (s := 44) (v := .int .i64 ((P2.length : Nat) : Int)) rfl (by rw [hjl]; exact congrArg (Value.int .i64) (by omega)) ?_
        refine WZ_val rfl rfl rfl rfl (R_indexAddrN rfl Try.underlying78 Try.sizeOf3 rfl rfl (by omega)) ?_
        refine WZ_early rfl rfl rfl rfl (R_load (v := .int .i64 y2) rfl sc3 rfl (mmY) (fm_get0 encI1 hlast (j := 0) (by omega))) ?_
        refine WZ_val rfl rfl rfl rfl (R_move rfl rfl) ?_
        refine WZ_val rfl rfl rfl rfl (R_move rfl rfl) ?_
        first | refine WZ_set (s := 48) (v := .int .i64 ((y.A.length : Nat) : Int)) rfl (by rw [hj]) ?_ | refine WM_set (s := 48) (v := .int .i64 ((y.A.length : Nat) : Int)) rfl (by rw [hj]) ?_
        refine WZ_val rfl rfl rfl rfl (R_indexAddrN rfl Try.underlying78 Try.sizeOf3 rfl rfl (by omega)) ?_
        refine WZ_early rfl rfl rfl rfl (R_load (v := .int .i64 x) rfl sc3 rfl (mmY) (fm_get0 encI1 (mid_atX (x := x) (R := y.B ++ l.drop (k + 1)) y.A) (j := 0) (by omega))) ?_
        refine WZ_rest ?_
        refine WM_val rfl rfl rfl rfl (R_indexAddrN rfl Try.underlying78 Try.sizeOf3 rfl rfl (by omega)) ?_
        refine WM_do0 rfl rfl rfl (D_store (vs := [_]) rfl Try.sizeOf3 rfl rfl rfl rfl rfl (plY) (by exact fm_room0 encI1 (show y.A.length < (y.A ++ x :: (y.B ++ l.drop (k + 1))).length by rw [List.length_append]; simp) (j := 0) (by omega))) ?_
        rintro _ _ rfl
        refine ⟨⟨_, pqY⟩, ?_⟩
        rw [hsw1]
        refine WM_val rfl rfl rfl rfl (R_indexAddrN rfl Try.underlying78 Try.sizeOf3 rfl rfl (by omega)) ?_
        refine WM_do0 rfl rfl rfl (D_store (vs := [_]) rfl Try.sizeOf3 rfl rfl rfl rfl rfl (plY) (by exact fm_room0 encI1 (show P2.length < ((y.A ++ x :: (y.B ++ l.drop (k + 1))).set y.A.length y2).length by rw [List.length_set, List.length_append, hP, List.length_append]; simp; omega) (j := 0) (by omega))) ?_
        rintro _ _ rfl
        refine ⟨⟨_, pqY⟩, ?_⟩
        rw [hsw2]
        refine WM_nil ?_
        refine WQ_code ?_
        refine WC_region ?_
        refine WL_val rfl rfl rfl (R_move rfl rfl) ?_
        refine WL_val rfl rfl rfl (R_sub rfl rfl rfl (by omega)) ?_
        refine WL_set (s := 36) (v := .int .i64 ((P2.length : Nat) : Int)) rfl (by rw [hjl]; exact congrArg (Value.int .i64) (by omega)) ?_
        refine WL_val rfl rfl rfl (R_assign rfl rfl) ?_
        refine WL_nil ?_
        refine WQ_nextF (⟨P2.length, P2, y2 :: y.B⟩) (⟨rfl, by rw [hAB, hP]; simp, fun z hz => by rcases List.mem_cons.1 hz with rfl | hz; exact hc; exact hBx z hz⟩) (by dsimp only; omega) leZ (psZ) rfl (pqY)
      · have hc := c3
        have hex : y.A = [] ∨ ∃ P z, y.A = P ++ [z] ∧ ¬ cf x z < 0 := .inr ⟨P2, y2, hP, hc⟩
        refine WC_exit ?_
        refine WQ_code ?_
        refine WC_region ?_
        refine WL_val rfl rfl rfl (R_move rfl rfl) ?_
        refine WL_val rfl rfl rfl (R_add rfl rfl rfl (by omega)) ?_
        refine WL_val rfl rfl rfl (R_assign rfl rfl) ?_
        refine WL_nil ?_
        rw [show cl (ivs (y.A ++ x :: (y.B ++ l.drop (k + 1))) ++ tl) 3 = cl (ivs (isL cf (l.take (k + 1)) ++ l.drop (k + 1)) ++ tl) 3 from by rw [isL_next hx, hAB, insR_eq hBx hex]; simp]
        refine WQ_nextF (k + 1) (⟨by omega, by omega⟩) (by omega) leZ (psZ) rfl (pqY)
    · have hex : y.A = [] ∨ ∃ P z, y.A = P ++ [z] ∧ ¬ cf x z < 0 := .inl (List.eq_nil_of_length_eq_zero (by omega))
      refine WM_skip rfl rfl rfl rfl ?_
      refine WM_skip rfl rfl rfl rfl ?_
      refine WM_skip rfl rfl rfl rfl ?_
      refine WM_skip rfl rfl rfl rfl ?_
      refine WM_skip rfl rfl rfl rfl ?_
      refine WM_skip rfl rfl rfl rfl ?_
      refine WM_skip rfl rfl rfl rfl ?_
      refine WM_skip rfl rfl rfl rfl ?_
      refine WM_skip rfl rfl rfl rfl ?_
      refine WM_skip rfl rfl rfl rfl ?_
      refine WM_skipF rfl rfl rfl rfl (pqY) ?_
      refine WM_skip rfl rfl rfl rfl ?_
      refine WM_val rfl rfl rfl rfl (R_pickF rfl rfl rfl) ?_
      refine WM_nil ?_
      refine WQ_code ?_
      refine WC_F rfl ?_
      refine WC_exit ?_
      refine WQ_code ?_
      refine WC_region ?_
      refine WL_val rfl rfl rfl (R_move rfl rfl) ?_
      refine WL_val rfl rfl rfl (R_add rfl rfl rfl (by omega)) ?_
      refine WL_val rfl rfl rfl (R_assign rfl rfl) ?_
      refine WL_nil ?_
      rw [show cl (ivs (y.A ++ x :: (y.B ++ l.drop (k + 1))) ++ tl) 3 = cl (ivs (isL cf (l.take (k + 1)) ++ l.drop (k + 1)) ++ tl) 3 from by rw [isL_next hx, hAB, insR_eq hBx hex]; simp]
      refine WQ_nextF (k + 1) (⟨by omega, by omega⟩) (by omega) leZ (psZ) rfl (pqY)
  · have hkl : k = l.length := by omega
    refine WC_exit ?_
    rw [hkl, List.take_length, List.drop_length, List.append_nil]
    refine WQ_ret rfl rfl .nil rfl (by
        exact ⟨rfl, rfl⟩) (pqY)

theorem stab_nil (o : Option Nat) (c : Nat) (fv : Value) : Spec Try.prog 80 [slV o 0 c, .int .i64 0, fv] [] (fun r H' => r = .tuple #[] ∧ H' = []) := by
  refine Spec.of (E := [(0, slV o 0 c), (1, .int .i64 0), (2, fv)]) Try.func80 rfl (by kernel_rfl) Try.ntmps80 rfl rfl (fun w => ?_)
  refine WC_seq ?_
  refine WC_region ?_
  refine WL_val rfl rfl rfl (R_assign rfl rfl) ?_
  refine WL_nil ?_
  refine WQ_code ?_
  refine WC_seq ?_
  refine WC_region ?_
  refine WL_val rfl rfl rfl (R_move rfl rfl) ?_
  refine WL_val rfl rfl rfl (R_assign rfl rfl) ?_
  refine WL_val rfl rfl rfl (R_assign rfl rfl) ?_
  refine WL_nil ?_
  refine WQ_code ?_
  refine WC_seq ?_
  refine WC_block ?_
  refine WC_loopF (G := Unit) [7, 8, 11, 12, 13, 14, 15, 16, 17, 18, 19, 20, 21, 22] (fun u => True) (fun u => [(7, .int .i64 0), (8, .int .i64 20)]) (fun u => []) (fun u => 0) (()) (trivial) leZ (pqY) ?_
  rintro u _
  refine WC_seq ?_
  refine WC_seq ?_
  refine WC_region ?_
  refine WL_val rfl rfl rfl (R_move rfl rfl) ?_
  refine WL_val rfl rfl rfl (R_move rfl rfl) ?_
  refine WL_val rfl rfl rfl (R_leq rfl rfl rfl) ?_
  refine WL_nil ?_
  refine WQ_code ?_
  refine WC_dF rfl (by omega) ?_
  refine WC_exit ?_
  refine WQ_code ?_
  refine WC_seq ?_
  refine WC_region ?_
  refine WL_val rfl rfl rfl (R_move rfl rfl) ?_
  refine WL_val rfl rfl rfl (R_move rfl rfl) ?_
  refine WL_val rfl rfl rfl (R_move rfl rfl) ?_
  refine WL_val rfl rfl rfl (R_move rfl rfl) ?_
  refine WL_do rfl rfl rfl (D_call (isort_nil o c fv 0 (by omega)) rfl rfl rfl rfl (pqY)) ?_
  rintro _ _ ⟨_, ⟨rfl, rfl⟩, rfl⟩
  refine WL_nil ?_
  refine WQ_code ?_
  refine WC_block ?_
  refine WC_loopF (G := Unit) [6, 7, 8, 9, 28, 29, 30, 31, 32, 33, 34, 35, 36, 37, 38, 39, 40, 41, 42, 43, 44, 45, 46, 47, 48, 49, 50, 51, 52, 53, 54, 55, 56, 57, 58, 59, 60, 61, 62] (fun u => True) (fun u => [(6, .int .i64 20)]) (fun u => []) (fun u => 0) (()) (trivial) leZ (pqY) ?_
  rintro u _
  refine WC_seq ?_
  refine WC_seq ?_
  refine WC_region ?_
  refine WL_val rfl rfl rfl (R_move rfl rfl) ?_
  refine WL_val rfl rfl rfl (R_move rfl rfl) ?_
  refine WL_val rfl rfl rfl (R_lss rfl rfl rfl) ?_
  refine WL_nil ?_
  refine WQ_code ?_
  refine WC_dF rfl (by omega) ?_
  refine WC_exit ?_
  refine WQ_ret rfl rfl .nil rfl (by
      exact ⟨rfl, rfl⟩) (pqY)
theorem stab_some (l : List Int) (wa c : Nat) (tl : List Value) (gf : Nat) (ca : List Value) (Hc : Heap) (cf : Int → Int → Int) (hf : ∀ a ∈ l, ∀ b ∈ l, Spec Try.prog gf (.int .i64 a :: .int .i64 b :: ca) Hc (fun r H' => r = .int .i64 (cf a b) ∧ Hc = H')) (hl : 1 ≤ l.length) (hb : l.length ≤ 19) :
    Spec Try.prog 80 [slV (some wa) l.length c, .int .i64 (l.length : Int), .func (.func gf) #[] ca.toArray] (⟨some wa, cl (ivs l ++ tl) 3⟩ :: Hc) (fun r H' => r = .tuple #[] ∧ H' = ⟨some wa, cl (ivs (isL cf l) ++ tl) 3⟩ :: Hc) := by
  refine Spec.of (E := [(0, slV (some wa) l.length c), (1, .int .i64 (l.length : Int)), (2, .func (.func gf) #[] ca.toArray)]) Try.func80 rfl (by kernel_rfl) Try.ntmps80 rfl rfl (fun w => ?_)
  refine WC_seq ?_
  refine WC_region ?_
  refine WL_val rfl rfl rfl (R_assign rfl rfl) ?_
  refine WL_nil ?_
  refine WQ_code ?_
  refine WC_seq ?_
  refine WC_region ?_
  refine WL_val rfl rfl rfl (R_move rfl rfl) ?_
  refine WL_val rfl rfl rfl (R_assign rfl rfl) ?_
  refine WL_val rfl rfl rfl (R_assign rfl rfl) ?_
  refine WL_nil ?_
  refine WQ_code ?_
  refine WC_seq ?_
  refine WC_block ?_
  refine WC_loopF (G := Unit) [7, 8, 11, 12, 13, 14, 15, 16, 17, 18, 19, 20, 21, 22] (fun u => True) (fun u => [(7, .int .i64 0), (8, .int .i64 20)]) (fun u => []) (fun u => 0) (()) (trivial) leZ (pqY) ?_
  rintro u _
  refine WC_seq ?_
  refine WC_seq ?_
  refine WC_region ?_
  refine WL_val rfl rfl rfl (R_move rfl rfl) ?_
  refine WL_val rfl rfl rfl (R_move rfl rfl) ?_
  refine WL_val rfl rfl rfl (R_leq rfl rfl rfl) ?_
  refine WL_nil ?_
  refine WQ_code ?_
  refine WC_dF rfl (by omega) ?_
  refine WC_exit ?_
  refine WQ_code ?_
  refine WC_seq ?_
  refine WC_region ?_
  refine WL_val rfl rfl rfl (R_move rfl rfl) ?_
  refine WL_val rfl rfl rfl (R_move rfl rfl) ?_
  refine WL_val rfl rfl rfl (R_move rfl rfl) ?_
  refine WL_val rfl rfl rfl (R_move rfl rfl) ?_
  refine WL_do rfl rfl rfl (D_call (isort_ok l wa c tl gf ca Hc cf hf hl (by omega)) rfl rfl rfl rfl (pqY)) ?_
  rintro _ _ ⟨_, ⟨rfl, rfl⟩, rfl⟩
  refine WL_nil ?_
  refine WQ_code ?_
  refine WC_block ?_
  refine WC_loopF (G := Unit) [6, 7, 8, 9, 28, 29, 30, 31, 32, 33, 34, 35, 36, 37, 38, 39, 40, 41, 42, 43, 44, 45, 46, 47, 48, 49, 50, 51, 52, 53, 54, 55, 56, 57, 58, 59, 60, 61, 62] (fun u => True) (fun u => [(6, .int .i64 20)]) (fun u => []) (fun u => 0) (()) (trivial) leZ (pqY) ?_
  rintro u _
  refine WC_seq ?_
  refine WC_seq ?_
  refine WC_region ?_
  refine WL_val rfl rfl rfl (R_move rfl rfl) ?_
  refine WL_val rfl rfl rfl (R_move rfl rfl) ?_
  refine WL_val rfl rfl rfl (R_lss rfl rfl rfl) ?_
  refine WL_nil ?_
  refine WQ_code ?_
  refine WC_dF rfl (by omega) ?_
  refine WC_exit ?_
  refine WQ_ret rfl rfl .nil rfl (by
      exact ⟨rfl, rfl⟩) (pqY)
theorem stabf_nil (o : Option Nat) (c : Nat) (fv : Value) : Spec Try.prog 55 [slV o 0 c, fv] [] (fun r H' => r = .tuple #[] ∧ H' = []) := by
  refine Spec.of (E := [(0, slV o 0 c), (1, fv)]) Try.func55 rfl (by kernel_rfl) Try.ntmps55 rfl rfl (fun w => ?_)
  refine WC_region ?_
  refine WL_val rfl rfl rfl (R_move rfl rfl) ?_
  refine WL_val rfl rfl rfl (R_move rfl rfl) ?_
  refine WL_val rfl rfl rfl (R_len rfl Try.underlying78 rfl) ?_
  refine WL_val rfl rfl rfl (R_move rfl rfl) ?_
  refine WL_do rfl rfl rfl (D_call (stab_nil o c fv) rfl rfl rfl rfl (pqY)) ?_
  rintro _ _ ⟨_, ⟨rfl, rfl⟩, rfl⟩
  refine WL_nil ?_
  refine WQ_ret rfl rfl .nil rfl (by
      exact ⟨rfl, rfl⟩) (pqY)
theorem stabf_some (l : List Int) (wa c : Nat) (tl : List Value) (gf : Nat) (ca : List Value) (Hc : Heap) (cf : Int → Int → Int) (hf : ∀ a ∈ l, ∀ b ∈ l, Spec Try.prog gf (.int .i64 a :: .int .i64 b :: ca) Hc (fun r H' => r = .int .i64 (cf a b) ∧ Hc = H')) (hl : 1 ≤ l.length) (hb : l.length ≤ 19) :
    Spec Try.prog 55 [slV (some wa) l.length c, .func (.func gf) #[] ca.toArray] (⟨some wa, cl (ivs l ++ tl) 3⟩ :: Hc) (fun r H' => r = .tuple #[] ∧ H' = ⟨some wa, cl (ivs (isL cf l) ++ tl) 3⟩ :: Hc) := by
  refine Spec.of (E := [(0, slV (some wa) l.length c), (1, .func (.func gf) #[] ca.toArray)]) Try.func55 rfl (by kernel_rfl) Try.ntmps55 rfl rfl (fun w => ?_)
  refine WC_region ?_
  refine WL_val rfl rfl rfl (R_move rfl rfl) ?_
  refine WL_val rfl rfl rfl (R_move rfl rfl) ?_
  refine WL_val rfl rfl rfl (R_len rfl Try.underlying78 rfl) ?_
  refine WL_val rfl rfl rfl (R_move rfl rfl) ?_
  refine WL_do rfl rfl rfl (D_call (stab_some l wa c tl gf ca Hc cf hf hl hb) rfl rfl rfl rfl (pqY)) ?_
  rintro _ _ ⟨_, ⟨rfl, rfl⟩, rfl⟩
  refine WL_nil ?_
  refine WQ_ret rfl rfl .nil rfl (by
      exact ⟨rfl, rfl⟩) (pqY)
/-- SortStableFunc of few elements: they are put in one by one. -/
theorem stabf_ok (l : List Int) (o : Option Nat) (c : Nat) (tl : List Value) (own : Own o l.length c 1 (ivs l) tl) (gf : Nat) (ca : List Value) (Hc : Heap) (cf : Int → Int → Int) (hf : ∀ a ∈ l, ∀ b ∈ l, Spec Try.prog gf (.int .i64 a :: .int .i64 b :: ca) Hc (fun r H' => r = .int .i64 (cf a b) ∧ Hc = H')) (hb : l.length ≤ 19) :
    Spec Try.prog 55 [slV o l.length c, .func (.func gf) #[] ca.toArray] (⟨o, cl (ivs l ++ tl) 3⟩ :: Hc) (fun r H' => r = .tuple #[] ∧ H' = ⟨o, cl (ivs (isL cf l) ++ tl) 3⟩ :: Hc) := by
  by_cases hl : 1 ≤ l.length
  · obtain ⟨wa, rfl⟩ := own.some_of (by omega)
    exact stabf_some l wa c tl gf ca Hc cf hf hl hb
  · have h0 : l = [] := List.eq_nil_of_length_eq_zero (by omega)
    subst h0
    exact ((stabf_nil o c (.func (.func gf) #[] ca.toArray)).fr (⟨o, cl (ivs [] ++ tl) 3⟩ :: Hc)).mono fun r H' ⟨H1, ⟨h1, h2⟩, h3⟩ => ⟨h1, by rw [h3, h2]; rfl⟩

end Go.Proofs.Yteofigbgdbpjgaa
