/-
  Chapter 11 (poller), part Hold: contracts of functions that the laws call, each for the heap it names.
-/
import Derived.Test.YtbkdebnkoidicaaGreatY05
import Derived.Test.YtbkdebnkoidicaaGreatRows
section
set_option linter.unusedVariables false
set_option maxRecDepth 20000
set_option maxHeartbeats 16000000
namespace Go.Proofs.YtbkdebnkoidicaaGreat
structure HoO where
  k : Nat
  N : Nat
  z : PoS
  m : PoM
structure HoC where
  z : PoS
  m : PoM
  N : Nat
  L : List Int
  ob : Option Nat
  c : Nat
  tl : List Value
  why : Int
theorem arF_put (z : PoS) {j : Nat} (hj : j < 64) : putAt ((arF z j).flatMap encP11 ++ []) (0 + j * 2) [.int .i64 (z.whr (j : Int)).1.1.1, .int .i64 (z.whr (j : Int)).1.1.2] = (arF z (j + 1)).flatMap encP11 ++ [] := by
  show _ = (upTo _ _ (j + 1)).flatMap encP11 ++ []
  rw [← upTo_set]
  exact fm_put0 encP11_2 (z.whr (j : Int)).1.1 (upTo_at _ _ hj) (j := 0) (vs := [.int .i64 (z.whr (j : Int)).1.1.1, .int .i64 (z.whr (j : Int)).1.1.2]) (by simp) rfl (tl := [])
theorem arD_put (z : PoS) {j : Nat} (hj : j < 64) : putAt (ivs (arD z j) ++ []) (0 + j * 1) [.int .i64 (z.whr (j : Int)).1.2] = ivs (arD z (j + 1)) ++ [] := by
  show _ = ivs (upTo _ _ (j + 1)) ++ []
  rw [← upTo_set]
  exact fm_put0 encI1 (z.whr (j : Int)).1.2 (upTo_at _ _ hj) (j := 0) (vs := [.int .i64 (z.whr (j : Int)).1.2]) (by simp) rfl (tl := [])
theorem arB_put (z : PoS) {j : Nat} (hj : j < 64) : putAt ((arB z j).flatMap encB11 ++ []) (0 + j * 1) [.bool (decide ((z.whr (j : Int)).2 = 0))] = (arB z (j + 1)).flatMap encB11 ++ [] := by
  show _ = (upTo _ _ (j + 1)).flatMap encB11 ++ []
  rw [← upTo_set]
  exact fm_put0 encB11_1 (decide ((z.whr (j : Int)).2 = 0)) (upTo_at _ _ hj) (j := 0) (vs := [.bool (decide ((z.whr (j : Int)).2 = 0))]) (by simp) rfl (tl := [])
theorem holds_bad (m : Int) (now : Nat) (oa : Option Addr) (n c : Nat) (hb : (n : Int) ≤ 9223372036854775807) (h : 70 < n ∨ m < 1 ∨ 64 < m ∨ now = 18446744073709551615) : Spec Tryz.prog 5 [.int .i64 m, .int .u64 (now : Int), .slice oa n c] [] (fun r H' => r = .bool true ∧ H' = []) := by
  refine Spec.of (E := [(0, .int .i64 m), (1, .int .u64 (now : Int)), (2, .slice oa n c)]) Tryz.func5 rfl (by kernel_rfl) Tryz.ntmps5 rfl rfl (fun w => ?_)
  refine WC_seq ?_
  refine WC_region ?_
  refine WL_val rfl rfl rfl (R_assign rfl rfl) ?_
  refine WL_nil ?_
  refine WQ_code ?_
  refine WC_seq ?_
  refine WC_seq ?_
  refine WC_region ?_
  refine WL_val rfl rfl rfl (R_move rfl rfl) ?_
  refine WL_val rfl rfl rfl (R_len rfl Tryz.underlying52 rfl) ?_
  refine WL_val rfl rfl rfl (R_gtr rfl rfl rfl) ?_
  refine WL_val rfl rfl rfl (R_move rfl rfl) ?_
  refine WL_splitD (s := 33) rfl (fun c1 => ?_) (fun c1 => ?_)
  · refine WL_skip rfl rfl rfl ?_
    refine WL_skip rfl rfl rfl ?_
    refine WL_val rfl rfl rfl (R_pickT rfl rfl rfl) ?_
    refine WL_val rfl rfl rfl (R_move rfl rfl) ?_
    refine WL_skip rfl rfl rfl ?_
    refine WL_skip rfl rfl rfl ?_
    refine WL_val rfl rfl rfl (R_pickT rfl rfl rfl) ?_
    refine WL_val rfl rfl rfl (R_move rfl rfl) ?_
    refine WL_skip rfl rfl rfl ?_
    refine WL_skip rfl rfl rfl ?_
    refine WL_val rfl rfl rfl (R_pickT rfl rfl rfl) ?_
    refine WL_nil ?_
    refine WQ_code ?_
    refine WC_T rfl ?_
    refine WC_seq ?_
    refine WC_region ?_
    refine WL_do rfl rfl rfl (D_call (known_ok) rfl rfl rfl rfl (pqC)) ?_
    rintro _ _ ⟨_, ⟨rfl, rfl⟩, rfl⟩
    refine WL_val rfl rfl rfl (R_assign rfl rfl) ?_
    refine WL_nil ?_
    refine WQ_code ?_
    refine WC_ret ?_
    refine WQ_ret rfl rfl (.cons (.tmp rfl) .nil) rfl (by
        exact ⟨rfl, rfl⟩) (pqC)
  · refine WL_val rfl rfl rfl (R_move rfl rfl) ?_
    refine WL_val rfl rfl rfl (R_lss rfl rfl rfl) ?_
    refine WL_val rfl rfl rfl (R_pickF rfl rfl rfl) ?_
    refine WL_val rfl rfl rfl (R_move rfl rfl) ?_
    refine WL_splitD (s := 37) rfl (fun c2 => ?_) (fun c2 => ?_)
    · refine WL_skip rfl rfl rfl ?_
      refine WL_skip rfl rfl rfl ?_
      refine WL_val rfl rfl rfl (R_pickT rfl rfl rfl) ?_
      refine WL_val rfl rfl rfl (R_move rfl rfl) ?_
      refine WL_skip rfl rfl rfl ?_
      refine WL_skip rfl rfl rfl ?_
      refine WL_val rfl rfl rfl (R_pickT rfl rfl rfl) ?_
      refine WL_nil ?_
      refine WQ_code ?_
      refine WC_T rfl ?_
      refine WC_seq ?_
      refine WC_region ?_
      refine WL_do rfl rfl rfl (D_call (known_ok) rfl rfl rfl rfl (pqC)) ?_
      rintro _ _ ⟨_, ⟨rfl, rfl⟩, rfl⟩
      refine WL_val rfl rfl rfl (R_assign rfl rfl) ?_
      refine WL_nil ?_
      refine WQ_code ?_
      refine WC_ret ?_
      refine WQ_ret rfl rfl (.cons (.tmp rfl) .nil) rfl (by
          exact ⟨rfl, rfl⟩) (pqC)
    · refine WL_val rfl rfl rfl (R_move rfl rfl) ?_
      refine WL_val rfl rfl rfl (R_gtr rfl rfl rfl) ?_
      refine WL_val rfl rfl rfl (R_pickF rfl rfl rfl) ?_
      refine WL_val rfl rfl rfl (R_move rfl rfl) ?_
      refine WL_splitD (s := 41) rfl (fun c3 => ?_) (fun c3 => ?_)
      · refine WL_skip rfl rfl rfl ?_
        refine WL_skip rfl rfl rfl ?_
        refine WL_val rfl rfl rfl (R_pickT rfl rfl rfl) ?_
        refine WL_nil ?_
        refine WQ_code ?_
        refine WC_T rfl ?_
        refine WC_seq ?_
        refine WC_region ?_
        refine WL_do rfl rfl rfl (D_call (known_ok) rfl rfl rfl rfl (pqC)) ?_
        rintro _ _ ⟨_, ⟨rfl, rfl⟩, rfl⟩
        refine WL_val rfl rfl rfl (R_assign rfl rfl) ?_
        refine WL_nil ?_
        refine WQ_code ?_
        refine WC_ret ?_
        refine WQ_ret rfl rfl (.cons (.tmp rfl) .nil) rfl (by
            exact ⟨rfl, rfl⟩) (pqC)
      · refine WL_val rfl rfl rfl (R_move rfl rfl) ?_
        refine WL_val rfl rfl rfl (R_eql rfl rfl rfl) ?_
        refine WL_val rfl rfl rfl (R_pickF rfl rfl rfl) ?_
        refine WL_nil ?_
        refine WQ_code ?_
        refine WC_dec rfl (fun c4 => ?_) (fun c4 => ?_)
        · refine WC_seq ?_
          refine WC_region ?_
          refine WL_do rfl rfl rfl (D_call (known_ok) rfl rfl rfl rfl (pqC)) ?_
          rintro _ _ ⟨_, ⟨rfl, rfl⟩, rfl⟩
          refine WL_val rfl rfl rfl (R_assign rfl rfl) ?_
          refine WL_nil ?_
          refine WQ_code ?_
          refine WC_ret ?_
          refine WQ_ret rfl rfl (.cons (.tmp rfl) .nil) rfl (by
              exact ⟨rfl, rfl⟩) (pqC)
        · exfalso; omega
theorem holds_ok (M : Nat) (hm1 : 1 ≤ M) (hm2 : M ≤ 64) (now : Nat) (hnow : now < 18446744073709551615) (oa : Option Addr) (ent : Ent) (l : List Ac11) (c : Nat) (ha : Arg oa ent 7 encA11 l) (hOk : ∀ a ∈ l, a.tm ≤ 18446744073709551615) (h : l.length ≤ 70) : Spec Tryz.prog 5 [.int .i64 (M : Int), .int .u64 (now : Int), .slice oa l.length c] [ent] (fun r H' => r = .bool true ∧ H' = [ent]) := by
  refine Spec.of (E := [(0, .int .i64 (M : Int)), (1, .int .u64 (now : Int)), (2, .slice oa l.length c)]) Tryz.func5 rfl (by kernel_rfl) Tryz.ntmps5 rfl rfl (fun w => ?_)
  refine WC_seq ?_
  refine WC_region ?_
  refine WL_val rfl rfl rfl (R_assign rfl rfl) ?_
  refine WL_nil ?_
  refine WQ_code ?_
  refine WC_seq ?_
  refine WC_seq ?_
  refine WC_region ?_
  refine WL_val rfl rfl rfl (R_move rfl rfl) ?_
  refine WL_val rfl rfl rfl (R_len rfl Tryz.underlying52 rfl) ?_
  refine WL_val rfl rfl rfl (R_gtr rfl rfl rfl) ?_
  refine WL_val rfl rfl rfl (R_move rfl rfl) ?_
  refine WL_set (s := 33) (v := .bool false) rfl (by exact congrArg Value.bool (decide_eq_false (by omega))) ?_
  refine WL_val rfl rfl rfl (R_move rfl rfl) ?_
  refine WL_val rfl rfl rfl (R_lss rfl rfl rfl) ?_
  refine WL_val rfl rfl rfl (R_pickF rfl rfl rfl) ?_
  refine WL_val rfl rfl rfl (R_move rfl rfl) ?_
  refine WL_set (s := 37) (v := .bool false) rfl (by exact congrArg Value.bool (decide_eq_false (by omega))) ?_
  refine WL_val rfl rfl rfl (R_move rfl rfl) ?_
  refine WL_val rfl rfl rfl (R_gtr rfl rfl rfl) ?_
  refine WL_val rfl rfl rfl (R_pickF rfl rfl rfl) ?_
  refine WL_val rfl rfl rfl (R_move rfl rfl) ?_
  refine WL_set (s := 41) (v := .bool false) rfl (by exact congrArg Value.bool (decide_eq_false (by omega))) ?_
  refine WL_val rfl rfl rfl (R_move rfl rfl) ?_
  refine WL_val rfl rfl rfl (R_eql rfl rfl rfl) ?_
  refine WL_val rfl rfl rfl (R_pickF rfl rfl rfl) ?_
  refine WL_nil ?_
  refine WQ_code ?_
  refine WC_dF rfl (by omega) ?_
  refine WC_skip ?_
  refine WQ_code ?_
  refine WC_seq ?_
  refine WC_region ?_
  refine WL_val rfl rfl rfl (R_move rfl rfl) ?_
  refine WL_val rfl rfl rfl (R_move rfl rfl) ?_
  refine WL_do rfl rfl rfl (D_call (po_new M now hm1 hm2 hnow) rfl rfl rfl rfl (pqC)) ?_
  rintro _ _ ⟨_, ⟨m0, rfl, rfl, g0⟩, rfl⟩
  refine WL_val rfl rfl rfl (R_move rfl rfl) ?_
  refine WL_val rfl rfl rfl (R_extract rfl rfl rfl) ?_
  refine WL_val rfl rfl rfl (R_extract rfl rfl rfl) ?_
  refine WL_val rfl rfl rfl (R_assign rfl rfl) ?_
  refine WL_val rfl rfl rfl (R_assign rfl rfl) ?_
  refine WL_nil ?_
  refine WQ_code ?_
  refine WC_seq ?_
  refine WC_seq ?_
  refine WC_region ?_
  refine WL_val rfl rfl rfl (R_move rfl rfl) ?_
  refine WL_val rfl rfl rfl (R_ptrEqNil rfl Tryz.underlying23 rfl) ?_
  refine WL_val rfl rfl rfl (R_move rfl rfl) ?_
  refine WL_val rfl rfl rfl (R_move rfl rfl) ?_
  refine WL_val rfl rfl rfl (R_neq rfl rfl rfl) ?_
  refine WL_set (s := 56) (v := .bool false) rfl (by simp) ?_
  refine WL_val rfl rfl rfl (R_pickF rfl rfl rfl) ?_
  refine WL_nil ?_
  refine WQ_code ?_
  refine WC_F rfl ?_
  refine WC_skip ?_
  refine WQ_code ?_
  refine WC_seq ?_
  refine WC_seq ?_
  refine WC_region ?_
  refine WL_val rfl rfl rfl (R_move rfl rfl) ?_
  refine WL_val rfl rfl rfl (R_len rfl Tryz.underlying52 rfl) ?_
  refine WL_val rfl rfl rfl (R_move rfl rfl) ?_
  refine WL_nil ?_
  refine WQ_code ?_
  refine WC_block ?_
  refine WC_loopF (G := HoO) [6, 10, 11, 12, 13, 14, 15, 16, 17, 18, 19, 20, 21, 22, 23, 24, 25, 26, 27, 28, 29, 60, 61, 62, 63, 64, 65, 66, 67, 68, 69, 70, 71, 72, 73, 74, 75, 76, 77, 78, 79, 80, 81, 82, 83, 84, 85, 86, 87, 88, 89, 90, 91, 92, 93, 94, 95, 96, 97, 98, 99, 100, 101, 102, 103, 104, 105, 106, 107, 108, 109, 110, 111, 112, 113, 114, 115, 116, 117, 118, 119, 120, 121, 122, 123, 124, 125, 126, 127, 128, 129, 130, 131, 132, 133, 134, 135, 136, 137, 138, 139, 140, 141, 142, 143, 144, 145, 146, 147, 148, 149, 150, 151, 152, 153, 154, 155, 156, 157, 158, 159, 160, 161, 162, 163, 164, 165, 166, 167, 168, 169, 170, 171, 172, 173, 174, 175, 176, 177, 178, 179, 180, 181, 182, 183, 184, 185, 186, 187, 188, 189, 190, 191, 192, 193, 194, 195, 196, 197, 198, 199, 200, 201, 202, 203, 204, 205, 206, 207, 208, 209, 210, 211, 212, 213, 214, 215, 216, 217, 218, 219, 220, 221, 222, 223, 224, 225, 226, 227, 228, 229, 230, 231, 232, 233, 234, 235, 236, 237, 238, 239, 240, 241, 242, 243, 244, 245, 246, 247, 248, 249, 250, 251, 252, 253, 254, 255, 256, 257, 258, 259, 260, 261, 262, 263, 264, 265, 266, 267, 268, 269, 270, 271, 272, 273, 274, 275, 276, 277, 278, 279, 280, 281, 282, 283, 284, 285, 286, 287, 288, 289, 290, 291, 292, 293, 294, 295, 296, 297, 298, 299, 300] (fun y => y.k ≤ l.length ∧ PoIs y.N y.z y.m ∧ y.N ≤ 130 * y.k ∧ y.m.p = m0.p ∧ HInv y.z ∧ y.z.s.sm.length = M) (fun y => [(60, .int .i64 (y.k : Int))]) (fun y => poH y.z y.m) (fun y => l.length - y.k) (⟨0, 0, newS M now, m0⟩) (⟨Nat.zero_le _, g0, Nat.le_refl _, rfl, hinv_new M now hm2 hnow, by simp [newS]⟩) leZ (pqC) ?_
  rintro y ⟨hyk, hy, hyn, hyp, hz, hsl⟩
  rw [← hyp]
  have hT := hy.tb.len
  refine WC_seq ?_
  refine WC_region ?_
  refine WL_val rfl rfl rfl (R_lss rfl rfl rfl) ?_
  refine WL_nil ?_
  refine WQ_code ?_
  refine WC_seq ?_
  refine WC_dec rfl (fun c1 => ?_) (fun c1 => ?_)
  · refine WC_skip ?_
    refine WQ_code ?_
    refine WC_seq ?_
    refine WC_block ?_
    refine WC_seq ?_
    refine WC_region ?_
    obtain ⟨a, hak⟩ := exE (T := l) (i := y.k) (by omega)
    obtain ⟨lb, lk, lcs, le, lfr, rfl, rfl, hat⟩ := ha.some (by omega)
    have htm := hOk a (List.mem_of_getElem? hak)
    refine WL_val rfl rfl rfl (R_indexAddrN rfl Tryz.underlying52 Tryz.sizeOf54 rfl rfl (by omega)) ?_
    refine WL_val rfl rfl rfl (R_loadAG (vs := encA11 a) rfl ag54 rfl (mmC) rfl (hat y.k a hak)) ?_
    refine WL_do rfl rfl rfl (D_alloc rfl zv54) ?_
    rintro _ _ ⟨b1, rfl, rfl⟩
    refine WL_do0 rfl rfl (D_store (vs := [_, _, _, _, _, _, _]) rfl Tryz.sizeOf54 rfl rfl rfl rfl rfl (plC) (by exact Nat.le_of_ble_eq_true rfl)) ?_
    rintro _ _ rfl
    refine WL_nil ?_
    refine WQ_code ?_
    refine WC_seq ?_
    refine WC_region ?_
    refine WL_do rfl rfl rfl (D_alloc rfl zv55) ?_
    rintro _ _ ⟨b2, rfl, rfl⟩
    refine WL_nil ?_
    refine WQ_code ?_
    refine WC_seq ?_
    refine WC_region ?_
    refine WL_do rfl rfl rfl (D_alloc rfl zv56) ?_
    rintro _ _ ⟨b3, rfl, rfl⟩
    refine WL_nil ?_
    refine WQ_code ?_
    refine WC_seq ?_
    refine WC_region ?_
    refine WL_do rfl rfl rfl (D_alloc rfl zv57) ?_
    rintro _ _ ⟨b4, rfl, rfl⟩
    refine WL_nil ?_
    refine WQ_code ?_
    refine WC_seq ?_
    refine WC_seq ?_
    refine WC_region ?_
    refine WL_val rfl rfl rfl (R_assign rfl rfl) ?_
    refine WL_nil ?_
    refine WQ_code ?_
    refine WC_block ?_
    rw [arF_zero y.z, arD_zero y.z, arB_zero y.z]
    refine WC_loopF (G := Nat) [14, 15, 16, 17, 64, 65, 66, 67, 68, 69, 70, 71, 72, 73, 74, 75, 76, 77, 78, 79, 80, 81, 82, 83, 84, 85] (fun j => j ≤ M) (fun j => [(14, .int .i64 (j : Int))]) (fun j => [⟨some b2, cl ((arF y.z j).flatMap encP11 ++ []) 55⟩, ⟨some b3, cl (ivs (arD y.z j) ++ []) 56⟩, ⟨some b4, cl ((arB y.z j).flatMap encB11 ++ []) 57⟩]) (fun j => M - j) (0) (Nat.zero_le _) leZ (pqC) ?_
    rintro j hj
    refine WC_seq ?_
    refine WC_seq ?_
    refine WC_region ?_
    refine WL_val rfl rfl rfl (R_move rfl rfl) ?_
    refine WL_val rfl rfl rfl (R_move rfl rfl) ?_
    refine WL_val rfl rfl rfl (R_lss rfl rfl rfl) ?_
    refine WL_nil ?_
    refine WQ_code ?_
    refine WC_dec rfl (fun c2 => ?_) (fun c2 => ?_)
    · refine WC_skip ?_
      refine WQ_code ?_
      refine WC_seq ?_
      refine WC_block ?_
      refine WC_seq ?_
      refine WC_region ?_
      refine WL_val rfl rfl rfl (R_move rfl rfl) ?_
      refine WL_val rfl rfl rfl (R_move rfl rfl) ?_
      refine WL_do rfl rfl rfl (D_call (po_where y.m hy (by omega) (j : Int)) rfl rfl rfl rfl (pqC)) ?_
      rintro _ _ ⟨_, ⟨rfl, rfl⟩, rfl⟩
      refine WL_val rfl rfl rfl (R_move rfl rfl) ?_
      refine WL_val rfl rfl rfl (R_extract rfl rfl rfl) ?_
      refine WL_val rfl rfl rfl (R_extract rfl rfl rfl) ?_
      refine WL_val rfl rfl rfl (R_extract rfl rfl rfl) ?_
      refine WL_do rfl rfl rfl (D_alloc rfl zv30) ?_
      rintro _ _ ⟨b5, rfl, rfl⟩
      refine WL_do0 rfl rfl (D_store (vs := [_, _]) rfl Tryz.sizeOf30 rfl rfl rfl rfl rfl (plC) (by exact Nat.le_of_ble_eq_true rfl)) ?_
      rintro _ _ rfl
      refine WL_val rfl rfl rfl (R_assign rfl rfl) ?_
      refine WL_val rfl rfl rfl (R_assign rfl rfl) ?_
      refine WL_nil ?_
      refine WQ_code ?_
      refine WC_region ?_
      refine WL_val rfl rfl rfl (R_move rfl rfl) ?_
      refine WL_val rfl rfl rfl (R_move rfl rfl) ?_
      refine WL_val rfl rfl rfl (R_move rfl rfl) ?_
      refine WL_val rfl rfl rfl (R_loadA (vs := [_, _]) rfl ag30 rfl (mmC) rfl (atZ)) ?_
      refine WL_val rfl rfl rfl (R_move rfl rfl) ?_
      refine WL_val rfl rfl rfl (R_move rfl rfl) ?_
      refine WL_val rfl rfl rfl (R_eql rfl rfl rfl) ?_
      refine WL_val rfl rfl rfl (R_indexAddrAN rfl Tryz.underlying55 Tryz.sizeOf30 rfl rfl (by omega)) ?_
      refine WL_do0 rfl rfl (D_store (vs := [_, _]) rfl Tryz.sizeOf30 rfl rfl rfl rfl rfl (plC) (by exact fm_room0 encP11_2 (show j < (arF y.z j).length by rw [upTo_len]; omega) (j := 0) (by omega))) ?_
      rintro _ _ rfl
      rw [arF_put y.z (by omega)]
      refine WL_val rfl rfl rfl (R_indexAddrAN rfl Tryz.underlying56 Tryz.sizeOf44 rfl rfl (by omega)) ?_
      refine WL_do0 rfl rfl (D_store (vs := [_]) rfl Tryz.sizeOf44 rfl rfl rfl rfl rfl (plC) (by exact fm_room0 encI1 (show j < (arD y.z j).length by rw [upTo_len]; omega) (j := 0) (by omega))) ?_
      rintro _ _ rfl
      rw [arD_put y.z (by omega)]
      refine WL_val rfl rfl rfl (R_indexAddrAN rfl Tryz.underlying57 Tryz.sizeOf4 rfl rfl (by omega)) ?_
      refine WL_do0 rfl rfl (D_store (vs := [_]) rfl Tryz.sizeOf4 rfl rfl rfl rfl rfl (plC) (by exact fm_room0 encB11_1 (show j < (arB y.z j).length by rw [upTo_len]; omega) (j := 0) (by omega))) ?_
      rintro _ _ rfl
      rw [arB_put y.z (by omega)]
      refine WL_nil ?_
      refine WQ_code ?_
      refine WC_region ?_
      refine WL_val rfl rfl rfl (R_move rfl rfl) ?_
      refine WL_val rfl rfl rfl (R_add rfl rfl rfl (by omega)) ?_
      refine WL_val rfl rfl rfl (R_assign rfl rfl) ?_
      refine WL_nil ?_
      refine WQ_nextF (j + 1) (by omega) (by omega) leZ (psZ) rfl (pqC)
    · have hjM : j = M := by omega
      rw [hjM]
      refine WC_exit ?_
      refine WQ_code ?_
      refine WC_seq ?_
      refine WC_region ?_
      refine WL_val rfl rfl rfl (R_assign rfl rfl) ?_
      refine WL_nil ?_
      refine WQ_code ?_
      refine WC_seq ?_
      refine WC_region ?_
      refine WL_val rfl rfl rfl (R_assign rfl rfl) ?_
      refine WL_nil ?_
      refine WQ_code ?_
      refine WC_none 3 ?_
      refine WC_cutF (G := HoC) [6, 18, 19, 20, 21, 22, 23, 86, 87, 88, 89, 90, 91, 92, 93, 94, 95, 96, 97, 98, 99, 100, 101, 102, 103, 104, 105, 106, 107, 108, 109, 110, 111, 112, 113, 114, 115, 116, 117, 118, 119, 120, 121, 122, 123, 124, 125, 126, 127, 128, 129, 130, 131, 132, 133, 134, 135, 136, 137, 138, 139, 140, 141, 142, 143, 144, 145, 146, 147, 148, 149, 150, 151, 152, 153, 154, 155, 156, 157, 158, 159, 160, 161, 162, 163, 164, 165, 166, 167, 168, 169, 170, 171, 172, 173, 174, 175, 176, 177, 178, 179, 180, 181, 182, 183, 184, 185, 186, 187, 188, 189, 190, 191, 192, 193, 194, 195, 196, 197, 198, 199, 200, 201, 202, 203] (fun v => HPost y.z v.z v.L v.why a.n a.g ∧ PoIs v.N v.z v.m ∧ v.N ≤ y.N + 130 ∧ v.m.p = y.m.p ∧ Own v.ob v.L.length v.c 1 (ivs v.L) v.tl) (fun v => [(18, slV v.ob v.L.length v.c), (19, .int .i64 v.why)]) (fun v => ⟨v.ob, cl (ivs v.L ++ v.tl) 3⟩ :: poH v.z v.m) ((⟨none, cl [] 3⟩ :: poH y.z y.m)) (pqC) ?_ ?_
      · refine WC_seq ?_
        refine WC_region ?_
        refine WL_val rfl rfl rfl (R_fieldAddr rfl fa54_0 rfl) ?_
        refine WL_val rfl rfl rfl (R_load rfl sc3 rfl (mmC) rfl) ?_
        refine WL_nil ?_
        refine WQ_code ?_
        refine WC_block ?_
        refine WC_seq ?_
        refine WC_region ?_
        refine WL_val rfl rfl rfl (R_eql rfl rfl rfl) ?_
        refine WL_val rfl rfl rfl (R_assign rfl rfl) ?_
        refine WL_nil ?_
        refine WQ_code ?_
        refine WC_dec rfl (fun c3 => ?_) (fun c3 => ?_)
        · refine WC_seq ?_
          refine WC_region ?_
          refine WL_val rfl rfl rfl (R_move rfl rfl) ?_
          refine WL_val rfl rfl rfl (R_fieldAddr rfl fa54_1 rfl) ?_
          refine WL_val rfl rfl rfl (R_load rfl sc3 rfl (mmC) rfl) ?_
          refine WL_do rfl rfl rfl (D_call (po_open y.m hy (by omega) a.value) rfl rfl rfl rfl (pqC)) ?_
          rintro _ _ ⟨_, ⟨rfl, rfl, h2⟩, rfl⟩
          refine WL_val rfl rfl rfl (R_move rfl rfl) ?_
          refine WL_val rfl rfl rfl (R_extract rfl rfl rfl) ?_
          refine WL_val rfl rfl rfl (R_extract rfl rfl rfl) ?_
          refine WL_do rfl rfl rfl (D_alloc rfl zv30) ?_
          rintro _ _ ⟨b6, rfl, rfl⟩
          refine WL_do0 rfl rfl (D_store (vs := [_, _]) rfl Tryz.sizeOf30 rfl rfl rfl rfl rfl (plC) (by exact Nat.le_of_ble_eq_true rfl)) ?_
          rintro _ _ rfl
          refine WL_val rfl rfl rfl (R_assign rfl rfl) ?_
          refine WL_nil ?_
          refine WQ_code ?_
          refine WC_seq ?_
          refine WC_region ?_
          refine WL_val rfl rfl rfl (R_move rfl rfl) ?_
          refine WL_val rfl rfl rfl (R_eql rfl rfl rfl) ?_
          refine WL_val rfl rfl rfl (R_move rfl rfl) ?_
          refine WL_splitD (s := 99) rfl (fun c4 => ?_) (fun c4 => ?_)
          · have hop := (post_open hz a.value a.n a.g).2 c4
            refine WL_val rfl rfl rfl (R_move rfl rfl) ?_
            refine WL_val rfl rfl rfl (R_loadA (vs := [_, _]) rfl ag30 rfl (mmC) rfl (atZ)) ?_
            refine WL_do rfl rfl rfl (D_call (po_chk y.m h2 (by omega) (opnR y.z.T).1.1 (opnR y.z.T).1.2 0) rfl rfl rfl rfl (pqC)) ?_
            rintro _ _ ⟨_, ⟨rfl, rfl⟩, rfl⟩
            refine WL_val rfl rfl rfl (R_neq rfl rfl rfl) ?_
            refine WL_set (s := 103) (v := .bool false) rfl (by exact congrArg Value.bool (decide_eq_false (fun q => q (hop 0 (.inl rfl))))) ?_
            refine WL_val rfl rfl rfl (R_move rfl rfl) ?_
            refine WL_val rfl rfl rfl (R_move rfl rfl) ?_
            refine WL_val rfl rfl rfl (R_loadA (vs := [_, _]) rfl ag30 rfl (mmC) rfl (atZ)) ?_
            refine WL_do rfl rfl rfl (D_call (po_chk y.m h2 (by omega) (opnR y.z.T).1.1 (opnR y.z.T).1.2 1) rfl rfl rfl rfl (pqC)) ?_
            rintro _ _ ⟨_, ⟨rfl, rfl⟩, rfl⟩
            refine WL_val rfl rfl rfl (R_neq rfl rfl rfl) ?_
            refine WL_set (s := 108) (v := .bool false) rfl (by exact congrArg Value.bool (decide_eq_false (fun q => q (hop 1 (.inr rfl))))) ?_
            refine WL_val rfl rfl rfl (R_pickF rfl rfl rfl) ?_
            refine WL_val rfl rfl rfl (R_pickT rfl rfl rfl) ?_
            refine WL_nil ?_
            refine WQ_code ?_
            refine WC_F rfl ?_
            refine WC_skip ?_
            refine WQ_cutF (⟨y.z.openE a.value, y.m, y.N + 1, [], none, 0, [], 0⟩) (⟨(post_open hz a.value a.n a.g).1, h2, by dsimp only; omega, rfl, Own.empty 1⟩) leZ (psZ) (pqC)
          · refine WL_skip rfl rfl rfl ?_
            refine WL_skip rfl rfl rfl ?_
            refine WL_skip rfl rfl rfl ?_
            refine WL_skip rfl rfl rfl ?_
            refine WL_skip rfl rfl rfl ?_
            refine WL_skip rfl rfl rfl ?_
            refine WL_skip rfl rfl rfl ?_
            refine WL_skip rfl rfl rfl ?_
            refine WL_skip rfl rfl rfl ?_
            refine WL_skip rfl rfl rfl ?_
            refine WL_val rfl rfl rfl (R_pickF rfl rfl rfl) ?_
            refine WL_nil ?_
            refine WQ_code ?_
            refine WC_F rfl ?_
            refine WC_skip ?_
            refine WQ_cutF (⟨y.z.openE a.value, y.m, y.N + 1, [], none, 0, [], 0⟩) (⟨(post_open hz a.value a.n a.g).1, h2, by dsimp only; omega, rfl, Own.empty 1⟩) leZ (psZ) (pqC)
        · refine WC_seq ?_
          refine WC_region ?_
          refine WL_val rfl rfl rfl (R_eql rfl rfl rfl) ?_
          refine WL_val rfl rfl rfl (R_assign rfl rfl) ?_
          refine WL_nil ?_
          refine WQ_code ?_
          refine WC_dec rfl (fun c5 => ?_) (fun c5 => ?_)
          · refine WC_seq ?_
            refine WC_region ?_
            refine WL_val rfl rfl rfl (R_move rfl rfl) ?_
            refine WL_val rfl rfl rfl (R_fieldAddr rfl fa54_3 rfl) ?_
            refine WL_val rfl rfl rfl (R_loadA (vs := [_, _]) rfl ag30 rfl (mmC) rfl (atZ)) ?_
            refine WL_do rfl rfl rfl (D_call (po_close y.m hy (by omega) a.n a.g) rfl rfl rfl rfl (pqC)) ?_
            rintro _ _ ⟨_, ⟨m2, ob2, c2, t2, rfl, own2, rfl, hp2, h2⟩, rfl⟩
            rw [← hp2]
            refine WL_val rfl rfl rfl (R_move rfl rfl) ?_
            refine WL_val rfl rfl rfl (R_extract rfl rfl rfl) ?_
            refine WL_val rfl rfl rfl (R_extract rfl rfl rfl) ?_
            refine WL_val rfl rfl rfl (R_assign rfl rfl) ?_
            refine WL_nil ?_
            refine WQ_code ?_
            refine WC_region ?_
            refine WL_val rfl rfl rfl (R_assign rfl rfl) ?_
            refine WL_nil ?_
            refine WQ_cutF (⟨y.z.close a.n a.g, m2, y.N + 130, y.z.closeL a.n a.g, ob2, c2, t2, 3⟩) (⟨post_close hz hT a.n a.g, h2, by dsimp only; omega, rfl, own2⟩) leZ (psZ) (pqC)
          · refine WC_seq ?_
            refine WC_region ?_
            refine WL_val rfl rfl rfl (R_eql rfl rfl rfl) ?_
            refine WL_val rfl rfl rfl (R_assign rfl rfl) ?_
            refine WL_nil ?_
            refine WQ_code ?_
            refine WC_dec rfl (fun c6 => ?_) (fun c6 => ?_)
            · refine WC_seq ?_
              refine WC_region ?_
              refine WL_val rfl rfl rfl (R_move rfl rfl) ?_
              refine WL_val rfl rfl rfl (R_fieldAddr rfl fa54_3 rfl) ?_
              refine WL_val rfl rfl rfl (R_loadA (vs := [_, _]) rfl ag30 rfl (mmC) rfl (atZ)) ?_
              refine WL_val rfl rfl rfl (R_fieldAddr rfl fa54_4 rfl) ?_
              refine WL_val rfl rfl rfl (R_load rfl sc44 rfl (mmC) rfl) ?_
              refine WL_val rfl rfl rfl (R_fieldAddr rfl fa54_5 rfl) ?_
              refine WL_val rfl rfl rfl (R_load rfl sc28 rfl (mmC) rfl) ?_
              refine WL_do rfl rfl rfl (D_call (po_dead y.m hy (by omega) a.n a.g a.dir a.tm htm) rfl rfl rfl rfl (pqC)) ?_
              rintro _ _ ⟨_, ⟨m2, ob2, c2, t2, rfl, own2, rfl, hp2, h2⟩, rfl⟩
              rw [← hp2]
              refine WL_val rfl rfl rfl (R_move rfl rfl) ?_
              refine WL_val rfl rfl rfl (R_extract rfl rfl rfl) ?_
              refine WL_val rfl rfl rfl (R_extract rfl rfl rfl) ?_
              refine WL_val rfl rfl rfl (R_assign rfl rfl) ?_
              refine WL_nil ?_
              refine WQ_code ?_
              refine WC_region ?_
              refine WL_val rfl rfl rfl (R_assign rfl rfl) ?_
              refine WL_nil ?_
              refine WQ_cutF (⟨y.z.dead a.n a.g a.dir a.tm, m2, y.N + 65, y.z.deadL a.n a.g a.dir a.tm, ob2, c2, t2, 2⟩) (⟨post_dead hz hT a.n a.g a.dir a.tm a.n a.g, h2, by dsimp only; omega, rfl, own2⟩) leZ (psZ) (pqC)
            · refine WC_seq ?_
              refine WC_region ?_
              refine WL_val rfl rfl rfl (R_eql rfl rfl rfl) ?_
              refine WL_val rfl rfl rfl (R_assign rfl rfl) ?_
              refine WL_nil ?_
              refine WQ_code ?_
              refine WC_dec rfl (fun c7 => ?_) (fun c7 => ?_)
              · refine WC_region ?_
                refine WL_val rfl rfl rfl (R_move rfl rfl) ?_
                refine WL_val rfl rfl rfl (R_fieldAddr rfl fa54_2 rfl) ?_
                refine WL_val rfl rfl rfl (R_load rfl sc3 rfl (mmC) rfl) ?_
                refine WL_val rfl rfl rfl (R_fieldAddr rfl fa54_3 rfl) ?_
                refine WL_val rfl rfl rfl (R_loadA (vs := [_, _]) rfl ag30 rfl (mmC) rfl (atZ)) ?_
                refine WL_val rfl rfl rfl (R_fieldAddr rfl fa54_4 rfl) ?_
                refine WL_val rfl rfl rfl (R_load rfl sc44 rfl (mmC) rfl) ?_
                refine WL_do rfl rfl rfl (D_call (po_wait y.m hy (by omega) a.task a.n a.g a.dir) rfl rfl rfl rfl (pqC)) ?_
                rintro _ _ ⟨_, ⟨m2, rfl, rfl, hp2, h2⟩, rfl⟩
                rw [← hp2]
                refine WL_nil ?_
                refine WQ_cutF (⟨y.z.wait a.task a.n a.g a.dir, m2, y.N + 1, [], none, 0, [], 0⟩) (⟨post_wait hz hT a.task a.n a.g a.dir a.n a.g, h2, by dsimp only; omega, rfl, Own.empty 1⟩) leZ (psZ) (pqC)
              · refine WC_seq ?_
                refine WC_region ?_
                refine WL_val rfl rfl rfl (R_eql rfl rfl rfl) ?_
                refine WL_val rfl rfl rfl (R_assign rfl rfl) ?_
                refine WL_nil ?_
                refine WQ_code ?_
                refine WC_dec rfl (fun c8 => ?_) (fun c8 => ?_)
                · refine WC_seq ?_
                  refine WC_region ?_
                  refine WL_val rfl rfl rfl (R_move rfl rfl) ?_
                  refine WL_val rfl rfl rfl (R_fieldAddr rfl fa54_3 rfl) ?_
                  refine WL_val rfl rfl rfl (R_loadA (vs := [_, _]) rfl ag30 rfl (mmC) rfl (atZ)) ?_
                  refine WL_val rfl rfl rfl (R_fieldAddr rfl fa54_4 rfl) ?_
                  refine WL_val rfl rfl rfl (R_load rfl sc44 rfl (mmC) rfl) ?_
                  refine WL_do rfl rfl rfl (D_call (po_sig y.m hy (by omega) a.n a.g a.dir) rfl rfl rfl rfl (pqC)) ?_
                  rintro _ _ ⟨_, ⟨m2, rfl, rfl, hp2, h2⟩, rfl⟩
                  rw [← hp2]
                  refine WL_val rfl rfl rfl (R_move rfl rfl) ?_
                  refine WL_val rfl rfl rfl (R_extract rfl rfl rfl) ?_
                  refine WL_val rfl rfl rfl (R_extract rfl rfl rfl) ?_
                  refine WL_val rfl rfl rfl (R_assign rfl rfl) ?_
                  refine WL_val rfl rfl rfl (R_assign rfl rfl) ?_
                  refine WL_nil ?_
                  refine WQ_code ?_
                  refine WC_seq ?_
                  refine WC_seq ?_
                  refine WC_region ?_
                  refine WL_val rfl rfl rfl (R_move rfl rfl) ?_
                  refine WL_val rfl rfl rfl (R_eql rfl rfl rfl) ?_
                  refine WL_nil ?_
                  refine WQ_code ?_
                  refine WC_dec rfl (fun c9 => ?_) (fun c9 => ?_)
                  · have hsig : y.z.sigV a.n a.g a.dir = [(y.z.sigR a.n a.g a.dir).1] := if_pos c9
                    refine WC_region ?_
                    refine WL_val rfl rfl rfl (R_move rfl rfl) ?_
                    refine WL_do rfl rfl rfl (D_buildSlice rfl si34 rfl rfl rfl) ?_
                    rintro _ _ ⟨b7, rfl, rfl⟩
                    refine WL_val rfl rfl rfl (R_assign rfl rfl) ?_
                    refine WL_nil ?_
                    refine WQ_code ?_
                    refine WC_region ?_
                    refine WL_val rfl rfl rfl (R_assign rfl rfl) ?_
                    refine WL_nil ?_
                    refine WQ_cutF (⟨y.z.sig a.n a.g a.dir, m2, y.N + 1, [(y.z.sigR a.n a.g a.dir).1], some b7, 1, [], 1⟩) (⟨(hsig ▸ post_sig hz a.n a.g a.dir a.n a.g), h2, by dsimp only; omega, rfl, ⟨rfl, rfl, Nat.le_refl 1, (show 1 ≤ 9223372036854775807 by decide), fun e => by cases e⟩⟩) leZ (psZ) (pqC)
                  · have hsig : y.z.sigV a.n a.g a.dir = [] := if_neg c9
                    refine WC_skip ?_
                    refine WQ_code ?_
                    refine WC_region ?_
                    refine WL_val rfl rfl rfl (R_assign rfl rfl) ?_
                    refine WL_nil ?_
                    refine WQ_cutF (⟨y.z.sig a.n a.g a.dir, m2, y.N + 1, [], none, 0, [], 1⟩) (⟨(hsig ▸ post_sig hz a.n a.g a.dir a.n a.g), h2, by dsimp only; omega, rfl, Own.empty 1⟩) leZ (psZ) (pqC)
                · refine WC_seq ?_
                  refine WC_region ?_
                  refine WL_val rfl rfl rfl (R_eql rfl rfl rfl) ?_
                  refine WL_val rfl rfl rfl (R_assign rfl rfl) ?_
                  refine WL_nil ?_
                  refine WQ_code ?_
                  refine WC_dec rfl (fun c10 => ?_) (fun c10 => ?_)
                  · refine WC_seq ?_
                    refine WC_region ?_
                    refine WL_val rfl rfl rfl (R_move rfl rfl) ?_
                    refine WL_val rfl rfl rfl (R_fieldAddr rfl fa54_3 rfl) ?_
                    refine WL_val rfl rfl rfl (R_loadA (vs := [_, _]) rfl ag30 rfl (mmC) rfl (atZ)) ?_
                    refine WL_val rfl rfl rfl (R_fieldAddr rfl fa54_4 rfl) ?_
                    refine WL_val rfl rfl rfl (R_load rfl sc44 rfl (mmC) rfl) ?_
                    refine WL_do rfl rfl rfl (D_call (po_sigall y.m hy (by omega) a.n a.g a.dir) rfl rfl rfl rfl (pqC)) ?_
                    rintro _ _ ⟨_, ⟨m2, ob2, c2, t2, rfl, own2, rfl, hp2, h2⟩, rfl⟩
                    rw [← hp2]
                    refine WL_val rfl rfl rfl (R_move rfl rfl) ?_
                    refine WL_val rfl rfl rfl (R_extract rfl rfl rfl) ?_
                    refine WL_val rfl rfl rfl (R_extract rfl rfl rfl) ?_
                    refine WL_val rfl rfl rfl (R_assign rfl rfl) ?_
                    refine WL_nil ?_
                    refine WQ_code ?_
                    refine WC_region ?_
                    refine WL_val rfl rfl rfl (R_assign rfl rfl) ?_
                    refine WL_nil ?_
                    refine WQ_cutF (⟨y.z.sigAll a.n a.g a.dir, m2, y.N + 65, y.z.sigL a.n a.g a.dir, ob2, c2, t2, 1⟩) (⟨post_sigAll hz a.n a.g a.dir a.n a.g, h2, by dsimp only; omega, rfl, own2⟩) leZ (psZ) (pqC)
                  · refine WC_seq ?_
                    refine WC_region ?_
                    refine WL_val rfl rfl rfl (R_eql rfl rfl rfl) ?_
                    refine WL_val rfl rfl rfl (R_assign rfl rfl) ?_
                    refine WL_nil ?_
                    refine WQ_code ?_
                    refine WC_dec rfl (fun c11 => ?_) (fun c11 => ?_)
                    · refine WC_seq ?_
                      refine WC_region ?_
                      refine WL_val rfl rfl rfl (R_move rfl rfl) ?_
                      refine WL_val rfl rfl rfl (R_fieldAddr rfl fa54_5 rfl) ?_
                      refine WL_val rfl rfl rfl (R_load rfl sc28 rfl (mmC) rfl) ?_
                      refine WL_do rfl rfl rfl (D_call (po_adv y.m hy (by omega) a.tm htm) rfl rfl rfl rfl (pqC)) ?_
                      rintro _ _ ⟨_, ⟨l2, m2, ob2, c2, t2, hl2, hl3, rfl, own2, rfl, hp2, h2⟩, rfl⟩
                      rw [← hp2]
                      refine WL_val rfl rfl rfl (R_move rfl rfl) ?_
                      refine WL_val rfl rfl rfl (R_extract rfl rfl rfl) ?_
                      refine WL_val rfl rfl rfl (R_extract rfl rfl rfl) ?_
                      refine WL_val rfl rfl rfl (R_assign rfl rfl) ?_
                      refine WL_nil ?_
                      refine WQ_code ?_
                      refine WC_region ?_
                      refine WL_val rfl rfl rfl (R_assign rfl rfl) ?_
                      refine WL_nil ?_
                      refine WQ_cutF (⟨((y.z.advS a.tm).laps l2).1, m2, y.N + 64, ((y.z.advS a.tm).laps l2).2, ob2, c2, t2, 2⟩) (⟨post_adv hz a.tm htm l2 hl2 a.n a.g, h2, by dsimp only; omega, rfl, own2⟩) leZ (psZ) (pqC)
                    · refine WC_seq ?_
                      refine WC_region ?_
                      refine WL_val rfl rfl rfl (R_eql rfl rfl rfl) ?_
                      refine WL_val rfl rfl rfl (R_assign rfl rfl) ?_
                      refine WL_nil ?_
                      refine WQ_code ?_
                      refine WC_dec rfl (fun c12 => ?_) (fun c12 => ?_)
                      · refine WC_seq ?_
                        refine WC_region ?_
                        refine WL_val rfl rfl rfl (R_move rfl rfl) ?_
                        refine WL_val rfl rfl rfl (R_fieldAddr rfl fa54_2 rfl) ?_
                        refine WL_val rfl rfl rfl (R_load rfl sc3 rfl (mmC) rfl) ?_
                        refine WL_do rfl rfl rfl (D_call (po_start y.m hy (by omega) a.task) rfl rfl rfl rfl (pqC)) ?_
                        rintro _ _ ⟨_, ⟨m2, rfl, rfl, hp2, h2⟩, rfl⟩
                        rw [← hp2]
                        refine WL_val rfl rfl rfl (R_eql rfl rfl rfl) ?_
                        refine WL_val rfl rfl rfl (R_move rfl rfl) ?_
                        refine WL_splitD (s := 185) rfl (fun c13 => ?_) (fun c13 => ?_)
                        · have h9 := c13
                          refine WL_val rfl rfl rfl (R_move rfl rfl) ?_
                          refine WL_val rfl rfl rfl (R_fieldAddr rfl fa54_2 rfl) ?_
                          refine WL_val rfl rfl rfl (R_load rfl sc3 rfl (mmC) rfl) ?_
                          refine WL_do rfl rfl rfl (D_call (reason_ok m2 h2 (by omega) a.task 0 (start_rsn hy.rl h9)) rfl rfl rfl rfl (pqC)) ?_
                          rintro _ _ ⟨_, ⟨rfl, rfl⟩, rfl⟩
                          refine WL_val rfl rfl rfl (R_not rfl rfl) ?_
                          refine WL_val rfl rfl rfl (R_pickT rfl rfl rfl) ?_
                          refine WL_nil ?_
                          refine WQ_code ?_
                          refine WC_F rfl ?_
                          refine WC_skip ?_
                          refine WQ_cutF (⟨y.z.start a.task, m2, y.N + 1, [], none, 0, [], 0⟩) (⟨post_start hz a.task a.n a.g, h2, by dsimp only; omega, rfl, Own.empty 1⟩) leZ (psZ) (pqC)
                        · refine WL_skip rfl rfl rfl ?_
                          refine WL_skip rfl rfl rfl ?_
                          refine WL_skip rfl rfl rfl ?_
                          refine WL_skip rfl rfl rfl ?_
                          refine WL_skip rfl rfl rfl ?_
                          refine WL_val rfl rfl rfl (R_pickF rfl rfl rfl) ?_
                          refine WL_nil ?_
                          refine WQ_code ?_
                          refine WC_F rfl ?_
                          refine WC_skip ?_
                          refine WQ_cutF (⟨y.z.start a.task, m2, y.N + 1, [], none, 0, [], 0⟩) (⟨post_start hz a.task a.n a.g, h2, by dsimp only; omega, rfl, Own.empty 1⟩) leZ (psZ) (pqC)
                      · refine WC_seq ?_
                        refine WC_region ?_
                        refine WL_val rfl rfl rfl (R_eql rfl rfl rfl) ?_
                        refine WL_val rfl rfl rfl (R_assign rfl rfl) ?_
                        refine WL_nil ?_
                        refine WQ_code ?_
                        refine WC_dec rfl (fun c14 => ?_) (fun c14 => ?_)
                        · refine WC_region ?_
                          refine WL_val rfl rfl rfl (R_move rfl rfl) ?_
                          refine WL_val rfl rfl rfl (R_fieldAddr rfl fa54_2 rfl) ?_
                          refine WL_val rfl rfl rfl (R_load rfl sc3 rfl (mmC) rfl) ?_
                          refine WL_do rfl rfl rfl (D_call (po_fin y.m hy (by omega) a.task) rfl rfl rfl rfl (pqC)) ?_
                          rintro _ _ ⟨_, ⟨m2, rfl, rfl, hp2, h2⟩, rfl⟩
                          rw [← hp2]
                          refine WL_nil ?_
                          refine WQ_cutF (⟨y.z.fin a.task, m2, y.N + 1, [], none, 0, [], 0⟩) (⟨post_fin hz a.task a.n a.g, h2, by dsimp only; omega, rfl, Own.empty 1⟩) leZ (psZ) (pqC)
                        · refine WC_seq ?_
                          refine WC_region ?_
                          refine WL_val rfl rfl rfl (R_eql rfl rfl rfl) ?_
                          refine WL_val rfl rfl rfl (R_assign rfl rfl) ?_
                          refine WL_nil ?_
                          refine WQ_code ?_
                          refine WC_dec rfl (fun c15 => ?_) (fun c15 => ?_)
                          · refine WC_region ?_
                            refine WL_val rfl rfl rfl (R_move rfl rfl) ?_
                            refine WL_val rfl rfl rfl (R_fieldAddr rfl fa54_2 rfl) ?_
                            refine WL_val rfl rfl rfl (R_load rfl sc3 rfl (mmC) rfl) ?_
                            refine WL_do rfl rfl rfl (D_call (po_turn y.m hy (by omega) a.task) rfl rfl rfl rfl (pqC)) ?_
                            rintro _ _ ⟨_, ⟨m2, rfl, rfl, hp2, h2⟩, rfl⟩
                            rw [← hp2]
                            refine WL_nil ?_
                            refine WQ_cutF (⟨y.z.turn a.task, m2, y.N + 1, [], none, 0, [], 0⟩) (⟨post_turn hz a.task a.n a.g, h2, by dsimp only; omega, rfl, Own.empty 1⟩) leZ (psZ) (pqC)
                          · refine WC_skip ?_
                            refine WQ_cutF (⟨y.z, y.m, y.N, [], none, 0, [], 0⟩) (⟨HPost.same hz 0 a.n a.g, hy, by dsimp only; omega, rfl, Own.empty 1⟩) leZ (psZ) (pqC)
      · rintro v ⟨hpost, hv2, hvN, hvp, hvo⟩
        rw [← hvp]
        refine WC_seq ?_
        refine WC_region ?_
        refine WL_val rfl rfl rfl (R_assign rfl rfl) ?_
        refine WL_nil ?_
        refine WQ_code ?_
        refine WC_block ?_
        refine WC_loopF (G := Nat) [6, 24, 25, 26, 27, 28, 29, 204, 205, 206, 207, 208, 209, 210, 211, 212, 213, 214, 215, 216, 217, 218, 219, 220, 221, 222, 223, 224, 225, 226, 227, 228, 229, 230, 231, 232, 233, 234, 235, 236, 237, 238, 239, 240, 241, 242, 243, 244, 245, 246, 247, 248, 249, 250, 251, 252, 253, 254, 255, 256, 257, 258, 259, 260, 261, 262, 263, 264, 265, 266, 267, 268, 269, 270, 271, 272, 273, 274, 275, 276, 277, 278, 279, 280, 281, 282, 283, 284, 285, 286, 287, 288, 289, 290, 291, 292, 293, 294, 295, 296, 297, 298, 299] (fun i => i ≤ M) (fun i => [(24, .int .i64 (i : Int))]) (fun i => []) (fun i => M - i) (0) (Nat.zero_le _) leZ (pqC) ?_
        rintro i hi
        refine WC_seq ?_
        refine WC_seq ?_
        refine WC_region ?_
        refine WL_val rfl rfl rfl (R_move rfl rfl) ?_
        refine WL_val rfl rfl rfl (R_move rfl rfl) ?_
        refine WL_val rfl rfl rfl (R_lss rfl rfl rfl) ?_
        refine WL_nil ?_
        refine WQ_code ?_
        refine WC_dec rfl (fun c16 => ?_) (fun c16 => ?_)
        · obtain ⟨x9, hx9⟩ := exE (T := v.z.s.sm) (i := i) (by rw [hpost.len, hsl]; omega)
          have hst9 := stR_in hx9
          rcases post_split hz hpost hx9 with ⟨hL, rfl, hw1, hrs, htm2, hcl, hw2⟩ | ⟨hL, rfl, hw1, hw2, hck⟩ | ⟨hL, rfl, hw1, hw2, hck⟩ | ⟨hL, hx2, hw1, hw2⟩
          · refine WC_skip ?_
            refine WQ_code ?_
            refine WC_seq ?_
            refine WC_block ?_
            refine WC_seq ?_
            refine WC_region ?_
            refine WL_val rfl rfl rfl (R_move rfl rfl) ?_
            refine WL_val rfl rfl rfl (R_move rfl rfl) ?_
            refine WL_do rfl rfl rfl (D_call (po_state v.m hv2 (by omega) (i : Int)) rfl rfl rfl rfl (pqC)) ?_
            rintro _ _ ⟨_, ⟨rfl, rfl⟩, rfl⟩
            rw [hst9]
            refine WL_val rfl rfl rfl (R_move rfl rfl) ?_
            refine WL_val rfl rfl rfl (R_extract rfl rfl rfl) ?_
            refine WL_val rfl rfl rfl (R_extract rfl rfl rfl) ?_
            refine WL_val rfl rfl rfl (R_assign rfl rfl) ?_
            refine WL_val rfl rfl rfl (R_assign rfl rfl) ?_
            refine WL_nil ?_
            refine WQ_code ?_
            refine WC_seq ?_
            refine WC_seq ?_
            refine WC_draw _ [(0, true), (1, true), (2, true), (3, true), (4, true), (5, true), (6, true), (7, true), (8, true), (9, true), (10, true), (11, true), (12, true), (13, true), (14, true)] followsMixed rfl rfl (by kernel_rfl) .all ?_
            refine WM_val rfl rfl rfl rfl (R_move rfl rfl) ?_
            refine WM_val rfl rfl rfl rfl (R_neq rfl rfl rfl) ?_
            refine WM_set (s := 216) (v := .bool false) rfl (by simp) ?_
            refine WM_val rfl rfl rfl rfl (R_move rfl rfl) ?_
            refine WM_val rfl rfl rfl rfl (R_move rfl rfl) ?_
            refine WM_val rfl rfl rfl rfl (R_move rfl rfl) ?_
            refine WM_call rfl (Spec.quiet (has_ok v.L (i : Int) v.ob v.c v.tl hvo)) rfl rfl rfl rfl rfl rfl rfl (pqC) ?_
            refine WM_set (s := 220) (v := .bool true) rfl (by exact congrArg Value.bool (decide_eq_true hL)) ?_
            refine WM_val rfl rfl rfl rfl (R_move rfl rfl) ?_
            refine WM_val rfl rfl rfl rfl (R_indexAddrAN rfl Tryz.underlying57 Tryz.sizeOf4 rfl rfl (by omega)) ?_
            refine WM_val rfl rfl rfl rfl (R_load (v := .bool (decide ((y.z.whr (i : Int)).2 = 0))) rfl sc4 rfl (mmC) (fm_get0 encB11_1 (upTo_get (fun i => decide ((y.z.whr ((i : Nat) : Int)).2 = 0)) false (i := i) (j := M) (by omega) (by omega)) (j := 0) (by omega))) ?_
            refine WM_set (s := 223) (v := .bool true) rfl (by exact congrArg Value.bool (decide_eq_true hw1)) ?_
            refine WM_val rfl rfl rfl rfl (R_move rfl rfl) ?_
            refine WM_val rfl rfl rfl rfl (R_move rfl rfl) ?_
            refine WM_val rfl rfl rfl rfl (R_neq rfl rfl rfl) ?_
            refine WM_set (s := 226) (v := .bool true) rfl (by simp) ?_
            refine WM_val rfl rfl rfl rfl (R_pickT rfl rfl rfl) ?_
            refine WM_val rfl rfl rfl rfl (R_boolNe rfl Tryz.underlying4 rfl rfl) ?_
            refine WM_set (s := 228) (v := .bool false) rfl (by simp) ?_
            refine WM_val rfl rfl rfl rfl (R_pickF rfl rfl rfl) ?_
            refine WM_nil ?_
            refine WQ_code ?_
            refine WC_F rfl ?_
            refine WC_skip ?_
            refine WQ_code ?_
            refine WC_seq ?_
            refine WC_seq ?_
            refine WC_draw _ [(0, true), (1, true), (2, true), (3, true), (4, true), (5, true), (6, true), (7, true), (8, true), (9, true), (10, true), (11, true), (12, true), (13, true), (14, true), (15, true), (16, true), (17, true), (18, true), (19, true), (20, true), (21, true), (22, true), (23, true), (24, true), (25, true), (26, true), (27, true), (28, true)] followsMixed rfl rfl (by kernel_rfl) .all ?_
            refine WM_val rfl rfl rfl rfl (R_move rfl rfl) ?_
            refine WM_val rfl rfl rfl rfl (R_move rfl rfl) ?_
            refine WM_call rfl (Spec.quiet (has_ok v.L (i : Int) v.ob v.c v.tl hvo)) rfl rfl rfl rfl rfl rfl rfl (pqC) ?_
            refine WM_set (s := 232) (v := .bool true) rfl (by exact congrArg Value.bool (decide_eq_true hL)) ?_
            refine WM_val rfl rfl rfl rfl (R_move rfl rfl) ?_
            refine WM_val rfl rfl rfl rfl (R_move rfl rfl) ?_
            refine WM_val rfl rfl rfl rfl (R_neq rfl rfl rfl) ?_
            refine WM_set (s := 235) (v := .bool false) rfl (by simp) ?_
            refine WM_val rfl rfl rfl rfl (R_move rfl rfl) ?_
            refine WM_val rfl rfl rfl rfl (R_move rfl rfl) ?_
            refine WM_val rfl rfl rfl rfl (R_move rfl rfl) ?_
            refine WM_val rfl rfl rfl rfl (R_move rfl rfl) ?_
            refine WM_call rfl (Spec.quiet (reason_ok v.m hv2 (by omega) (i : Int) v.why hrs)) rfl rfl rfl rfl rfl rfl rfl (pqC) ?_
            refine WM_val rfl rfl rfl rfl (R_not rfl rfl) ?_
            refine WM_val rfl rfl rfl rfl (R_pickF rfl rfl rfl) ?_
            refine WM_val rfl rfl rfl rfl (R_move rfl rfl) ?_
            refine WM_val rfl rfl rfl rfl (R_move rfl rfl) ?_
            refine WM_val rfl rfl rfl rfl (R_eql rfl rfl rfl) ?_
            refine WM_val rfl rfl rfl rfl (R_move rfl rfl) ?_
            refine WM_splitD (s := 246) rfl (fun c17 => ?_) (fun c17 => ?_)
            · try (have htm9 := htm2 c17)
              refine WM_val rfl rfl rfl rfl (R_move rfl rfl) ?_
              refine WM_val rfl rfl rfl rfl (R_move rfl rfl) ?_
              refine WM_val rfl rfl rfl rfl (R_indexAddrAN rfl Tryz.underlying55 Tryz.sizeOf30 rfl rfl (by omega)) ?_
              refine WM_val rfl rfl rfl rfl (R_loadA (vs := [.int .i64 (y.z.whr (i : Int)).1.1.1, .int .i64 (y.z.whr (i : Int)).1.1.2]) rfl ag30 rfl (mmC) rfl (fm_at0 encP11_2 (upTo_get (fun i => (y.z.whr ((i : Nat) : Int)).1.1) (0, 0) (i := i) (j := M) (by omega) (by omega)) (j := 0) (vs := [.int .i64 (y.z.whr (i : Int)).1.1.1, .int .i64 (y.z.whr (i : Int)).1.1.2]) (atZ) (by simp))) ?_
              refine WM_val rfl rfl rfl rfl (R_move rfl rfl) ?_
              refine WM_val rfl rfl rfl rfl (R_indexAddrAN rfl Tryz.underlying56 Tryz.sizeOf44 rfl rfl (by omega)) ?_
              refine WM_val rfl rfl rfl rfl (R_load (v := .int .i64 (y.z.whr (i : Int)).1.2) rfl sc44 rfl (mmC) (fm_get0 encI1 (upTo_get (fun i => (y.z.whr ((i : Nat) : Int)).1.2) 0 (i := i) (j := M) (by omega) (by omega)) (j := 0) (by omega))) ?_
              refine WM_call rfl (Spec.quiet (po_chk v.m hv2 (by omega) (y.z.whr (i : Int)).1.1.1 (y.z.whr (i : Int)).1.1.2 (y.z.whr (i : Int)).1.2)) rfl rfl rfl rfl rfl rfl rfl (pqC) ?_
              refine WM_val rfl rfl rfl rfl (R_neq rfl rfl rfl) ?_
              refine WM_set (s := 255) (v := .bool false) rfl (by exact congrArg Value.bool (decide_eq_false (fun q => q htm9))) ?_
              refine WM_val rfl rfl rfl rfl (R_pickT rfl rfl rfl) ?_
              refine WM_val rfl rfl rfl rfl (R_pickF rfl rfl rfl) ?_
              refine WM_val rfl rfl rfl rfl (R_pickT rfl rfl rfl) ?_
              refine WM_nil ?_
              refine WQ_code ?_
              refine WC_F rfl ?_
              refine WC_skip ?_
              refine WQ_code ?_
              refine WC_seq ?_
              refine WC_seq ?_
              refine WC_draw _ [(0, true), (1, true), (2, true), (3, true), (4, true), (5, true), (6, true), (7, true), (8, true), (9, true), (10, true), (11, true), (12, true), (13, true), (14, true), (15, true), (16, true), (17, true), (18, true), (19, true), (20, true), (21, true), (22, true), (23, true), (24, true)] followsMixed rfl rfl (by kernel_rfl) .all ?_
              refine WM_val rfl rfl rfl rfl (R_move rfl rfl) ?_
              refine WM_val rfl rfl rfl rfl (R_eql rfl rfl rfl) ?_
              refine WM_val rfl rfl rfl rfl (R_move rfl rfl) ?_
              refine WM_splitD (s := 261) rfl (fun c18 => ?_) (fun c18 => ?_)
              · try (have hcl9 := hcl c18)
                refine WM_val rfl rfl rfl rfl (R_move rfl rfl) ?_
                refine WM_val rfl rfl rfl rfl (R_move rfl rfl) ?_
                refine WM_call rfl (Spec.quiet (has_ok v.L (i : Int) v.ob v.c v.tl hvo)) rfl rfl rfl rfl rfl rfl rfl (pqC) ?_
                refine WM_set (s := 264) (v := .bool true) rfl (by exact congrArg Value.bool (decide_eq_true hL)) ?_
                refine WM_val rfl rfl rfl rfl (R_pickT rfl rfl rfl) ?_
                refine WM_val rfl rfl rfl rfl (R_move rfl rfl) ?_
                refine WM_val rfl rfl rfl rfl (R_move rfl rfl) ?_
                refine WM_val rfl rfl rfl rfl (R_indexAddrAN rfl Tryz.underlying55 Tryz.sizeOf30 rfl rfl (by omega)) ?_
                refine WM_val rfl rfl rfl rfl (R_loadA (vs := [.int .i64 (y.z.whr (i : Int)).1.1.1, .int .i64 (y.z.whr (i : Int)).1.1.2]) rfl ag30 rfl (mmC) rfl (fm_at0 encP11_2 (upTo_get (fun i => (y.z.whr ((i : Nat) : Int)).1.1) (0, 0) (i := i) (j := M) (by omega) (by omega)) (j := 0) (vs := [.int .i64 (y.z.whr (i : Int)).1.1.1, .int .i64 (y.z.whr (i : Int)).1.1.2]) (atZ) (by simp))) ?_
                refine WM_val rfl rfl rfl rfl (R_fieldAddr rfl fa54_3 rfl) ?_
                refine WM_val rfl rfl rfl rfl (R_loadA (vs := [_, _]) rfl ag30 rfl (mmC) rfl (atZ)) ?_
                refine WM_val rfl rfl rfl rfl (R_sne30 rfl rfl rfl rfl) ?_
                refine WM_set (s := 272) (v := .bool false) rfl (by exact congrArg Value.bool (decide_eq_false (fun q => q ⟨congrArg Prod.fst hcl9.1, congrArg Prod.snd hcl9.1⟩))) ?_
                refine WM_val rfl rfl rfl rfl (R_move rfl rfl) ?_
                refine WM_val rfl rfl rfl rfl (R_move rfl rfl) ?_
                refine WM_val rfl rfl rfl rfl (R_fieldAddr rfl fa54_3 rfl) ?_
                refine WM_val rfl rfl rfl rfl (R_loadA (vs := [_, _]) rfl ag30 rfl (mmC) rfl (atZ)) ?_
                refine WM_val rfl rfl rfl rfl (R_move rfl rfl) ?_
                refine WM_val rfl rfl rfl rfl (R_indexAddrAN rfl Tryz.underlying56 Tryz.sizeOf44 rfl rfl (by omega)) ?_
                refine WM_val rfl rfl rfl rfl (R_load (v := .int .i64 (y.z.whr (i : Int)).1.2) rfl sc44 rfl (mmC) (fm_get0 encI1 (upTo_get (fun i => (y.z.whr ((i : Nat) : Int)).1.2) 0 (i := i) (j := M) (by omega) (by omega)) (j := 0) (by omega))) ?_
                refine WM_call rfl (Spec.quiet (po_chk v.m hv2 (by omega) a.n a.g (y.z.whr (i : Int)).1.2)) rfl rfl rfl rfl rfl rfl rfl (pqC) ?_
                refine WM_val rfl rfl rfl rfl (R_neq rfl rfl rfl) ?_
                refine WM_set (s := 281) (v := .bool false) rfl (by exact congrArg Value.bool (decide_eq_false (fun q => q hcl9.2))) ?_
                refine WM_val rfl rfl rfl rfl (R_pickF rfl rfl rfl) ?_
                refine WM_val rfl rfl rfl rfl (R_pickT rfl rfl rfl) ?_
                refine WM_nil ?_
                refine WQ_code ?_
                refine WC_F rfl ?_
                refine WC_skip ?_
                refine WQ_code ?_
                refine WC_seq ?_
                refine WC_region ?_
                refine WL_val rfl rfl rfl (R_move rfl rfl) ?_
                refine WL_val rfl rfl rfl (R_move rfl rfl) ?_
                refine WL_do rfl rfl rfl (D_call (po_where v.m hv2 (by omega) (i : Int)) rfl rfl rfl rfl (pqC)) ?_
                rintro _ _ ⟨_, ⟨rfl, rfl⟩, rfl⟩
                refine WL_val rfl rfl rfl (R_move rfl rfl) ?_
                refine WL_val rfl rfl rfl (R_extract rfl rfl rfl) ?_
                refine WL_val rfl rfl rfl (R_extract rfl rfl rfl) ?_
                refine WL_val rfl rfl rfl (R_extract rfl rfl rfl) ?_
                refine WL_do rfl rfl rfl (D_alloc rfl zv30) ?_
                rintro _ _ ⟨b8, rfl, rfl⟩
                refine WL_do0 rfl rfl (D_store (vs := [_, _]) rfl Tryz.sizeOf30 rfl rfl rfl rfl rfl (plC) (by exact Nat.le_of_ble_eq_true rfl)) ?_
                rintro _ _ rfl
                refine WL_val rfl rfl rfl (R_assign rfl rfl) ?_
                refine WL_val rfl rfl rfl (R_assign rfl rfl) ?_
                refine WL_nil ?_
                refine WQ_code ?_
                refine WC_seq ?_
                refine WC_region ?_
                refine WL_val rfl rfl rfl (R_move rfl rfl) ?_
                refine WL_val rfl rfl rfl (R_eql rfl rfl rfl) ?_
                refine WL_set (s := 292) (v := .bool false) rfl (by exact congrArg Value.bool (decide_eq_false hw2)) ?_
                refine WL_val rfl rfl rfl (R_move rfl rfl) ?_
                refine WL_skip rfl rfl rfl ?_
                refine WL_skip rfl rfl rfl ?_
                refine WL_skip rfl rfl rfl ?_
                refine WL_skip rfl rfl rfl ?_
                refine WL_skip rfl rfl rfl ?_
                refine WL_val rfl rfl rfl (R_pickF rfl rfl rfl) ?_
                refine WL_nil ?_
                refine WQ_code ?_
                refine WC_F rfl ?_
                refine WC_skip ?_
                refine WQ_code ?_
                refine WC_region ?_
                refine WL_val rfl rfl rfl (R_move rfl rfl) ?_
                refine WL_val rfl rfl rfl (R_add rfl rfl rfl (by omega)) ?_
                refine WL_val rfl rfl rfl (R_assign rfl rfl) ?_
                refine WL_nil ?_
                refine WQ_nextF (i + 1) (by omega) (by omega) leZ (psZ) rfl (pqC)
              · refine WM_skip rfl rfl rfl rfl ?_
                refine WM_skip rfl rfl rfl rfl ?_
                refine WM_skip rfl rfl rfl rfl ?_
                refine WM_val rfl rfl rfl rfl (R_pickF rfl rfl rfl) ?_
                refine WM_val rfl rfl rfl rfl (R_move rfl rfl) ?_
                refine WM_skip rfl rfl rfl rfl ?_
                refine WM_skip rfl rfl rfl rfl ?_
                refine WM_skip rfl rfl rfl rfl ?_
                refine WM_skip rfl rfl rfl rfl ?_
                refine WM_skip rfl rfl rfl rfl ?_
                refine WM_skip rfl rfl rfl rfl ?_
                refine WM_skip rfl rfl rfl rfl ?_
                refine WM_skip rfl rfl rfl rfl ?_
                refine WM_skip rfl rfl rfl rfl ?_
                refine WM_skip rfl rfl rfl rfl ?_
                refine WM_skip rfl rfl rfl rfl ?_
                refine WM_skip rfl rfl rfl rfl ?_
                refine WM_skip rfl rfl rfl rfl ?_
                refine WM_skip rfl rfl rfl rfl ?_
                refine WM_skip rfl rfl rfl rfl ?_
                refine WM_skip rfl rfl rfl rfl ?_
                refine WM_val rfl rfl rfl rfl (R_pickF rfl rfl rfl) ?_
                refine WM_nil ?_
                refine WQ_code ?_
                refine WC_F rfl ?_
                refine WC_skip ?_
                refine WQ_code ?_
                refine WC_seq ?_
                refine WC_region ?_
                refine WL_val rfl rfl rfl (R_move rfl rfl) ?_
                refine WL_val rfl rfl rfl (R_move rfl rfl) ?_
                refine WL_do rfl rfl rfl (D_call (po_where v.m hv2 (by omega) (i : Int)) rfl rfl rfl rfl (pqC)) ?_
                rintro _ _ ⟨_, ⟨rfl, rfl⟩, rfl⟩
                refine WL_val rfl rfl rfl (R_move rfl rfl) ?_
                refine WL_val rfl rfl rfl (R_extract rfl rfl rfl) ?_
                refine WL_val rfl rfl rfl (R_extract rfl rfl rfl) ?_
                refine WL_val rfl rfl rfl (R_extract rfl rfl rfl) ?_
                refine WL_do rfl rfl rfl (D_alloc rfl zv30) ?_
                rintro _ _ ⟨b9, rfl, rfl⟩
                refine WL_do0 rfl rfl (D_store (vs := [_, _]) rfl Tryz.sizeOf30 rfl rfl rfl rfl rfl (plC) (by exact Nat.le_of_ble_eq_true rfl)) ?_
                rintro _ _ rfl
                refine WL_val rfl rfl rfl (R_assign rfl rfl) ?_
                refine WL_val rfl rfl rfl (R_assign rfl rfl) ?_
                refine WL_nil ?_
                refine WQ_code ?_
                refine WC_seq ?_
                refine WC_region ?_
                refine WL_val rfl rfl rfl (R_move rfl rfl) ?_
                refine WL_val rfl rfl rfl (R_eql rfl rfl rfl) ?_
                refine WL_set (s := 292) (v := .bool false) rfl (by exact congrArg Value.bool (decide_eq_false hw2)) ?_
                refine WL_val rfl rfl rfl (R_move rfl rfl) ?_
                refine WL_skip rfl rfl rfl ?_
                refine WL_skip rfl rfl rfl ?_
                refine WL_skip rfl rfl rfl ?_
                refine WL_skip rfl rfl rfl ?_
                refine WL_skip rfl rfl rfl ?_
                refine WL_val rfl rfl rfl (R_pickF rfl rfl rfl) ?_
                refine WL_nil ?_
                refine WQ_code ?_
                refine WC_F rfl ?_
                refine WC_skip ?_
                refine WQ_code ?_
                refine WC_region ?_
                refine WL_val rfl rfl rfl (R_move rfl rfl) ?_
                refine WL_val rfl rfl rfl (R_add rfl rfl rfl (by omega)) ?_
                refine WL_val rfl rfl rfl (R_assign rfl rfl) ?_
                refine WL_nil ?_
                refine WQ_nextF (i + 1) (by omega) (by omega) leZ (psZ) rfl (pqC)
            · refine WM_skip rfl rfl rfl rfl ?_
              refine WM_skip rfl rfl rfl rfl ?_
              refine WM_skip rfl rfl rfl rfl ?_
              refine WM_skip rfl rfl rfl rfl ?_
              refine WM_skip rfl rfl rfl rfl ?_
              refine WM_skip rfl rfl rfl rfl ?_
              refine WM_skip rfl rfl rfl rfl ?_
              refine WM_skip rfl rfl rfl rfl ?_
              refine WM_skip rfl rfl rfl rfl ?_
              refine WM_val rfl rfl rfl rfl (R_pickF rfl rfl rfl) ?_
              refine WM_val rfl rfl rfl rfl (R_pickF rfl rfl rfl) ?_
              refine WM_val rfl rfl rfl rfl (R_pickT rfl rfl rfl) ?_
              refine WM_nil ?_
              refine WQ_code ?_
              refine WC_F rfl ?_
              refine WC_skip ?_
              refine WQ_code ?_
              refine WC_seq ?_
              refine WC_seq ?_
              refine WC_draw _ [(0, true), (1, true), (2, true), (3, true), (4, true), (5, true), (6, true), (7, true), (8, true), (9, true), (10, true), (11, true), (12, true), (13, true), (14, true), (15, true), (16, true), (17, true), (18, true), (19, true), (20, true), (21, true), (22, true), (23, true), (24, true)] followsMixed rfl rfl (by kernel_rfl) .all ?_
              refine WM_val rfl rfl rfl rfl (R_move rfl rfl) ?_
              refine WM_val rfl rfl rfl rfl (R_eql rfl rfl rfl) ?_
              refine WM_val rfl rfl rfl rfl (R_move rfl rfl) ?_
              refine WM_splitD (s := 261) rfl (fun c19 => ?_) (fun c19 => ?_)
              · try (have hcl9 := hcl c19)
                refine WM_val rfl rfl rfl rfl (R_move rfl rfl) ?_
                refine WM_val rfl rfl rfl rfl (R_move rfl rfl) ?_
                refine WM_call rfl (Spec.quiet (has_ok v.L (i : Int) v.ob v.c v.tl hvo)) rfl rfl rfl rfl rfl rfl rfl (pqC) ?_
                refine WM_set (s := 264) (v := .bool true) rfl (by exact congrArg Value.bool (decide_eq_true hL)) ?_
                refine WM_val rfl rfl rfl rfl (R_pickT rfl rfl rfl) ?_
                refine WM_val rfl rfl rfl rfl (R_move rfl rfl) ?_
                refine WM_val rfl rfl rfl rfl (R_move rfl rfl) ?_
                refine WM_val rfl rfl rfl rfl (R_indexAddrAN rfl Tryz.underlying55 Tryz.sizeOf30 rfl rfl (by omega)) ?_
                refine WM_val rfl rfl rfl rfl (R_loadA (vs := [.int .i64 (y.z.whr (i : Int)).1.1.1, .int .i64 (y.z.whr (i : Int)).1.1.2]) rfl ag30 rfl (mmC) rfl (fm_at0 encP11_2 (upTo_get (fun i => (y.z.whr ((i : Nat) : Int)).1.1) (0, 0) (i := i) (j := M) (by omega) (by omega)) (j := 0) (vs := [.int .i64 (y.z.whr (i : Int)).1.1.1, .int .i64 (y.z.whr (i : Int)).1.1.2]) (atZ) (by simp))) ?_
                refine WM_val rfl rfl rfl rfl (R_fieldAddr rfl fa54_3 rfl) ?_
                refine WM_val rfl rfl rfl rfl (R_loadA (vs := [_, _]) rfl ag30 rfl (mmC) rfl (atZ)) ?_
                refine WM_val rfl rfl rfl rfl (R_sne30 rfl rfl rfl rfl) ?_
                refine WM_set (s := 272) (v := .bool false) rfl (by exact congrArg Value.bool (decide_eq_false (fun q => q ⟨congrArg Prod.fst hcl9.1, congrArg Prod.snd hcl9.1⟩))) ?_
                refine WM_val rfl rfl rfl rfl (R_move rfl rfl) ?_
                refine WM_val rfl rfl rfl rfl (R_move rfl rfl) ?_
                refine WM_val rfl rfl rfl rfl (R_fieldAddr rfl fa54_3 rfl) ?_
                refine WM_val rfl rfl rfl rfl (R_loadA (vs := [_, _]) rfl ag30 rfl (mmC) rfl (atZ)) ?_
                refine WM_val rfl rfl rfl rfl (R_move rfl rfl) ?_
                refine WM_val rfl rfl rfl rfl (R_indexAddrAN rfl Tryz.underlying56 Tryz.sizeOf44 rfl rfl (by omega)) ?_
                refine WM_val rfl rfl rfl rfl (R_load (v := .int .i64 (y.z.whr (i : Int)).1.2) rfl sc44 rfl (mmC) (fm_get0 encI1 (upTo_get (fun i => (y.z.whr ((i : Nat) : Int)).1.2) 0 (i := i) (j := M) (by omega) (by omega)) (j := 0) (by omega))) ?_
                refine WM_call rfl (Spec.quiet (po_chk v.m hv2 (by omega) a.n a.g (y.z.whr (i : Int)).1.2)) rfl rfl rfl rfl rfl rfl rfl (pqC) ?_
                refine WM_val rfl rfl rfl rfl (R_neq rfl rfl rfl) ?_
                refine WM_set (s := 281) (v := .bool false) rfl (by exact congrArg Value.bool (decide_eq_false (fun q => q hcl9.2))) ?_
                refine WM_val rfl rfl rfl rfl (R_pickF rfl rfl rfl) ?_
                refine WM_val rfl rfl rfl rfl (R_pickT rfl rfl rfl) ?_
                refine WM_nil ?_
                refine WQ_code ?_
                refine WC_F rfl ?_
                refine WC_skip ?_
                refine WQ_code ?_
                refine WC_seq ?_
                refine WC_region ?_
                refine WL_val rfl rfl rfl (R_move rfl rfl) ?_
                refine WL_val rfl rfl rfl (R_move rfl rfl) ?_
                refine WL_do rfl rfl rfl (D_call (po_where v.m hv2 (by omega) (i : Int)) rfl rfl rfl rfl (pqC)) ?_
                rintro _ _ ⟨_, ⟨rfl, rfl⟩, rfl⟩
                refine WL_val rfl rfl rfl (R_move rfl rfl) ?_
                refine WL_val rfl rfl rfl (R_extract rfl rfl rfl) ?_
                refine WL_val rfl rfl rfl (R_extract rfl rfl rfl) ?_
                refine WL_val rfl rfl rfl (R_extract rfl rfl rfl) ?_
                refine WL_do rfl rfl rfl (D_alloc rfl zv30) ?_
                rintro _ _ ⟨b10, rfl, rfl⟩
                refine WL_do0 rfl rfl (D_store (vs := [_, _]) rfl Tryz.sizeOf30 rfl rfl rfl rfl rfl (plC) (by exact Nat.le_of_ble_eq_true rfl)) ?_
                rintro _ _ rfl
                refine WL_val rfl rfl rfl (R_assign rfl rfl) ?_
                refine WL_val rfl rfl rfl (R_assign rfl rfl) ?_
                refine WL_nil ?_
                refine WQ_code ?_
                refine WC_seq ?_
                refine WC_region ?_
                refine WL_val rfl rfl rfl (R_move rfl rfl) ?_
                refine WL_val rfl rfl rfl (R_eql rfl rfl rfl) ?_
                refine WL_set (s := 292) (v := .bool false) rfl (by exact congrArg Value.bool (decide_eq_false hw2)) ?_
                refine WL_val rfl rfl rfl (R_move rfl rfl) ?_
                refine WL_skip rfl rfl rfl ?_
                refine WL_skip rfl rfl rfl ?_
                refine WL_skip rfl rfl rfl ?_
                refine WL_skip rfl rfl rfl ?_
                refine WL_skip rfl rfl rfl ?_
                refine WL_val rfl rfl rfl (R_pickF rfl rfl rfl) ?_
                refine WL_nil ?_
                refine WQ_code ?_
                refine WC_F rfl ?_
                refine WC_skip ?_
                refine WQ_code ?_
                refine WC_region ?_
                refine WL_val rfl rfl rfl (R_move rfl rfl) ?_
                refine WL_val rfl rfl rfl (R_add rfl rfl rfl (by omega)) ?_
                refine WL_val rfl rfl rfl (R_assign rfl rfl) ?_
                refine WL_nil ?_
                refine WQ_nextF (i + 1) (by omega) (by omega) leZ (psZ) rfl (pqC)
              · refine WM_skip rfl rfl rfl rfl ?_
                refine WM_skip rfl rfl rfl rfl ?_
                refine WM_skip rfl rfl rfl rfl ?_
                refine WM_val rfl rfl rfl rfl (R_pickF rfl rfl rfl) ?_
                refine WM_val rfl rfl rfl rfl (R_move rfl rfl) ?_
                refine WM_skip rfl rfl rfl rfl ?_
                refine WM_skip rfl rfl rfl rfl ?_
                refine WM_skip rfl rfl rfl rfl ?_
                refine WM_skip rfl rfl rfl rfl ?_
                refine WM_skip rfl rfl rfl rfl ?_
                refine WM_skip rfl rfl rfl rfl ?_
                refine WM_skip rfl rfl rfl rfl ?_
                refine WM_skip rfl rfl rfl rfl ?_
                refine WM_skip rfl rfl rfl rfl ?_
                refine WM_skip rfl rfl rfl rfl ?_
                refine WM_skip rfl rfl rfl rfl ?_
                refine WM_skip rfl rfl rfl rfl ?_
                refine WM_skip rfl rfl rfl rfl ?_
                refine WM_skip rfl rfl rfl rfl ?_
                refine WM_skip rfl rfl rfl rfl ?_
                refine WM_skip rfl rfl rfl rfl ?_
                refine WM_val rfl rfl rfl rfl (R_pickF rfl rfl rfl) ?_
                refine WM_nil ?_
                refine WQ_code ?_
                refine WC_F rfl ?_
                refine WC_skip ?_
                refine WQ_code ?_
                refine WC_seq ?_
                refine WC_region ?_
                refine WL_val rfl rfl rfl (R_move rfl rfl) ?_
                refine WL_val rfl rfl rfl (R_move rfl rfl) ?_
                refine WL_do rfl rfl rfl (D_call (po_where v.m hv2 (by omega) (i : Int)) rfl rfl rfl rfl (pqC)) ?_
                rintro _ _ ⟨_, ⟨rfl, rfl⟩, rfl⟩
                refine WL_val rfl rfl rfl (R_move rfl rfl) ?_
                refine WL_val rfl rfl rfl (R_extract rfl rfl rfl) ?_
                refine WL_val rfl rfl rfl (R_extract rfl rfl rfl) ?_
                refine WL_val rfl rfl rfl (R_extract rfl rfl rfl) ?_
                refine WL_do rfl rfl rfl (D_alloc rfl zv30) ?_
                rintro _ _ ⟨b11, rfl, rfl⟩
                refine WL_do0 rfl rfl (D_store (vs := [_, _]) rfl Tryz.sizeOf30 rfl rfl rfl rfl rfl (plC) (by exact Nat.le_of_ble_eq_true rfl)) ?_
                rintro _ _ rfl
                refine WL_val rfl rfl rfl (R_assign rfl rfl) ?_
                refine WL_val rfl rfl rfl (R_assign rfl rfl) ?_
                refine WL_nil ?_
                refine WQ_code ?_
                refine WC_seq ?_
                refine WC_region ?_
                refine WL_val rfl rfl rfl (R_move rfl rfl) ?_
                refine WL_val rfl rfl rfl (R_eql rfl rfl rfl) ?_
                refine WL_set (s := 292) (v := .bool false) rfl (by exact congrArg Value.bool (decide_eq_false hw2)) ?_
                refine WL_val rfl rfl rfl (R_move rfl rfl) ?_
                refine WL_skip rfl rfl rfl ?_
                refine WL_skip rfl rfl rfl ?_
                refine WL_skip rfl rfl rfl ?_
                refine WL_skip rfl rfl rfl ?_
                refine WL_skip rfl rfl rfl ?_
                refine WL_val rfl rfl rfl (R_pickF rfl rfl rfl) ?_
                refine WL_nil ?_
                refine WQ_code ?_
                refine WC_F rfl ?_
                refine WC_skip ?_
                refine WQ_code ?_
                refine WC_region ?_
                refine WL_val rfl rfl rfl (R_move rfl rfl) ?_
                refine WL_val rfl rfl rfl (R_add rfl rfl rfl (by omega)) ?_
                refine WL_val rfl rfl rfl (R_assign rfl rfl) ?_
                refine WL_nil ?_
                refine WQ_nextF (i + 1) (by omega) (by omega) leZ (psZ) rfl (pqC)
          · refine WC_skip ?_
            refine WQ_code ?_
            refine WC_seq ?_
            refine WC_block ?_
            refine WC_seq ?_
            refine WC_region ?_
            refine WL_val rfl rfl rfl (R_move rfl rfl) ?_
            refine WL_val rfl rfl rfl (R_move rfl rfl) ?_
            refine WL_do rfl rfl rfl (D_call (po_state v.m hv2 (by omega) (i : Int)) rfl rfl rfl rfl (pqC)) ?_
            rintro _ _ ⟨_, ⟨rfl, rfl⟩, rfl⟩
            rw [hst9]
            refine WL_val rfl rfl rfl (R_move rfl rfl) ?_
            refine WL_val rfl rfl rfl (R_extract rfl rfl rfl) ?_
            refine WL_val rfl rfl rfl (R_extract rfl rfl rfl) ?_
            refine WL_val rfl rfl rfl (R_assign rfl rfl) ?_
            refine WL_val rfl rfl rfl (R_assign rfl rfl) ?_
            refine WL_nil ?_
            refine WQ_code ?_
            refine WC_seq ?_
            refine WC_seq ?_
            refine WC_draw _ [(0, true), (1, true), (2, true), (3, true), (4, true), (5, true), (6, true), (7, true), (8, true), (9, true), (10, true), (11, true), (12, true), (13, true), (14, true)] followsMixed rfl rfl (by kernel_rfl) .all ?_
            refine WM_val rfl rfl rfl rfl (R_move rfl rfl) ?_
            refine WM_val rfl rfl rfl rfl (R_neq rfl rfl rfl) ?_
            refine WM_set (s := 216) (v := .bool false) rfl (by simp) ?_
            refine WM_val rfl rfl rfl rfl (R_move rfl rfl) ?_
            refine WM_val rfl rfl rfl rfl (R_move rfl rfl) ?_
            refine WM_val rfl rfl rfl rfl (R_move rfl rfl) ?_
            refine WM_call rfl (Spec.quiet (has_ok v.L (i : Int) v.ob v.c v.tl hvo)) rfl rfl rfl rfl rfl rfl rfl (pqC) ?_
            refine WM_set (s := 220) (v := .bool false) rfl (by exact congrArg Value.bool (decide_eq_false hL)) ?_
            refine WM_val rfl rfl rfl rfl (R_move rfl rfl) ?_
            refine WM_val rfl rfl rfl rfl (R_indexAddrAN rfl Tryz.underlying57 Tryz.sizeOf4 rfl rfl (by omega)) ?_
            refine WM_val rfl rfl rfl rfl (R_load (v := .bool (decide ((y.z.whr (i : Int)).2 = 0))) rfl sc4 rfl (mmC) (fm_get0 encB11_1 (upTo_get (fun i => decide ((y.z.whr ((i : Nat) : Int)).2 = 0)) false (i := i) (j := M) (by omega) (by omega)) (j := 0) (by omega))) ?_
            refine WM_set (s := 223) (v := .bool true) rfl (by exact congrArg Value.bool (decide_eq_true hw1)) ?_
            refine WM_val rfl rfl rfl rfl (R_move rfl rfl) ?_
            refine WM_val rfl rfl rfl rfl (R_move rfl rfl) ?_
            refine WM_val rfl rfl rfl rfl (R_neq rfl rfl rfl) ?_
            refine WM_set (s := 226) (v := .bool false) rfl (by simp) ?_
            refine WM_val rfl rfl rfl rfl (R_pickT rfl rfl rfl) ?_
            refine WM_val rfl rfl rfl rfl (R_boolNe rfl Tryz.underlying4 rfl rfl) ?_
            refine WM_set (s := 228) (v := .bool false) rfl (by simp) ?_
            refine WM_val rfl rfl rfl rfl (R_pickF rfl rfl rfl) ?_
            refine WM_nil ?_
            refine WQ_code ?_
            refine WC_F rfl ?_
            refine WC_skip ?_
            refine WQ_code ?_
            refine WC_seq ?_
            refine WC_seq ?_
            refine WC_draw _ [(0, true), (1, true), (2, true), (3, true), (4, true), (5, true), (6, true), (7, true), (8, true), (9, true), (10, true), (11, true), (12, true), (13, true), (14, true), (15, true), (16, true), (17, true), (18, true), (19, true), (20, true), (21, true), (22, true), (23, true), (24, true), (25, true), (26, true), (27, true), (28, true)] followsMixed rfl rfl (by kernel_rfl) .all ?_
            refine WM_val rfl rfl rfl rfl (R_move rfl rfl) ?_
            refine WM_val rfl rfl rfl rfl (R_move rfl rfl) ?_
            refine WM_call rfl (Spec.quiet (has_ok v.L (i : Int) v.ob v.c v.tl hvo)) rfl rfl rfl rfl rfl rfl rfl (pqC) ?_
            refine WM_set (s := 232) (v := .bool false) rfl (by exact congrArg Value.bool (decide_eq_false hL)) ?_
            refine WM_val rfl rfl rfl rfl (R_move rfl rfl) ?_
            refine WM_skip rfl rfl rfl rfl ?_
            refine WM_skip rfl rfl rfl rfl ?_
            refine WM_skip rfl rfl rfl rfl ?_
            refine WM_skip rfl rfl rfl rfl ?_
            refine WM_skip rfl rfl rfl rfl ?_
            refine WM_skip rfl rfl rfl rfl ?_
            refine WM_skip rfl rfl rfl rfl ?_
            refine WM_skip rfl rfl rfl rfl ?_
            refine WM_skip rfl rfl rfl rfl ?_
            refine WM_skip rfl rfl rfl rfl ?_
            refine WM_skip rfl rfl rfl rfl ?_
            refine WM_skip rfl rfl rfl rfl ?_
            refine WM_skip rfl rfl rfl rfl ?_
            refine WM_skip rfl rfl rfl rfl ?_
            refine WM_skip rfl rfl rfl rfl ?_
            refine WM_skip rfl rfl rfl rfl ?_
            refine WM_skip rfl rfl rfl rfl ?_
            refine WM_skip rfl rfl rfl rfl ?_
            refine WM_skip rfl rfl rfl rfl ?_
            refine WM_skip rfl rfl rfl rfl ?_
            refine WM_skip rfl rfl rfl rfl ?_
            refine WM_skip rfl rfl rfl rfl ?_
            refine WM_skip rfl rfl rfl rfl ?_
            refine WM_skip rfl rfl rfl rfl ?_
            refine WM_val rfl rfl rfl rfl (R_pickF rfl rfl rfl) ?_
            refine WM_nil ?_
            refine WQ_code ?_
            refine WC_F rfl ?_
            refine WC_skip ?_
            refine WQ_code ?_
            refine WC_seq ?_
            refine WC_seq ?_
            refine WC_draw _ [(0, true), (1, true), (2, true), (3, true), (4, true), (5, true), (6, true), (7, true), (8, true), (9, true), (10, true), (11, true), (12, true), (13, true), (14, true), (15, true), (16, true), (17, true), (18, true), (19, true), (20, true), (21, true), (22, true), (23, true), (24, true)] followsMixed rfl rfl (by kernel_rfl) .all ?_
            refine WM_val rfl rfl rfl rfl (R_move rfl rfl) ?_
            refine WM_val rfl rfl rfl rfl (R_eql rfl rfl rfl) ?_
            refine WM_val rfl rfl rfl rfl (R_move rfl rfl) ?_
            refine WM_splitD (s := 261) rfl (fun c20 => ?_) (fun c20 => ?_)
            · try (have hcl9 := hcl c20)
              refine WM_val rfl rfl rfl rfl (R_move rfl rfl) ?_
              refine WM_val rfl rfl rfl rfl (R_move rfl rfl) ?_
              refine WM_call rfl (Spec.quiet (has_ok v.L (i : Int) v.ob v.c v.tl hvo)) rfl rfl rfl rfl rfl rfl rfl (pqC) ?_
              refine WM_set (s := 264) (v := .bool false) rfl (by exact congrArg Value.bool (decide_eq_false hL)) ?_
              refine WM_val rfl rfl rfl rfl (R_pickT rfl rfl rfl) ?_
              refine WM_val rfl rfl rfl rfl (R_move rfl rfl) ?_
              refine WM_skip rfl rfl rfl rfl ?_
              refine WM_skip rfl rfl rfl rfl ?_
              refine WM_skip rfl rfl rfl rfl ?_
              refine WM_skip rfl rfl rfl rfl ?_
              refine WM_skip rfl rfl rfl rfl ?_
              refine WM_skip rfl rfl rfl rfl ?_
              refine WM_skip rfl rfl rfl rfl ?_
              refine WM_skip rfl rfl rfl rfl ?_
              refine WM_skip rfl rfl rfl rfl ?_
              refine WM_skip rfl rfl rfl rfl ?_
              refine WM_skip rfl rfl rfl rfl ?_
              refine WM_skip rfl rfl rfl rfl ?_
              refine WM_skip rfl rfl rfl rfl ?_
              refine WM_skip rfl rfl rfl rfl ?_
              refine WM_skip rfl rfl rfl rfl ?_
              refine WM_skip rfl rfl rfl rfl ?_
              refine WM_val rfl rfl rfl rfl (R_pickF rfl rfl rfl) ?_
              refine WM_nil ?_
              refine WQ_code ?_
              refine WC_F rfl ?_
              refine WC_skip ?_
              refine WQ_code ?_
              refine WC_seq ?_
              refine WC_region ?_
              refine WL_val rfl rfl rfl (R_move rfl rfl) ?_
              refine WL_val rfl rfl rfl (R_move rfl rfl) ?_
              refine WL_do rfl rfl rfl (D_call (po_where v.m hv2 (by omega) (i : Int)) rfl rfl rfl rfl (pqC)) ?_
              rintro _ _ ⟨_, ⟨rfl, rfl⟩, rfl⟩
              refine WL_val rfl rfl rfl (R_move rfl rfl) ?_
              refine WL_val rfl rfl rfl (R_extract rfl rfl rfl) ?_
              refine WL_val rfl rfl rfl (R_extract rfl rfl rfl) ?_
              refine WL_val rfl rfl rfl (R_extract rfl rfl rfl) ?_
              refine WL_do rfl rfl rfl (D_alloc rfl zv30) ?_
              rintro _ _ ⟨b12, rfl, rfl⟩
              refine WL_do0 rfl rfl (D_store (vs := [_, _]) rfl Tryz.sizeOf30 rfl rfl rfl rfl rfl (plC) (by exact Nat.le_of_ble_eq_true rfl)) ?_
              rintro _ _ rfl
              refine WL_val rfl rfl rfl (R_assign rfl rfl) ?_
              refine WL_val rfl rfl rfl (R_assign rfl rfl) ?_
              refine WL_nil ?_
              refine WQ_code ?_
              refine WC_seq ?_
              refine WC_region ?_
              refine WL_val rfl rfl rfl (R_move rfl rfl) ?_
              refine WL_val rfl rfl rfl (R_eql rfl rfl rfl) ?_
              refine WL_set (s := 292) (v := .bool true) rfl (by exact congrArg Value.bool (decide_eq_true hw2)) ?_
              refine WL_val rfl rfl rfl (R_move rfl rfl) ?_
              refine WL_val rfl rfl rfl (R_move rfl rfl) ?_
              refine WL_val rfl rfl rfl (R_loadA (vs := [_, _]) rfl ag30 rfl (mmC) rfl (atZ)) ?_
              refine WL_val rfl rfl rfl (R_move rfl rfl) ?_
              refine WL_do rfl rfl rfl (D_call (po_chk v.m hv2 (by omega) (v.z.whr (i : Int)).1.1.1 (v.z.whr (i : Int)).1.1.2 (v.z.whr (i : Int)).1.2) rfl rfl rfl rfl (pqC)) ?_
              rintro _ _ ⟨_, ⟨rfl, rfl⟩, rfl⟩
              refine WL_val rfl rfl rfl (R_neq rfl rfl rfl) ?_
              refine WL_set (s := 298) (v := .bool false) rfl (by exact congrArg Value.bool (decide_eq_false (fun q => q hck))) ?_
              refine WL_val rfl rfl rfl (R_pickT rfl rfl rfl) ?_
              refine WL_nil ?_
              refine WQ_code ?_
              refine WC_F rfl ?_
              refine WC_skip ?_
              refine WQ_code ?_
              refine WC_region ?_
              refine WL_val rfl rfl rfl (R_move rfl rfl) ?_
              refine WL_val rfl rfl rfl (R_add rfl rfl rfl (by omega)) ?_
              refine WL_val rfl rfl rfl (R_assign rfl rfl) ?_
              refine WL_nil ?_
              refine WQ_nextF (i + 1) (by omega) (by omega) leZ (psZ) rfl (pqC)
            · refine WM_skip rfl rfl rfl rfl ?_
              refine WM_skip rfl rfl rfl rfl ?_
              refine WM_skip rfl rfl rfl rfl ?_
              refine WM_val rfl rfl rfl rfl (R_pickF rfl rfl rfl) ?_
              refine WM_val rfl rfl rfl rfl (R_move rfl rfl) ?_
              refine WM_skip rfl rfl rfl rfl ?_
              refine WM_skip rfl rfl rfl rfl ?_
              refine WM_skip rfl rfl rfl rfl ?_
              refine WM_skip rfl rfl rfl rfl ?_
              refine WM_skip rfl rfl rfl rfl ?_
              refine WM_skip rfl rfl rfl rfl ?_
              refine WM_skip rfl rfl rfl rfl ?_
              refine WM_skip rfl rfl rfl rfl ?_
              refine WM_skip rfl rfl rfl rfl ?_
              refine WM_skip rfl rfl rfl rfl ?_
              refine WM_skip rfl rfl rfl rfl ?_
              refine WM_skip rfl rfl rfl rfl ?_
              refine WM_skip rfl rfl rfl rfl ?_
              refine WM_skip rfl rfl rfl rfl ?_
              refine WM_skip rfl rfl rfl rfl ?_
              refine WM_skip rfl rfl rfl rfl ?_
              refine WM_val rfl rfl rfl rfl (R_pickF rfl rfl rfl) ?_
              refine WM_nil ?_
              refine WQ_code ?_
              refine WC_F rfl ?_
              refine WC_skip ?_
              refine WQ_code ?_
              refine WC_seq ?_
              refine WC_region ?_
              refine WL_val rfl rfl rfl (R_move rfl rfl) ?_
              refine WL_val rfl rfl rfl (R_move rfl rfl) ?_
              refine WL_do rfl rfl rfl (D_call (po_where v.m hv2 (by omega) (i : Int)) rfl rfl rfl rfl (pqC)) ?_
              rintro _ _ ⟨_, ⟨rfl, rfl⟩, rfl⟩
              refine WL_val rfl rfl rfl (R_move rfl rfl) ?_
              refine WL_val rfl rfl rfl (R_extract rfl rfl rfl) ?_
              refine WL_val rfl rfl rfl (R_extract rfl rfl rfl) ?_
              refine WL_val rfl rfl rfl (R_extract rfl rfl rfl) ?_
              refine WL_do rfl rfl rfl (D_alloc rfl zv30) ?_
              rintro _ _ ⟨b13, rfl, rfl⟩
              refine WL_do0 rfl rfl (D_store (vs := [_, _]) rfl Tryz.sizeOf30 rfl rfl rfl rfl rfl (plC) (by exact Nat.le_of_ble_eq_true rfl)) ?_
              rintro _ _ rfl
              refine WL_val rfl rfl rfl (R_assign rfl rfl) ?_
              refine WL_val rfl rfl rfl (R_assign rfl rfl) ?_
              refine WL_nil ?_
              refine WQ_code ?_
              refine WC_seq ?_
              refine WC_region ?_
              refine WL_val rfl rfl rfl (R_move rfl rfl) ?_
              refine WL_val rfl rfl rfl (R_eql rfl rfl rfl) ?_
              refine WL_set (s := 292) (v := .bool true) rfl (by exact congrArg Value.bool (decide_eq_true hw2)) ?_
              refine WL_val rfl rfl rfl (R_move rfl rfl) ?_
              refine WL_val rfl rfl rfl (R_move rfl rfl) ?_
              refine WL_val rfl rfl rfl (R_loadA (vs := [_, _]) rfl ag30 rfl (mmC) rfl (atZ)) ?_
              refine WL_val rfl rfl rfl (R_move rfl rfl) ?_
              refine WL_do rfl rfl rfl (D_call (po_chk v.m hv2 (by omega) (v.z.whr (i : Int)).1.1.1 (v.z.whr (i : Int)).1.1.2 (v.z.whr (i : Int)).1.2) rfl rfl rfl rfl (pqC)) ?_
              rintro _ _ ⟨_, ⟨rfl, rfl⟩, rfl⟩
              refine WL_val rfl rfl rfl (R_neq rfl rfl rfl) ?_
              refine WL_set (s := 298) (v := .bool false) rfl (by exact congrArg Value.bool (decide_eq_false (fun q => q hck))) ?_
              refine WL_val rfl rfl rfl (R_pickT rfl rfl rfl) ?_
              refine WL_nil ?_
              refine WQ_code ?_
              refine WC_F rfl ?_
              refine WC_skip ?_
              refine WQ_code ?_
              refine WC_region ?_
              refine WL_val rfl rfl rfl (R_move rfl rfl) ?_
              refine WL_val rfl rfl rfl (R_add rfl rfl rfl (by omega)) ?_
              refine WL_val rfl rfl rfl (R_assign rfl rfl) ?_
              refine WL_nil ?_
              refine WQ_nextF (i + 1) (by omega) (by omega) leZ (psZ) rfl (pqC)
          · refine WC_skip ?_
            refine WQ_code ?_
            refine WC_seq ?_
            refine WC_block ?_
            refine WC_seq ?_
            refine WC_region ?_
            refine WL_val rfl rfl rfl (R_move rfl rfl) ?_
            refine WL_val rfl rfl rfl (R_move rfl rfl) ?_
            refine WL_do rfl rfl rfl (D_call (po_state v.m hv2 (by omega) (i : Int)) rfl rfl rfl rfl (pqC)) ?_
            rintro _ _ ⟨_, ⟨rfl, rfl⟩, rfl⟩
            rw [hst9]
            refine WL_val rfl rfl rfl (R_move rfl rfl) ?_
            refine WL_val rfl rfl rfl (R_extract rfl rfl rfl) ?_
            refine WL_val rfl rfl rfl (R_extract rfl rfl rfl) ?_
            refine WL_val rfl rfl rfl (R_assign rfl rfl) ?_
            refine WL_val rfl rfl rfl (R_assign rfl rfl) ?_
            refine WL_nil ?_
            refine WQ_code ?_
            refine WC_seq ?_
            refine WC_seq ?_
            refine WC_draw _ [(0, true), (1, true), (2, true), (3, true), (4, true), (5, true), (6, true), (7, true), (8, true), (9, true), (10, true), (11, true), (12, true), (13, true), (14, true)] followsMixed rfl rfl (by kernel_rfl) .all ?_
            refine WM_val rfl rfl rfl rfl (R_move rfl rfl) ?_
            refine WM_val rfl rfl rfl rfl (R_neq rfl rfl rfl) ?_
            refine WM_set (s := 216) (v := .bool false) rfl (by simp) ?_
            refine WM_val rfl rfl rfl rfl (R_move rfl rfl) ?_
            refine WM_val rfl rfl rfl rfl (R_move rfl rfl) ?_
            refine WM_val rfl rfl rfl rfl (R_move rfl rfl) ?_
            refine WM_call rfl (Spec.quiet (has_ok v.L (i : Int) v.ob v.c v.tl hvo)) rfl rfl rfl rfl rfl rfl rfl (pqC) ?_
            refine WM_set (s := 220) (v := .bool false) rfl (by exact congrArg Value.bool (decide_eq_false hL)) ?_
            refine WM_val rfl rfl rfl rfl (R_move rfl rfl) ?_
            refine WM_val rfl rfl rfl rfl (R_indexAddrAN rfl Tryz.underlying57 Tryz.sizeOf4 rfl rfl (by omega)) ?_
            refine WM_val rfl rfl rfl rfl (R_load (v := .bool (decide ((y.z.whr (i : Int)).2 = 0))) rfl sc4 rfl (mmC) (fm_get0 encB11_1 (upTo_get (fun i => decide ((y.z.whr ((i : Nat) : Int)).2 = 0)) false (i := i) (j := M) (by omega) (by omega)) (j := 0) (by omega))) ?_
            refine WM_set (s := 223) (v := .bool false) rfl (by exact congrArg Value.bool (decide_eq_false hw1)) ?_
            refine WM_val rfl rfl rfl rfl (R_move rfl rfl) ?_
            refine WM_skip rfl rfl rfl rfl ?_
            refine WM_skip rfl rfl rfl rfl ?_
            refine WM_val rfl rfl rfl rfl (R_pickF rfl rfl rfl) ?_
            refine WM_val rfl rfl rfl rfl (R_boolNe rfl Tryz.underlying4 rfl rfl) ?_
            refine WM_set (s := 228) (v := .bool false) rfl (by simp) ?_
            refine WM_val rfl rfl rfl rfl (R_pickF rfl rfl rfl) ?_
            refine WM_nil ?_
            refine WQ_code ?_
            refine WC_F rfl ?_
            refine WC_skip ?_
            refine WQ_code ?_
            refine WC_seq ?_
            refine WC_seq ?_
            refine WC_draw _ [(0, true), (1, true), (2, true), (3, true), (4, true), (5, true), (6, true), (7, true), (8, true), (9, true), (10, true), (11, true), (12, true), (13, true), (14, true), (15, true), (16, true), (17, true), (18, true), (19, true), (20, true), (21, true), (22, true), (23, true), (24, true), (25, true), (26, true), (27, true), (28, true)] followsMixed rfl rfl (by kernel_rfl) .all ?_
            refine WM_val rfl rfl rfl rfl (R_move rfl rfl) ?_
            refine WM_val rfl rfl rfl rfl (R_move rfl rfl) ?_
            refine WM_call rfl (Spec.quiet (has_ok v.L (i : Int) v.ob v.c v.tl hvo)) rfl rfl rfl rfl rfl rfl rfl (pqC) ?_
            refine WM_set (s := 232) (v := .bool false) rfl (by exact congrArg Value.bool (decide_eq_false hL)) ?_
            refine WM_val rfl rfl rfl rfl (R_move rfl rfl) ?_
            refine WM_skip rfl rfl rfl rfl ?_
            refine WM_skip rfl rfl rfl rfl ?_
            refine WM_skip rfl rfl rfl rfl ?_
            refine WM_skip rfl rfl rfl rfl ?_
            refine WM_skip rfl rfl rfl rfl ?_
            refine WM_skip rfl rfl rfl rfl ?_
            refine WM_skip rfl rfl rfl rfl ?_
            refine WM_skip rfl rfl rfl rfl ?_
            refine WM_skip rfl rfl rfl rfl ?_
            refine WM_skip rfl rfl rfl rfl ?_
            refine WM_skip rfl rfl rfl rfl ?_
            refine WM_skip rfl rfl rfl rfl ?_
            refine WM_skip rfl rfl rfl rfl ?_
            refine WM_skip rfl rfl rfl rfl ?_
            refine WM_skip rfl rfl rfl rfl ?_
            refine WM_skip rfl rfl rfl rfl ?_
            refine WM_skip rfl rfl rfl rfl ?_
            refine WM_skip rfl rfl rfl rfl ?_
            refine WM_skip rfl rfl rfl rfl ?_
            refine WM_skip rfl rfl rfl rfl ?_
            refine WM_skip rfl rfl rfl rfl ?_
            refine WM_skip rfl rfl rfl rfl ?_
            refine WM_skip rfl rfl rfl rfl ?_
            refine WM_skip rfl rfl rfl rfl ?_
            refine WM_val rfl rfl rfl rfl (R_pickF rfl rfl rfl) ?_
            refine WM_nil ?_
            refine WQ_code ?_
            refine WC_F rfl ?_
            refine WC_skip ?_
            refine WQ_code ?_
            refine WC_seq ?_
            refine WC_seq ?_
            refine WC_draw _ [(0, true), (1, true), (2, true), (3, true), (4, true), (5, true), (6, true), (7, true), (8, true), (9, true), (10, true), (11, true), (12, true), (13, true), (14, true), (15, true), (16, true), (17, true), (18, true), (19, true), (20, true), (21, true), (22, true), (23, true), (24, true)] followsMixed rfl rfl (by kernel_rfl) .all ?_
            refine WM_val rfl rfl rfl rfl (R_move rfl rfl) ?_
            refine WM_val rfl rfl rfl rfl (R_eql rfl rfl rfl) ?_
            refine WM_val rfl rfl rfl rfl (R_move rfl rfl) ?_
            refine WM_splitD (s := 261) rfl (fun c21 => ?_) (fun c21 => ?_)
            · try (have hcl9 := hcl c21)
              refine WM_val rfl rfl rfl rfl (R_move rfl rfl) ?_
              refine WM_val rfl rfl rfl rfl (R_move rfl rfl) ?_
              refine WM_call rfl (Spec.quiet (has_ok v.L (i : Int) v.ob v.c v.tl hvo)) rfl rfl rfl rfl rfl rfl rfl (pqC) ?_
              refine WM_set (s := 264) (v := .bool false) rfl (by exact congrArg Value.bool (decide_eq_false hL)) ?_
              refine WM_val rfl rfl rfl rfl (R_pickT rfl rfl rfl) ?_
              refine WM_val rfl rfl rfl rfl (R_move rfl rfl) ?_
              refine WM_skip rfl rfl rfl rfl ?_
              refine WM_skip rfl rfl rfl rfl ?_
              refine WM_skip rfl rfl rfl rfl ?_
              refine WM_skip rfl rfl rfl rfl ?_
              refine WM_skip rfl rfl rfl rfl ?_
              refine WM_skip rfl rfl rfl rfl ?_
              refine WM_skip rfl rfl rfl rfl ?_
              refine WM_skip rfl rfl rfl rfl ?_
              refine WM_skip rfl rfl rfl rfl ?_
              refine WM_skip rfl rfl rfl rfl ?_
              refine WM_skip rfl rfl rfl rfl ?_
              refine WM_skip rfl rfl rfl rfl ?_
              refine WM_skip rfl rfl rfl rfl ?_
              refine WM_skip rfl rfl rfl rfl ?_
              refine WM_skip rfl rfl rfl rfl ?_
              refine WM_skip rfl rfl rfl rfl ?_
              refine WM_val rfl rfl rfl rfl (R_pickF rfl rfl rfl) ?_
              refine WM_nil ?_
              refine WQ_code ?_
              refine WC_F rfl ?_
              refine WC_skip ?_
              refine WQ_code ?_
              refine WC_seq ?_
              refine WC_region ?_
              refine WL_val rfl rfl rfl (R_move rfl rfl) ?_
              refine WL_val rfl rfl rfl (R_move rfl rfl) ?_
              refine WL_do rfl rfl rfl (D_call (po_where v.m hv2 (by omega) (i : Int)) rfl rfl rfl rfl (pqC)) ?_
              rintro _ _ ⟨_, ⟨rfl, rfl⟩, rfl⟩
              refine WL_val rfl rfl rfl (R_move rfl rfl) ?_
              refine WL_val rfl rfl rfl (R_extract rfl rfl rfl) ?_
              refine WL_val rfl rfl rfl (R_extract rfl rfl rfl) ?_
              refine WL_val rfl rfl rfl (R_extract rfl rfl rfl) ?_
              refine WL_do rfl rfl rfl (D_alloc rfl zv30) ?_
              rintro _ _ ⟨b14, rfl, rfl⟩
              refine WL_do0 rfl rfl (D_store (vs := [_, _]) rfl Tryz.sizeOf30 rfl rfl rfl rfl rfl (plC) (by exact Nat.le_of_ble_eq_true rfl)) ?_
              rintro _ _ rfl
              refine WL_val rfl rfl rfl (R_assign rfl rfl) ?_
              refine WL_val rfl rfl rfl (R_assign rfl rfl) ?_
              refine WL_nil ?_
              refine WQ_code ?_
              refine WC_seq ?_
              refine WC_region ?_
              refine WL_val rfl rfl rfl (R_move rfl rfl) ?_
              refine WL_val rfl rfl rfl (R_eql rfl rfl rfl) ?_
              refine WL_set (s := 292) (v := .bool true) rfl (by exact congrArg Value.bool (decide_eq_true hw2)) ?_
              refine WL_val rfl rfl rfl (R_move rfl rfl) ?_
              refine WL_val rfl rfl rfl (R_move rfl rfl) ?_
              refine WL_val rfl rfl rfl (R_loadA (vs := [_, _]) rfl ag30 rfl (mmC) rfl (atZ)) ?_
              refine WL_val rfl rfl rfl (R_move rfl rfl) ?_
              refine WL_do rfl rfl rfl (D_call (po_chk v.m hv2 (by omega) (v.z.whr (i : Int)).1.1.1 (v.z.whr (i : Int)).1.1.2 (v.z.whr (i : Int)).1.2) rfl rfl rfl rfl (pqC)) ?_
              rintro _ _ ⟨_, ⟨rfl, rfl⟩, rfl⟩
              refine WL_val rfl rfl rfl (R_neq rfl rfl rfl) ?_
              refine WL_set (s := 298) (v := .bool false) rfl (by exact congrArg Value.bool (decide_eq_false (fun q => q hck))) ?_
              refine WL_val rfl rfl rfl (R_pickT rfl rfl rfl) ?_
              refine WL_nil ?_
              refine WQ_code ?_
              refine WC_F rfl ?_
              refine WC_skip ?_
              refine WQ_code ?_
              refine WC_region ?_
              refine WL_val rfl rfl rfl (R_move rfl rfl) ?_
              refine WL_val rfl rfl rfl (R_add rfl rfl rfl (by omega)) ?_
              refine WL_val rfl rfl rfl (R_assign rfl rfl) ?_
              refine WL_nil ?_
              refine WQ_nextF (i + 1) (by omega) (by omega) leZ (psZ) rfl (pqC)
            · refine WM_skip rfl rfl rfl rfl ?_
              refine WM_skip rfl rfl rfl rfl ?_
              refine WM_skip rfl rfl rfl rfl ?_
              refine WM_val rfl rfl rfl rfl (R_pickF rfl rfl rfl) ?_
              refine WM_val rfl rfl rfl rfl (R_move rfl rfl) ?_
              refine WM_skip rfl rfl rfl rfl ?_
              refine WM_skip rfl rfl rfl rfl ?_
              refine WM_skip rfl rfl rfl rfl ?_
              refine WM_skip rfl rfl rfl rfl ?_
              refine WM_skip rfl rfl rfl rfl ?_
              refine WM_skip rfl rfl rfl rfl ?_
              refine WM_skip rfl rfl rfl rfl ?_
              refine WM_skip rfl rfl rfl rfl ?_
              refine WM_skip rfl rfl rfl rfl ?_
              refine WM_skip rfl rfl rfl rfl ?_
              refine WM_skip rfl rfl rfl rfl ?_
              refine WM_skip rfl rfl rfl rfl ?_
              refine WM_skip rfl rfl rfl rfl ?_
              refine WM_skip rfl rfl rfl rfl ?_
              refine WM_skip rfl rfl rfl rfl ?_
              refine WM_skip rfl rfl rfl rfl ?_
              refine WM_val rfl rfl rfl rfl (R_pickF rfl rfl rfl) ?_
              refine WM_nil ?_
              refine WQ_code ?_
              refine WC_F rfl ?_
              refine WC_skip ?_
              refine WQ_code ?_
              refine WC_seq ?_
              refine WC_region ?_
              refine WL_val rfl rfl rfl (R_move rfl rfl) ?_
              refine WL_val rfl rfl rfl (R_move rfl rfl) ?_
              refine WL_do rfl rfl rfl (D_call (po_where v.m hv2 (by omega) (i : Int)) rfl rfl rfl rfl (pqC)) ?_
              rintro _ _ ⟨_, ⟨rfl, rfl⟩, rfl⟩
              refine WL_val rfl rfl rfl (R_move rfl rfl) ?_
              refine WL_val rfl rfl rfl (R_extract rfl rfl rfl) ?_
              refine WL_val rfl rfl rfl (R_extract rfl rfl rfl) ?_
              refine WL_val rfl rfl rfl (R_extract rfl rfl rfl) ?_
              refine WL_do rfl rfl rfl (D_alloc rfl zv30) ?_
              rintro _ _ ⟨b15, rfl, rfl⟩
              refine WL_do0 rfl rfl (D_store (vs := [_, _]) rfl Tryz.sizeOf30 rfl rfl rfl rfl rfl (plC) (by exact Nat.le_of_ble_eq_true rfl)) ?_
              rintro _ _ rfl
              refine WL_val rfl rfl rfl (R_assign rfl rfl) ?_
              refine WL_val rfl rfl rfl (R_assign rfl rfl) ?_
              refine WL_nil ?_
              refine WQ_code ?_
              refine WC_seq ?_
              refine WC_region ?_
              refine WL_val rfl rfl rfl (R_move rfl rfl) ?_
              refine WL_val rfl rfl rfl (R_eql rfl rfl rfl) ?_
              refine WL_set (s := 292) (v := .bool true) rfl (by exact congrArg Value.bool (decide_eq_true hw2)) ?_
              refine WL_val rfl rfl rfl (R_move rfl rfl) ?_
              refine WL_val rfl rfl rfl (R_move rfl rfl) ?_
              refine WL_val rfl rfl rfl (R_loadA (vs := [_, _]) rfl ag30 rfl (mmC) rfl (atZ)) ?_
              refine WL_val rfl rfl rfl (R_move rfl rfl) ?_
              refine WL_do rfl rfl rfl (D_call (po_chk v.m hv2 (by omega) (v.z.whr (i : Int)).1.1.1 (v.z.whr (i : Int)).1.1.2 (v.z.whr (i : Int)).1.2) rfl rfl rfl rfl (pqC)) ?_
              rintro _ _ ⟨_, ⟨rfl, rfl⟩, rfl⟩
              refine WL_val rfl rfl rfl (R_neq rfl rfl rfl) ?_
              refine WL_set (s := 298) (v := .bool false) rfl (by exact congrArg Value.bool (decide_eq_false (fun q => q hck))) ?_
              refine WL_val rfl rfl rfl (R_pickT rfl rfl rfl) ?_
              refine WL_nil ?_
              refine WQ_code ?_
              refine WC_F rfl ?_
              refine WC_skip ?_
              refine WQ_code ?_
              refine WC_region ?_
              refine WL_val rfl rfl rfl (R_move rfl rfl) ?_
              refine WL_val rfl rfl rfl (R_add rfl rfl rfl (by omega)) ?_
              refine WL_val rfl rfl rfl (R_assign rfl rfl) ?_
              refine WL_nil ?_
              refine WQ_nextF (i + 1) (by omega) (by omega) leZ (psZ) rfl (pqC)
          · refine WC_skip ?_
            refine WQ_code ?_
            refine WC_seq ?_
            refine WC_block ?_
            refine WC_seq ?_
            refine WC_region ?_
            refine WL_val rfl rfl rfl (R_move rfl rfl) ?_
            refine WL_val rfl rfl rfl (R_move rfl rfl) ?_
            refine WL_do rfl rfl rfl (D_call (po_state v.m hv2 (by omega) (i : Int)) rfl rfl rfl rfl (pqC)) ?_
            rintro _ _ ⟨_, ⟨rfl, rfl⟩, rfl⟩
            rw [hst9]
            refine WL_val rfl rfl rfl (R_move rfl rfl) ?_
            refine WL_val rfl rfl rfl (R_extract rfl rfl rfl) ?_
            refine WL_val rfl rfl rfl (R_extract rfl rfl rfl) ?_
            refine WL_val rfl rfl rfl (R_assign rfl rfl) ?_
            refine WL_val rfl rfl rfl (R_assign rfl rfl) ?_
            refine WL_nil ?_
            refine WQ_code ?_
            refine WC_seq ?_
            refine WC_seq ?_
            refine WC_draw _ [(0, true), (1, true), (2, true), (3, true), (4, true), (5, true), (6, true), (7, true), (8, true), (9, true), (10, true), (11, true), (12, true), (13, true), (14, true)] followsMixed rfl rfl (by kernel_rfl) .all ?_
            refine WM_val rfl rfl rfl rfl (R_move rfl rfl) ?_
            refine WM_val rfl rfl rfl rfl (R_neq rfl rfl rfl) ?_
            refine WM_set (s := 216) (v := .bool false) rfl (by simp) ?_
            refine WM_val rfl rfl rfl rfl (R_move rfl rfl) ?_
            refine WM_val rfl rfl rfl rfl (R_move rfl rfl) ?_
            refine WM_val rfl rfl rfl rfl (R_move rfl rfl) ?_
            refine WM_call rfl (Spec.quiet (has_ok v.L (i : Int) v.ob v.c v.tl hvo)) rfl rfl rfl rfl rfl rfl rfl (pqC) ?_
            refine WM_set (s := 220) (v := .bool false) rfl (by exact congrArg Value.bool (decide_eq_false hL)) ?_
            refine WM_val rfl rfl rfl rfl (R_move rfl rfl) ?_
            refine WM_val rfl rfl rfl rfl (R_indexAddrAN rfl Tryz.underlying57 Tryz.sizeOf4 rfl rfl (by omega)) ?_
            refine WM_val rfl rfl rfl rfl (R_load (v := .bool (decide ((y.z.whr (i : Int)).2 = 0))) rfl sc4 rfl (mmC) (fm_get0 encB11_1 (upTo_get (fun i => decide ((y.z.whr ((i : Nat) : Int)).2 = 0)) false (i := i) (j := M) (by omega) (by omega)) (j := 0) (by omega))) ?_
            refine WM_set (s := 223) (v := .bool false) rfl (by exact congrArg Value.bool (decide_eq_false hw1)) ?_
            refine WM_val rfl rfl rfl rfl (R_move rfl rfl) ?_
            refine WM_skip rfl rfl rfl rfl ?_
            refine WM_skip rfl rfl rfl rfl ?_
            refine WM_val rfl rfl rfl rfl (R_pickF rfl rfl rfl) ?_
            refine WM_val rfl rfl rfl rfl (R_boolNe rfl Tryz.underlying4 rfl rfl) ?_
            refine WM_set (s := 228) (v := .bool false) rfl (by simp) ?_
            refine WM_val rfl rfl rfl rfl (R_pickF rfl rfl rfl) ?_
            refine WM_nil ?_
            refine WQ_code ?_
            refine WC_F rfl ?_
            refine WC_skip ?_
            refine WQ_code ?_
            refine WC_seq ?_
            refine WC_seq ?_
            refine WC_draw _ [(0, true), (1, true), (2, true), (3, true), (4, true), (5, true), (6, true), (7, true), (8, true), (9, true), (10, true), (11, true), (12, true), (13, true), (14, true), (15, true), (16, true), (17, true), (18, true), (19, true), (20, true), (21, true), (22, true), (23, true), (24, true), (25, true), (26, true), (27, true), (28, true)] followsMixed rfl rfl (by kernel_rfl) .all ?_
            refine WM_val rfl rfl rfl rfl (R_move rfl rfl) ?_
            refine WM_val rfl rfl rfl rfl (R_move rfl rfl) ?_
            refine WM_call rfl (Spec.quiet (has_ok v.L (i : Int) v.ob v.c v.tl hvo)) rfl rfl rfl rfl rfl rfl rfl (pqC) ?_
            refine WM_set (s := 232) (v := .bool false) rfl (by exact congrArg Value.bool (decide_eq_false hL)) ?_
            refine WM_val rfl rfl rfl rfl (R_move rfl rfl) ?_
            refine WM_skip rfl rfl rfl rfl ?_
            refine WM_skip rfl rfl rfl rfl ?_
            refine WM_skip rfl rfl rfl rfl ?_
            refine WM_skip rfl rfl rfl rfl ?_
            refine WM_skip rfl rfl rfl rfl ?_
            refine WM_skip rfl rfl rfl rfl ?_
            refine WM_skip rfl rfl rfl rfl ?_
            refine WM_skip rfl rfl rfl rfl ?_
            refine WM_skip rfl rfl rfl rfl ?_
            refine WM_skip rfl rfl rfl rfl ?_
            refine WM_skip rfl rfl rfl rfl ?_
            refine WM_skip rfl rfl rfl rfl ?_
            refine WM_skip rfl rfl rfl rfl ?_
            refine WM_skip rfl rfl rfl rfl ?_
            refine WM_skip rfl rfl rfl rfl ?_
            refine WM_skip rfl rfl rfl rfl ?_
            refine WM_skip rfl rfl rfl rfl ?_
            refine WM_skip rfl rfl rfl rfl ?_
            refine WM_skip rfl rfl rfl rfl ?_
            refine WM_skip rfl rfl rfl rfl ?_
            refine WM_skip rfl rfl rfl rfl ?_
            refine WM_skip rfl rfl rfl rfl ?_
            refine WM_skip rfl rfl rfl rfl ?_
            refine WM_skip rfl rfl rfl rfl ?_
            refine WM_val rfl rfl rfl rfl (R_pickF rfl rfl rfl) ?_
            refine WM_nil ?_
            refine WQ_code ?_
            refine WC_F rfl ?_
            refine WC_skip ?_
            refine WQ_code ?_
            refine WC_seq ?_
            refine WC_seq ?_
            refine WC_draw _ [(0, true), (1, true), (2, true), (3, true), (4, true), (5, true), (6, true), (7, true), (8, true), (9, true), (10, true), (11, true), (12, true), (13, true), (14, true), (15, true), (16, true), (17, true), (18, true), (19, true), (20, true), (21, true), (22, true), (23, true), (24, true)] followsMixed rfl rfl (by kernel_rfl) .all ?_
            refine WM_val rfl rfl rfl rfl (R_move rfl rfl) ?_
            refine WM_val rfl rfl rfl rfl (R_eql rfl rfl rfl) ?_
            refine WM_val rfl rfl rfl rfl (R_move rfl rfl) ?_
            refine WM_splitD (s := 261) rfl (fun c22 => ?_) (fun c22 => ?_)
            · try (have hcl9 := hcl c22)
              refine WM_val rfl rfl rfl rfl (R_move rfl rfl) ?_
              refine WM_val rfl rfl rfl rfl (R_move rfl rfl) ?_
              refine WM_call rfl (Spec.quiet (has_ok v.L (i : Int) v.ob v.c v.tl hvo)) rfl rfl rfl rfl rfl rfl rfl (pqC) ?_
              refine WM_set (s := 264) (v := .bool false) rfl (by exact congrArg Value.bool (decide_eq_false hL)) ?_
              refine WM_val rfl rfl rfl rfl (R_pickT rfl rfl rfl) ?_
              refine WM_val rfl rfl rfl rfl (R_move rfl rfl) ?_
              refine WM_skip rfl rfl rfl rfl ?_
              refine WM_skip rfl rfl rfl rfl ?_
              refine WM_skip rfl rfl rfl rfl ?_
              refine WM_skip rfl rfl rfl rfl ?_
              refine WM_skip rfl rfl rfl rfl ?_
              refine WM_skip rfl rfl rfl rfl ?_
              refine WM_skip rfl rfl rfl rfl ?_
              refine WM_skip rfl rfl rfl rfl ?_
              refine WM_skip rfl rfl rfl rfl ?_
              refine WM_skip rfl rfl rfl rfl ?_
              refine WM_skip rfl rfl rfl rfl ?_
              refine WM_skip rfl rfl rfl rfl ?_
              refine WM_skip rfl rfl rfl rfl ?_
              refine WM_skip rfl rfl rfl rfl ?_
              refine WM_skip rfl rfl rfl rfl ?_
              refine WM_skip rfl rfl rfl rfl ?_
              refine WM_val rfl rfl rfl rfl (R_pickF rfl rfl rfl) ?_
              refine WM_nil ?_
              refine WQ_code ?_
              refine WC_F rfl ?_
              refine WC_skip ?_
              refine WQ_code ?_
              refine WC_seq ?_
              refine WC_region ?_
              refine WL_val rfl rfl rfl (R_move rfl rfl) ?_
              refine WL_val rfl rfl rfl (R_move rfl rfl) ?_
              refine WL_do rfl rfl rfl (D_call (po_where v.m hv2 (by omega) (i : Int)) rfl rfl rfl rfl (pqC)) ?_
              rintro _ _ ⟨_, ⟨rfl, rfl⟩, rfl⟩
              refine WL_val rfl rfl rfl (R_move rfl rfl) ?_
              refine WL_val rfl rfl rfl (R_extract rfl rfl rfl) ?_
              refine WL_val rfl rfl rfl (R_extract rfl rfl rfl) ?_
              refine WL_val rfl rfl rfl (R_extract rfl rfl rfl) ?_
              refine WL_do rfl rfl rfl (D_alloc rfl zv30) ?_
              rintro _ _ ⟨b16, rfl, rfl⟩
              refine WL_do0 rfl rfl (D_store (vs := [_, _]) rfl Tryz.sizeOf30 rfl rfl rfl rfl rfl (plC) (by exact Nat.le_of_ble_eq_true rfl)) ?_
              rintro _ _ rfl
              refine WL_val rfl rfl rfl (R_assign rfl rfl) ?_
              refine WL_val rfl rfl rfl (R_assign rfl rfl) ?_
              refine WL_nil ?_
              refine WQ_code ?_
              refine WC_seq ?_
              refine WC_region ?_
              refine WL_val rfl rfl rfl (R_move rfl rfl) ?_
              refine WL_val rfl rfl rfl (R_eql rfl rfl rfl) ?_
              refine WL_set (s := 292) (v := .bool false) rfl (by exact congrArg Value.bool (decide_eq_false hw2)) ?_
              refine WL_val rfl rfl rfl (R_move rfl rfl) ?_
              refine WL_skip rfl rfl rfl ?_
              refine WL_skip rfl rfl rfl ?_
              refine WL_skip rfl rfl rfl ?_
              refine WL_skip rfl rfl rfl ?_
              refine WL_skip rfl rfl rfl ?_
              refine WL_val rfl rfl rfl (R_pickF rfl rfl rfl) ?_
              refine WL_nil ?_
              refine WQ_code ?_
              refine WC_F rfl ?_
              refine WC_skip ?_
              refine WQ_code ?_
              refine WC_region ?_
              refine WL_val rfl rfl rfl (R_move rfl rfl) ?_
              refine WL_val rfl rfl rfl (R_add rfl rfl rfl (by omega)) ?_
              refine WL_val rfl rfl rfl (R_assign rfl rfl) ?_
              refine WL_nil ?_
              refine WQ_nextF (i + 1) (by omega) (by omega) leZ (psZ) rfl (pqC)
            · refine WM_skip rfl rfl rfl rfl ?_
              refine WM_skip rfl rfl rfl rfl ?_
              refine WM_skip rfl rfl rfl rfl ?_
              refine WM_val rfl rfl rfl rfl (R_pickF rfl rfl rfl) ?_
              refine WM_val rfl rfl rfl rfl (R_move rfl rfl) ?_
              refine WM_skip rfl rfl rfl rfl ?_
              refine WM_skip rfl rfl rfl rfl ?_
              refine WM_skip rfl rfl rfl rfl ?_
              refine WM_skip rfl rfl rfl rfl ?_
              refine WM_skip rfl rfl rfl rfl ?_
              refine WM_skip rfl rfl rfl rfl ?_
              refine WM_skip rfl rfl rfl rfl ?_
              refine WM_skip rfl rfl rfl rfl ?_
              refine WM_skip rfl rfl rfl rfl ?_
              refine WM_skip rfl rfl rfl rfl ?_
              refine WM_skip rfl rfl rfl rfl ?_
              refine WM_skip rfl rfl rfl rfl ?_
              refine WM_skip rfl rfl rfl rfl ?_
              refine WM_skip rfl rfl rfl rfl ?_
              refine WM_skip rfl rfl rfl rfl ?_
              refine WM_skip rfl rfl rfl rfl ?_
              refine WM_val rfl rfl rfl rfl (R_pickF rfl rfl rfl) ?_
              refine WM_nil ?_
              refine WQ_code ?_
              refine WC_F rfl ?_
              refine WC_skip ?_
              refine WQ_code ?_
              refine WC_seq ?_
              refine WC_region ?_
              refine WL_val rfl rfl rfl (R_move rfl rfl) ?_
              refine WL_val rfl rfl rfl (R_move rfl rfl) ?_
              refine WL_do rfl rfl rfl (D_call (po_where v.m hv2 (by omega) (i : Int)) rfl rfl rfl rfl (pqC)) ?_
              rintro _ _ ⟨_, ⟨rfl, rfl⟩, rfl⟩
              refine WL_val rfl rfl rfl (R_move rfl rfl) ?_
              refine WL_val rfl rfl rfl (R_extract rfl rfl rfl) ?_
              refine WL_val rfl rfl rfl (R_extract rfl rfl rfl) ?_
              refine WL_val rfl rfl rfl (R_extract rfl rfl rfl) ?_
              refine WL_do rfl rfl rfl (D_alloc rfl zv30) ?_
              rintro _ _ ⟨b17, rfl, rfl⟩
              refine WL_do0 rfl rfl (D_store (vs := [_, _]) rfl Tryz.sizeOf30 rfl rfl rfl rfl rfl (plC) (by exact Nat.le_of_ble_eq_true rfl)) ?_
              rintro _ _ rfl
              refine WL_val rfl rfl rfl (R_assign rfl rfl) ?_
              refine WL_val rfl rfl rfl (R_assign rfl rfl) ?_
              refine WL_nil ?_
              refine WQ_code ?_
              refine WC_seq ?_
              refine WC_region ?_
              refine WL_val rfl rfl rfl (R_move rfl rfl) ?_
              refine WL_val rfl rfl rfl (R_eql rfl rfl rfl) ?_
              refine WL_set (s := 292) (v := .bool false) rfl (by exact congrArg Value.bool (decide_eq_false hw2)) ?_
              refine WL_val rfl rfl rfl (R_move rfl rfl) ?_
              refine WL_skip rfl rfl rfl ?_
              refine WL_skip rfl rfl rfl ?_
              refine WL_skip rfl rfl rfl ?_
              refine WL_skip rfl rfl rfl ?_
              refine WL_skip rfl rfl rfl ?_
              refine WL_val rfl rfl rfl (R_pickF rfl rfl rfl) ?_
              refine WL_nil ?_
              refine WQ_code ?_
              refine WC_F rfl ?_
              refine WC_skip ?_
              refine WQ_code ?_
              refine WC_region ?_
              refine WL_val rfl rfl rfl (R_move rfl rfl) ?_
              refine WL_val rfl rfl rfl (R_add rfl rfl rfl (by omega)) ?_
              refine WL_val rfl rfl rfl (R_assign rfl rfl) ?_
              refine WL_nil ?_
              refine WQ_nextF (i + 1) (by omega) (by omega) leZ (psZ) rfl (pqC)
        · refine WC_exit ?_
          refine WQ_code ?_
          refine WC_region ?_
          refine WL_val rfl rfl rfl (R_add rfl rfl rfl (by omega)) ?_
          refine WL_val rfl rfl rfl (R_move rfl rfl) ?_
          refine WL_nil ?_
          refine WQ_nextF (⟨y.k + 1, v.N, v.z, v.m⟩) (⟨by dsimp only; omega, hv2, by dsimp only; omega, rfl, hpost.inv, hpost.len.trans hsl⟩) (by dsimp only; omega) leZ (psZ) rfl (pqC)
  · refine WC_exit ?_
    refine WQ_code ?_
    refine WC_seq ?_
    refine WC_region ?_
    refine WL_do rfl rfl rfl (D_call (known_ok) rfl rfl rfl rfl (pqC)) ?_
    rintro _ _ ⟨_, ⟨rfl, rfl⟩, rfl⟩
    refine WL_val rfl rfl rfl (R_assign rfl rfl) ?_
    refine WL_nil ?_
    refine WQ_code ?_
    refine WC_ret ?_
    refine WQ_ret rfl rfl (.cons (.tmp rfl) .nil) rfl (by
        exact ⟨rfl, rfl⟩) (pqC)
end Go.Proofs.YtbkdebnkoidicaaGreat
end
