/-
  Chapter 46 (pool), part Que: contracts of functions that the laws call, each for the heap it names.
-/
import Derived.Test.YteofigbgdbpjgaaRows
import Derived.Test.YteofigbgdbpjgaaZB
import Derived.Test.YteofigbgdbpjgaaSLMapJ
import Derived.Test.YteofigbgdbpjgaaSLScope
import Derived.Test.YteofigbgdbpjgaaTab
import Derived.Test.YteofigbgdbpjgaaQueL
import Derived.Test.YteofigbgdbpjgaaKnown
set_option linter.unusedVariables false
set_option maxRecDepth 20000
set_option maxHeartbeats 4000000
namespace Go.Proofs.Yteofigbgdbpjgaa

theorem i64_in9 {n : Int} (h : 0 ≤ n ∧ n ≤ 9223372036854775807) : IntKind.i64.wrap n = n := IntWalk.i64_in n (by omega)

theorem queues_ok (many : Nat) (hm : many ≤ 255) (good : Bool) : Spec Try.prog 3 [.int .u8 (many : Int), .bool good] [] (fun r H' => r = .bool true ∧ H' = []) := by
  refine Spec.of (E := [(0, .int .u8 (many : Int)), (1, .bool good)]) Try.func3 rfl (by kernel_rfl) Try.ntmps3 rfl rfl (fun w => ?_)
  refine WC_seq ?_
  refine WC_region ?_
  refine WL_val rfl rfl rfl (R_assign rfl rfl) ?_
  refine WL_nil ?_
  refine WQ_code ?_
  refine WC_seq ?_
  refine WC_seq ?_
  refine WC_region ?_
  refine WL_val rfl rfl rfl (R_move rfl rfl) ?_
  refine WL_val rfl rfl rfl (R_gtr rfl rfl rfl) ?_
  refine WL_nil ?_
  refine WQ_code ?_
  refine WC_dec rfl (fun c1 => ?_) (fun c1 => ?_)
  · refine WC_seq ?_
    refine WC_region ?_
    refine WL_do rfl rfl rfl (D_call (known_ok) rfl rfl rfl rfl (pqZ)) ?_
    rintro _ _ ⟨_, ⟨rfl, rfl⟩, rfl⟩
    refine WL_val rfl rfl rfl (R_assign rfl rfl) ?_
    refine WL_nil ?_
    refine WQ_code ?_
    refine WC_ret ?_
    refine WQ_ret rfl rfl (.cons (.tmp rfl) .nil) rfl (by
        exact ⟨rfl, rfl⟩) (pqZ)
  · have hm2 : many ≤ 200 := by omega
    refine WC_skip ?_
    refine WQ_code ?_
    refine WC_seq ?_
    refine WC_region ?_
    refine WL_do rfl rfl rfl (D_call (pnew_ok 1 0 18446744073709551615 (by decide) (by decide) (by decide)) rfl rfl rfl rfl (pqZ)) ?_
    rintro _ _ ⟨_, ⟨m0, rfl, rfl, g0⟩, rfl⟩
    rw [q_new] at g0 ⊢
    refine WL_val rfl rfl rfl (R_move rfl rfl) ?_
    refine WL_val rfl rfl rfl (R_extract rfl rfl rfl) ?_
    refine WL_val rfl rfl rfl (R_extract rfl rfl rfl) ?_
    refine WL_val rfl rfl rfl (R_assign rfl rfl) ?_
    refine WL_val rfl rfl rfl (R_assign rfl rfl) ?_
    refine WL_nil ?_
    refine WQ_code ?_
    refine WC_seq ?_
    refine WC_seq ?_
    refine WC_region ?_
    refine WL_val rfl rfl rfl (R_move rfl rfl) ?_
    refine WL_val rfl rfl rfl (R_ptrEqNil rfl Try.underlying23 rfl) ?_
    refine WL_set (s := 17) (v := .bool false) rfl (by rfl) ?_
    refine WL_val rfl rfl rfl (R_move rfl rfl) ?_
    refine WL_val rfl rfl rfl (R_move rfl rfl) ?_
    refine WL_val rfl rfl rfl (R_neq rfl rfl rfl) ?_
    refine WL_val rfl rfl rfl (R_pickF rfl rfl rfl) ?_
    refine WL_val rfl rfl rfl (R_move rfl rfl) ?_
    refine WL_set (s := 22) (v := .bool false) rfl (by simp) ?_
    refine WL_val rfl rfl rfl (R_move rfl rfl) ?_
    refine WL_do rfl rfl rfl (D_call (gets_ok g0 (Nat.le_of_ble_eq_true rfl) (Nat.le_of_ble_eq_true rfl) 0 0 18446744073709551615 (Nat.le_of_ble_eq_true rfl) 2 0 q_first.1 q_first.2.1) rfl rfl rfl rfl (pqZ)) ?_
    rintro _ _ ⟨_, ⟨m1, rfl, rfl, p1, g1⟩, rfl⟩
    rw [q_first.2.2] at g1 ⊢
    rw [← p1]
    refine WL_val rfl rfl rfl (R_not rfl rfl) ?_
    refine WL_val rfl rfl rfl (R_pickF rfl rfl rfl) ?_
    refine WL_nil ?_
    refine WQ_code ?_
    refine WC_F rfl ?_
    refine WC_skip ?_
    refine WQ_code ?_
    refine WC_seq ?_
    refine WC_seq ?_
    refine WC_region ?_
    refine WL_val rfl rfl rfl (R_assign rfl rfl) ?_
    refine WL_nil ?_
    refine WQ_code ?_
    refine WC_block ?_
    refine WC_loopF (G := QuW) [4, 7, 27, 28, 29, 30, 31, 32, 33, 34, 35, 36] (fun y => y.i ≤ many ∧ PIs y.m (qS ⟨1, 0, 0⟩ (wQ 0 y.i) y.i []) ∧ y.m.p = m1.p) (fun y => [(7, .int .i64 ((y.i + 1 : Nat) : Int))]) (fun y => poH y.m (qS ⟨1, 0, 0⟩ (wQ 0 y.i) y.i [])) (fun y => many - y.i) (⟨0, m1⟩) (⟨Nat.zero_le _, g1, rfl⟩) leZ (pqZ) ?_
    rintro y ⟨hy, gy, hyp⟩
    rw [← hyp]
    refine WC_seq ?_
    refine WC_seq ?_
    refine WC_region ?_
    refine WL_val rfl rfl rfl (R_move rfl rfl) ?_
    refine WL_val rfl rfl rfl (R_move rfl rfl) ?_
    refine WL_val rfl rfl rfl (R_conv (r := (many : Int)) rfl Try.underlying5 Try.underlying3 rfl (i64_in9 (by omega))) ?_
    refine WL_val rfl rfl rfl (R_leq rfl rfl rfl) ?_
    refine WL_nil ?_
    refine WQ_code ?_
    refine WC_dec rfl (fun c2 => ?_) (fun c2 => ?_)
    · refine WC_skip ?_
      refine WQ_code ?_
      refine WC_seq ?_
      refine WC_block ?_
      refine WC_seq ?_
      refine WC_region ?_
      refine WL_val rfl rfl rfl (R_move rfl rfl) ?_
      refine WL_val rfl rfl rfl (R_move rfl rfl) ?_
      refine WL_do rfl rfl rfl (D_call (gets_ok gy (by show 0 ≤ _; omega) (by show y.i < _; omega) ((y.i + 1 : Nat) : Int) 0 18446744073709551615 (Nat.le_of_ble_eq_true rfl) 3 (-1) (q_wait y.i (by omega)).1 (q_wait y.i (by omega)).2.1) rfl rfl rfl rfl (pqZ)) ?_
      rintro _ _ ⟨_, ⟨m2, rfl, rfl, p2, g2⟩, rfl⟩
      rw [(q_wait y.i (by omega)).2.2] at g2 ⊢
      rw [← p2]
      refine WL_val rfl rfl rfl (R_not rfl rfl) ?_
      refine WL_nil ?_
      refine WQ_code ?_
      refine WC_F rfl ?_
      refine WC_skip ?_
      refine WQ_code ?_
      refine WC_region ?_
      refine WL_val rfl rfl rfl (R_move rfl rfl) ?_
      refine WL_val rfl rfl rfl (R_add rfl rfl rfl (by omega)) ?_
      refine WL_val rfl rfl rfl (R_assign rfl rfl) ?_
      refine WL_nil ?_
      refine WQ_nextF (⟨y.i + 1, m2⟩) (⟨by dsimp only; omega, g2, by first | rfl | exact p2⟩) (by dsimp only; omega) leZ (psZ) rfl (pqZ)
    · have hym : y.i = many := by omega
      rw [hym] at gy ⊢
      refine WC_exit ?_
      refine WQ_code ?_
      refine WC_seq ?_
      refine WC_seq ?_
      refine WC_region ?_
      refine WL_val rfl rfl rfl (R_move rfl rfl) ?_
      refine WL_do rfl rfl rfl (D_call (pdialed_ok gy (by show 0 ≤ _; omega) 0 true 0 (Nat.le_of_ble_eq_true rfl)) rfl rfl rfl rfl (pqZ)) ?_
      rintro _ _ ⟨_, ⟨m3, rfl, rfl, p3, g3⟩, rfl⟩
      rw [(q_made _ _ _).2] at g3 ⊢
      rw [(q_made _ _ _).1, ← p3]
      refine WL_val rfl rfl rfl (R_neq rfl rfl rfl) ?_
      refine WL_val rfl rfl rfl (R_move rfl rfl) ?_
      refine WL_set (s := 40) (v := .bool false) rfl (by simp) ?_
      refine WL_val rfl rfl rfl (R_move rfl rfl) ?_
      refine WL_do rfl rfl rfl (D_call (pcounts_ok g3) rfl rfl rfl rfl (pqZ)) ?_
      rintro _ _ ⟨_, ⟨rfl, rfl⟩, rfl⟩
      refine WL_val rfl rfl rfl (R_move rfl rfl) ?_
      refine WL_val rfl rfl rfl (R_conv (r := (many : Int)) rfl Try.underlying5 Try.underlying3 rfl (i64_in9 (by omega))) ?_
      refine WL_val rfl rfl rfl (R_build rfl zv33 pl33 rfl rfl) ?_
      refine WL_val rfl rfl rfl (R_sne33 rfl rfl rfl rfl) ?_
      refine WL_set (s := 46) (v := .bool false) rfl (by exact congrArg Value.bool (decide_eq_false (by rw [(q_cnt _ _).1, (q_cnt _ _).2.1, (q_cnt _ _).2.2, wQ_len]; simp))) ?_
      refine WL_val rfl rfl rfl (R_pickF rfl rfl rfl) ?_
      refine WL_nil ?_
      refine WQ_code ?_
      refine WC_F rfl ?_
      refine WC_skip ?_
      refine WQ_code ?_
      refine WC_seq ?_
      refine WC_seq ?_
      refine WC_region ?_
      refine WL_val rfl rfl rfl (R_assign rfl rfl) ?_
      refine WL_nil ?_
      refine WQ_code ?_
      refine WC_block ?_
      refine WC_loopF (G := QuW) [4, 8, 48, 49, 50, 51, 52, 53, 54, 55, 56, 57, 58, 59, 60, 61, 62, 63, 64, 65, 66, 67, 68, 69, 70, 71, 72, 73, 74, 75, 76] (fun z => z.i ≤ many ∧ PIs z.m (qS ⟨2, 0, 0⟩ (wQ z.i many) many []) ∧ z.m.p = m3.p) (fun z => [(8, .int .i64 ((z.i + 1 : Nat) : Int))]) (fun z => poH z.m (qS ⟨2, 0, 0⟩ (wQ z.i many) many [])) (fun z => many - z.i) (⟨0, m3⟩) (⟨Nat.zero_le _, g3, rfl⟩) leZ (pqZ) ?_
      rintro z ⟨hz, gz, hzp⟩
      rw [← hzp]
      refine WC_seq ?_
      refine WC_seq ?_
      refine WC_region ?_
      refine WL_val rfl rfl rfl (R_move rfl rfl) ?_
      refine WL_val rfl rfl rfl (R_move rfl rfl) ?_
      refine WL_val rfl rfl rfl (R_conv (r := (many : Int)) rfl Try.underlying5 Try.underlying3 rfl (i64_in9 (by omega))) ?_
      refine WL_val rfl rfl rfl (R_leq rfl rfl rfl) ?_
      refine WL_nil ?_
      refine WQ_code ?_
      refine WC_dec rfl (fun c3 => ?_) (fun c3 => ?_)
      · have hzl : z.i < many := by omega
        rw [wQ_cons hzl] at gz ⊢
        refine WC_skip ?_
        refine WQ_code ?_
        refine WC_seq ?_
        refine WC_block ?_
        refine WC_seq ?_
        refine WC_seq ?_
        refine WC_region ?_
        refine WL_val rfl rfl rfl (R_move rfl rfl) ?_
        refine WL_val rfl rfl rfl (R_move rfl rfl) ?_
        refine WL_do rfl rfl rfl (D_call (pput_ok gz (by show 0 ≤ _; omega) 0 good 0 (Nat.le_of_ble_eq_true rfl)) rfl rfl rfl rfl (pqZ)) ?_
        rintro _ _ ⟨_, ⟨m4, rfl, rfl, p4, g4⟩, rfl⟩
        rw [q_put, ← p4]
        refine WL_val rfl rfl rfl (R_neq rfl rfl rfl) ?_
        refine WL_nil ?_
        refine WQ_code ?_
        refine WC_dF rfl (by simp) ?_
        refine WC_skip ?_
        refine WQ_code ?_
        refine WC_seq ?_
        refine WC_region ?_
        refine WL_val rfl rfl rfl (R_move rfl rfl) ?_
        refine WL_nil ?_
        refine WQ_code ?_
        refine WC_if rfl (fun c4 => ?_) (fun c4 => ?_)
        · subst c4
          rw [q_good] at g4 ⊢
          refine WC_seq ?_
          refine WC_region ?_
          refine WL_val rfl rfl rfl (R_move rfl rfl) ?_
          refine WL_val rfl rfl rfl (R_move rfl rfl) ?_
          refine WL_do rfl rfl rfl (D_call (tells_ok g4 1 ((z.i + 1 : Nat) : Int) 0 rfl) rfl rfl rfl rfl (pqZ)) ?_
          rintro _ _ ⟨_, ⟨m5, rfl, rfl, p5, g5⟩, rfl⟩
          rw [← p5]
          refine WL_val rfl rfl rfl (R_not rfl rfl) ?_
          refine WL_nil ?_
          refine WQ_code ?_
          refine WC_F rfl ?_
          refine WC_skip ?_
          refine WQ_code ?_
          refine WC_region ?_
          refine WL_val rfl rfl rfl (R_move rfl rfl) ?_
          refine WL_val rfl rfl rfl (R_add rfl rfl rfl (by omega)) ?_
          refine WL_val rfl rfl rfl (R_assign rfl rfl) ?_
          refine WL_nil ?_
          refine WQ_nextF (⟨z.i + 1, m5⟩) (⟨by dsimp only; omega, g5, by first | rfl | exact p5⟩) (by dsimp only; omega) leZ (psZ) rfl (pqZ)
        · subst c4
          rw [q_bad] at g4 ⊢
          refine WC_seq ?_
          refine WC_region ?_
          refine WL_val rfl rfl rfl (R_move rfl rfl) ?_
          refine WL_do rfl rfl rfl (D_call (tells_ok g4 5 (-1) 0 rfl) rfl rfl rfl rfl (pqZ)) ?_
          rintro _ _ ⟨_, ⟨m5, rfl, rfl, p5, g5⟩, rfl⟩
          rw [← p5]
          refine WL_val rfl rfl rfl (R_not rfl rfl) ?_
          refine WL_val rfl rfl rfl (R_move rfl rfl) ?_
          refine WL_val rfl rfl rfl (R_move rfl rfl) ?_
          refine WL_val rfl rfl rfl (R_move rfl rfl) ?_
          refine WL_do rfl rfl rfl (D_call (tells_ok g5 2 ((z.i + 1 : Nat) : Int) 0 rfl) rfl rfl rfl rfl (pqZ)) ?_
          rintro _ _ ⟨_, ⟨m6, rfl, rfl, p6, g6⟩, rfl⟩
          rw [← p6]
          refine WL_val rfl rfl rfl (R_not rfl rfl) ?_
          refine WL_val rfl rfl rfl (R_pickF rfl rfl rfl) ?_
          refine WL_val rfl rfl rfl (R_move rfl rfl) ?_
          refine WL_val rfl rfl rfl (R_move rfl rfl) ?_
          refine WL_do rfl rfl rfl (D_call (pdialed_ok g6 (by show 0 ≤ _; omega) 0 true 0 (Nat.le_of_ble_eq_true rfl)) rfl rfl rfl rfl (pqZ)) ?_
          rintro _ _ ⟨_, ⟨m7, rfl, rfl, p7, g7⟩, rfl⟩
          rw [show (PS.nx (PS.nx (qS ⟨1, ((z.i + 1 : Nat) : Int), 0⟩ (wQ (z.i + 1) many) many [⟨5, -1, 0⟩, ⟨2, ((z.i + 1 : Nat) : Int), 0⟩]))) = qS ⟨1, ((z.i + 1 : Nat) : Int), 0⟩ (wQ (z.i + 1) many) many [] from rfl, (q_made _ _ _).2] at g7 ⊢
          rw [(q_made _ _ _).1, ← p7]
          refine WL_val rfl rfl rfl (R_neq rfl rfl rfl) ?_
          refine WL_val rfl rfl rfl (R_pickF rfl rfl rfl) ?_
          refine WL_nil ?_
          refine WQ_code ?_
          refine WC_dF rfl (by simp) ?_
          refine WC_skip ?_
          refine WQ_code ?_
          refine WC_region ?_
          refine WL_val rfl rfl rfl (R_move rfl rfl) ?_
          refine WL_val rfl rfl rfl (R_add rfl rfl rfl (by omega)) ?_
          refine WL_val rfl rfl rfl (R_assign rfl rfl) ?_
          refine WL_nil ?_
          refine WQ_nextF (⟨z.i + 1, m7⟩) (⟨by dsimp only; omega, g7, by first | rfl | exact p7⟩) (by dsimp only; omega) leZ (psZ) rfl (pqZ)
      · have hzm : z.i = many := by omega
        refine WC_exit ?_
        refine WQ_code ?_
        refine WC_seq ?_
        refine WC_region ?_
        refine WL_val rfl rfl rfl (R_move rfl rfl) ?_
        refine WL_do rfl rfl rfl (D_call (pput_ok gz (by show 0 ≤ _; omega) 0 true 0 (Nat.le_of_ble_eq_true rfl)) rfl rfl rfl rfl (pqZ)) ?_
        rintro _ _ ⟨_, ⟨m4, rfl, rfl, p4, g4⟩, rfl⟩
        rw [hzm, wQ_self, q_last] at g4 ⊢
        rw [q_put, ← p4]
        refine WL_val rfl rfl rfl (R_eql rfl rfl rfl) ?_
        refine WL_val rfl rfl rfl (R_move rfl rfl) ?_
        refine WL_set (s := 80) (v := .bool true) rfl (by simp) ?_
        refine WL_val rfl rfl rfl (R_move rfl rfl) ?_
        refine WL_do rfl rfl rfl (D_call (tells_ok g4 5 (-1) 0 rfl) rfl rfl rfl rfl (pqZ)) ?_
        rintro _ _ ⟨_, ⟨m5, rfl, rfl, p5, g5⟩, rfl⟩
        rw [← p5]
        rw [show (qS ⟨0, 0, 0⟩ [] many [⟨5, -1, 0⟩]).nx = qS ⟨0, 0, 0⟩ [] many [] from rfl] at g5 ⊢
        refine WL_val rfl rfl rfl (R_pickT rfl rfl rfl) ?_
        refine WL_val rfl rfl rfl (R_move rfl rfl) ?_
        refine WL_val rfl rfl rfl (R_move rfl rfl) ?_
        refine WL_do rfl rfl rfl (D_call (pcounts_ok g5) rfl rfl rfl rfl (pqZ)) ?_
        rintro _ _ ⟨_, ⟨rfl, rfl⟩, rfl⟩
        refine WL_val rfl rfl rfl (R_build rfl zv33 pl33 rfl rfl) ?_
        refine WL_val rfl rfl rfl (R_seq33 rfl rfl rfl rfl) ?_
        refine WL_set (s := 88) (v := .bool true) rfl (by exact congrArg Value.bool (decide_eq_true (by rw [(q_cnt0 _).1, (q_cnt0 _).2.1, (q_cnt0 _).2.2]; exact ⟨rfl, rfl, rfl, rfl⟩))) ?_
        refine WL_val rfl rfl rfl (R_pickT rfl rfl rfl) ?_
        refine WL_val rfl rfl rfl (R_move rfl rfl) ?_
        refine WL_do rfl rfl rfl (D_call (known_ok) rfl rfl rfl rfl (pqZ)) ?_
        rintro _ _ ⟨_, ⟨rfl, rfl⟩, rfl⟩
        refine WL_val rfl rfl rfl (R_pickT rfl rfl rfl) ?_
        refine WL_val rfl rfl rfl (R_assign rfl rfl) ?_
        refine WL_nil ?_
        refine WQ_code ?_
        refine WC_ret ?_
        refine WQ_ret rfl rfl (.cons (.tmp rfl) .nil) rfl (by
            exact ⟨rfl, rfl⟩) (pqZ)

end Go.Proofs.Yteofigbgdbpjgaa
