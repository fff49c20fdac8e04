/-
  Chapter 09 (park), part RefB: contracts of functions that the laws call, each for the heap it names.
-/
import Derived.Test.YtljmeemgjbcgeaaRows
import Derived.Test.YtljmeemgjbcgeaaZSLQueue
import Derived.Test.YtljmeemgjbcgeaaTab
import Derived.Test.YtljmeemgjbcgeaaRefA
set_option linter.unusedVariables false
set_option maxRecDepth 20000
set_option maxHeartbeats 1000000
namespace Go.Proofs.Ytljmeemgjbcgeaa


theorem rf_new_bad (m : Int) (h : m < 1 ∨ 64 < m) : Spec Try.prog 24 [.int .i64 m] [] (fun r H' => r = .tuple #[.agg #[slV none 0 0, slV none 0 0, slV none 0 0], .int .i64 2] ∧ H' = []) := by
  refine Spec.of (E := [(0, .int .i64 m)]) Try.func24 rfl (by kernel_rfl) Try.ntmps24 rfl rfl (fun w => ?_)
  refine WC_seq ?_
  refine WC_region ?_
  refine WL_do rfl rfl rfl (D_alloc rfl zv57) ?_
  rintro _ _ ⟨b1, rfl, rfl⟩
  refine WL_val rfl rfl rfl (R_assign rfl rfl) ?_
  refine WL_nil ?_
  refine WQ_code ?_
  refine WC_seq ?_
  refine WC_region ?_
  refine WL_val rfl rfl rfl (R_move rfl rfl) ?_
  refine WL_do rfl rfl rfl (D_call (rnew_bad m h) rfl rfl rfl rfl (pqY)) ?_
  rintro _ _ ⟨_, ⟨V, rfl, rfl, rfl⟩, rfl⟩
  refine WL_val rfl rfl rfl (R_move rfl rfl) ?_
  refine WL_val rfl rfl rfl (R_extract rfl rfl rfl) ?_
  refine WL_val rfl rfl rfl (R_extract rfl rfl rfl) ?_
  refine WL_do rfl rfl rfl (D_alloc rfl zv54) ?_
  rintro _ _ ⟨b2, rfl, rfl⟩
  refine WL_do0 rfl rfl (D_store (vs := [_, _]) rfl Try.sizeOf54 rfl rfl rfl rfl rfl (plY) (by exact Nat.le_of_ble_eq_true rfl)) ?_
  rintro _ _ rfl
  refine WL_val rfl rfl rfl (R_assign rfl rfl) ?_
  refine WL_nil ?_
  refine WQ_code ?_
  refine WC_seq ?_
  refine WC_region ?_
  refine WL_val rfl rfl rfl (R_loadA (vs := [_, _]) rfl ag54 rfl (mmY) rfl (atZ)) ?_
  refine WL_val rfl rfl rfl (R_build rfl zv57 pl57 rfl rfl) ?_
  refine WL_val rfl rfl rfl (R_move rfl rfl) ?_
  refine WL_do0 rfl rfl (D_store (vs := [_, _, _]) rfl Try.sizeOf57 rfl rfl rfl rfl rfl (plY) (by exact Nat.le_of_ble_eq_true rfl)) ?_
  rintro _ _ rfl
  refine WL_val rfl rfl rfl (R_assign rfl rfl) ?_
  refine WL_nil ?_
  refine WQ_code ?_
  refine WC_ret ?_
  refine WQ_ret rfl rfl (.cons (.cell (vs := [_, _, _]) rfl ag57 (mmY) rfl (atZ)) (.cons (.tmp rfl) .nil)) rfl (by
      exact ⟨rfl, rfl⟩) (pqY)
theorem rf_new (m : Nat) (h1 : 1 ≤ m) (h2 : m ≤ 64) : Spec Try.prog 24 [.int .i64 (m : Int)] [] (fun r H' => ∃ r' : RfM, r = .tuple #[rfV ⟨List.replicate m 0, [], []⟩ r', .int .i64 0] ∧ H' = rfH ⟨List.replicate m 0, [], []⟩ r' ∧ RfOk ⟨List.replicate m 0, [], []⟩ r') := by
  refine Spec.of (E := [(0, .int .i64 (m : Int))]) Try.func24 rfl (by kernel_rfl) Try.ntmps24 rfl rfl (fun w => ?_)
  refine WC_seq ?_
  refine WC_region ?_
  refine WL_do rfl rfl rfl (D_alloc rfl zv57) ?_
  rintro _ _ ⟨b1, rfl, rfl⟩
  refine WL_val rfl rfl rfl (R_assign rfl rfl) ?_
  refine WL_nil ?_
  refine WQ_code ?_
  refine WC_seq ?_
  refine WC_region ?_
  refine WL_val rfl rfl rfl (R_move rfl rfl) ?_
  refine WL_do rfl rfl rfl (D_call (rnew_ok m h1 h2) rfl rfl rfl rfl (pqY)) ?_
  rintro _ _ ⟨_, ⟨V, rfl, os, sc, ts, oq, qc, tq, rfl, hos, hoq, rfl⟩, rfl⟩
  refine WL_val rfl rfl rfl (R_move rfl rfl) ?_
  refine WL_val rfl rfl rfl (R_extract rfl rfl rfl) ?_
  refine WL_val rfl rfl rfl (R_extract rfl rfl rfl) ?_
  refine WL_do rfl rfl rfl (D_alloc rfl zv54) ?_
  rintro _ _ ⟨b2, rfl, rfl⟩
  refine WL_do0 rfl rfl (D_store (vs := [_, _]) rfl Try.sizeOf54 rfl rfl rfl rfl rfl (plY) (by exact Nat.le_of_ble_eq_true rfl)) ?_
  rintro _ _ rfl
  refine WL_val rfl rfl rfl (R_assign rfl rfl) ?_
  refine WL_nil ?_
  refine WQ_code ?_
  refine WC_seq ?_
  refine WC_region ?_
  refine WL_val rfl rfl rfl (R_loadA (vs := [_, _]) rfl ag54 rfl (mmY) rfl (atZ)) ?_
  refine WL_val rfl rfl rfl (R_build rfl zv57 pl57 rfl rfl) ?_
  refine WL_val rfl rfl rfl (R_move rfl rfl) ?_
  refine WL_do0 rfl rfl (D_store (vs := [_, _, _]) rfl Try.sizeOf57 rfl rfl rfl rfl rfl (plY) (by exact Nat.le_of_ble_eq_true rfl)) ?_
  rintro _ _ rfl
  refine WL_val rfl rfl rfl (R_assign rfl rfl) ?_
  refine WL_nil ?_
  refine WQ_code ?_
  refine WC_ret ?_
  refine WQ_none 100 ?_
  refine WQ_ret rfl rfl (.cons (.cell (vs := [_, _, _]) rfl ag57 (mmY) rfl (atZ)) (.cons (.tmp rfl) .nil)) rfl (by
      exact ⟨⟨os, sc, ts, oq, qc, tq, none, 0, []⟩, rfl, rfl, hos, hoq, Own.empty 3⟩) (pqY)

theorem rf_start (s : PS) (r : RfM) (hr : RfOk s r) (hs : s.sm.length ≤ 64) (hroom : s.qm.length + s.W.length ≤ 64) (i : Int) : Spec Try.prog 44 [rfV s r, .int .i64 i] (rfH s r) (fun v H' => ∃ r' : RfM, v = .tuple #[rfV (s.step 0 1 i) r', .int .i64 (stepR s.sm s.qm 0 1 i).1] ∧ H' = rfH (s.step 0 1 i) r' ∧ RfOk (s.step 0 1 i) r') := by
  by_cases h : (stepR s.sm s.qm 0 1 i).1 = 0
  · refine Spec.of (E := [(0, rfV s r), (1, .int .i64 i)]) Try.func44 rfl (by kernel_rfl) Try.ntmps44 rfl rfl (fun w => ?_)
    refine WC_seq ?_
    refine WC_region ?_
    refine WL_do rfl rfl rfl (D_box (cs := [_, _, _]) rfl rfl rfl) ?_
    rintro _ _ ⟨b1, rfl, rfl⟩
    refine WL_do rfl rfl rfl (D_alloc rfl zv57) ?_
    rintro _ _ ⟨b2, rfl, rfl⟩
    refine WL_val rfl rfl rfl (R_assign rfl rfl) ?_
    refine WL_nil ?_
    refine WQ_code ?_
    refine WC_seq ?_
    refine WC_drawR (⟨some b2, _⟩ :: rH r.os s.sm r.ts r.oq s.qm r.tq) [(0, true), (1, true), (2, true), (3, true), (4, false), (5, true), (6, true), (7, false), (8, true), (9, true), (10, false), (11, true)] followsMixed rfl rfl (by kernel_rfl) (pqY) ?_
    refine WM_val rfl rfl rfl rfl (R_loadA (vs := [_, _, _]) rfl ag57 rfl (mmY) rfl (atZ)) ?_
    refine WM_val rfl rfl rfl rfl (R_fieldAddr rfl fa57_0 rfl) ?_
    refine WM_val rfl rfl rfl rfl (R_loadA (vs := [_, _]) rfl ag54 rfl (mmY) rfl (atZ)) ?_
    refine WM_val rfl rfl rfl rfl (R_move rfl rfl) ?_
    refine WM_do rfl rfl rfl rfl (D_call (rstart_ok s.sm s.qm r.os r.sc r.ts r.oq r.qc r.tq hr.os hr.oq hs (by omega) i) rfl rfl rfl rfl (pqY)) ?_
    rintro _ _ ⟨_, ⟨V', rfl, os', sc', ts', oq', qc', tq', rfl, hos', hoq', rfl⟩, rfl⟩
    refine ⟨⟨_, pqY⟩, ?_⟩
    rw [h]
    refine WM_val rfl rfl rfl rfl (R_extract rfl rfl rfl) ?_
    refine WM_val rfl rfl rfl rfl (R_extract rfl rfl rfl) ?_
    refine WM_do rfl rfl rfl rfl (D_call (with_ok _ _ _ _ _ _ _ _ _ _ _ _ _ _ _) rfl rfl rfl rfl (pqY)) ?_
    rintro _ _ ⟨_, ⟨rfl, rfl⟩, rfl⟩
    refine ⟨⟨_, pqY⟩, ?_⟩
    refine WM_val rfl rfl rfl rfl (R_extract rfl rfl rfl) ?_
    refine WM_val rfl rfl rfl rfl (R_extract rfl rfl rfl) ?_
    refine WM_do0 rfl rfl rfl (D_store (vs := [_, _, _]) rfl Try.sizeOf57 rfl rfl rfl rfl rfl (plY) (by exact Nat.le_of_ble_eq_true rfl)) ?_
    rintro _ _ rfl
    refine ⟨⟨_, pqY⟩, ?_⟩
    refine WM_val rfl rfl rfl rfl (R_assign rfl rfl) ?_
    refine WM_nil ?_
    refine WQ_code ?_
    refine WC_ret ?_
    refine WQ_ret rfl rfl (.cons (.cell (vs := [_, _, _]) rfl ag57 (mmY) rfl (atZ)) (.cons (.tmp rfl) .nil)) rfl (by
        exact ⟨⟨os', sc', ts', oq', qc', tq', r.ow, r.wc, r.tw⟩, rfl, rfl, hos', hoq', hr.ow⟩) (pqY)
  · rw [step_same h]
    refine Spec.of (E := [(0, rfV s r), (1, .int .i64 i)]) Try.func44 rfl (by kernel_rfl) Try.ntmps44 rfl rfl (fun w => ?_)
    refine WC_seq ?_
    refine WC_region ?_
    refine WL_do rfl rfl rfl (D_box (cs := [_, _, _]) rfl rfl rfl) ?_
    rintro _ _ ⟨b1, rfl, rfl⟩
    refine WL_do rfl rfl rfl (D_alloc rfl zv57) ?_
    rintro _ _ ⟨b2, rfl, rfl⟩
    refine WL_val rfl rfl rfl (R_assign rfl rfl) ?_
    refine WL_nil ?_
    refine WQ_code ?_
    refine WC_seq ?_
    refine WC_drawR (⟨some b2, _⟩ :: rH r.os s.sm r.ts r.oq s.qm r.tq) [(0, true), (1, true), (2, true), (3, true), (4, false), (5, true), (6, true), (7, false), (8, true), (9, true), (10, false), (11, true)] followsMixed rfl rfl (by kernel_rfl) (pqY) ?_
    refine WM_val rfl rfl rfl rfl (R_loadA (vs := [_, _, _]) rfl ag57 rfl (mmY) rfl (atZ)) ?_
    refine WM_val rfl rfl rfl rfl (R_fieldAddr rfl fa57_0 rfl) ?_
    refine WM_val rfl rfl rfl rfl (R_loadA (vs := [_, _]) rfl ag54 rfl (mmY) rfl (atZ)) ?_
    refine WM_val rfl rfl rfl rfl (R_move rfl rfl) ?_
    refine WM_do rfl rfl rfl rfl (D_call (rstart_bad s.sm s.qm r.os r.sc r.ts r.oq r.qc r.tq hr.os hr.oq i h) rfl rfl rfl rfl (pqY)) ?_
    rintro _ _ ⟨_, ⟨rfl, rfl⟩, rfl⟩
    refine ⟨⟨_, pqY⟩, ?_⟩
    refine WM_val rfl rfl rfl rfl (R_extract rfl rfl rfl) ?_
    refine WM_val rfl rfl rfl rfl (R_extract rfl rfl rfl) ?_
    refine WM_do rfl rfl rfl rfl (D_call (with_bad _ _ _ _ _ _ _ _ _ _ _ _ _ _ _ _ h) rfl rfl rfl rfl (pqY)) ?_
    rintro _ _ ⟨_, ⟨rfl, rfl⟩, rfl⟩
    refine ⟨⟨_, pqY⟩, ?_⟩
    refine WM_val rfl rfl rfl rfl (R_extract rfl rfl rfl) ?_
    refine WM_val rfl rfl rfl rfl (R_extract rfl rfl rfl) ?_
    refine WM_do0 rfl rfl rfl (D_store (vs := [_, _, _]) rfl Try.sizeOf57 rfl rfl rfl rfl rfl (plY) (by exact Nat.le_of_ble_eq_true rfl)) ?_
    rintro _ _ rfl
    refine ⟨⟨_, pqY⟩, ?_⟩
    refine WM_val rfl rfl rfl rfl (R_assign rfl rfl) ?_
    refine WM_nil ?_
    refine WQ_code ?_
    refine WC_ret ?_
    refine WQ_ret rfl rfl (.cons (.cell (vs := [_, _, _]) rfl ag57 (mmY) rfl (atZ)) (.cons (.tmp rfl) .nil)) rfl (by
        exact ⟨r, rfl, rfl, hr⟩) (pqY)

theorem rf_finish (s : PS) (r : RfM) (hr : RfOk s r) (hs : s.sm.length ≤ 64) (hroom : s.qm.length + s.W.length ≤ 64) (i : Int) : Spec Try.prog 45 [rfV s r, .int .i64 i] (rfH s r) (fun v H' => ∃ r' : RfM, v = .tuple #[rfV (s.step 1 0 i) r', .int .i64 (stepR s.sm s.qm 1 0 i).1] ∧ H' = rfH (s.step 1 0 i) r' ∧ RfOk (s.step 1 0 i) r') := by
  by_cases h : (stepR s.sm s.qm 1 0 i).1 = 0
  · refine Spec.of (E := [(0, rfV s r), (1, .int .i64 i)]) Try.func45 rfl (by kernel_rfl) Try.ntmps45 rfl rfl (fun w => ?_)
    refine WC_seq ?_
    refine WC_region ?_
    refine WL_do rfl rfl rfl (D_box (cs := [_, _, _]) rfl rfl rfl) ?_
    rintro _ _ ⟨b1, rfl, rfl⟩
    refine WL_do rfl rfl rfl (D_alloc rfl zv57) ?_
    rintro _ _ ⟨b2, rfl, rfl⟩
    refine WL_val rfl rfl rfl (R_assign rfl rfl) ?_
    refine WL_nil ?_
    refine WQ_code ?_
    refine WC_seq ?_
    refine WC_drawR (⟨some b2, _⟩ :: rH r.os s.sm r.ts r.oq s.qm r.tq) [(0, true), (1, true), (2, true), (3, true), (4, false), (5, true), (6, true), (7, false), (8, true), (9, true), (10, false), (11, true)] followsMixed rfl rfl (by kernel_rfl) (pqY) ?_
    refine WM_val rfl rfl rfl rfl (R_loadA (vs := [_, _, _]) rfl ag57 rfl (mmY) rfl (atZ)) ?_
    refine WM_val rfl rfl rfl rfl (R_fieldAddr rfl fa57_0 rfl) ?_
    refine WM_val rfl rfl rfl rfl (R_loadA (vs := [_, _]) rfl ag54 rfl (mmY) rfl (atZ)) ?_
    refine WM_val rfl rfl rfl rfl (R_move rfl rfl) ?_
    refine WM_do rfl rfl rfl rfl (D_call (rfinish_ok s.sm s.qm r.os r.sc r.ts r.oq r.qc r.tq hr.os hr.oq hs (by omega) i) rfl rfl rfl rfl (pqY)) ?_
    rintro _ _ ⟨_, ⟨V', rfl, os', sc', ts', oq', qc', tq', rfl, hos', hoq', rfl⟩, rfl⟩
    refine ⟨⟨_, pqY⟩, ?_⟩
    rw [h]
    refine WM_val rfl rfl rfl rfl (R_extract rfl rfl rfl) ?_
    refine WM_val rfl rfl rfl rfl (R_extract rfl rfl rfl) ?_
    refine WM_do rfl rfl rfl rfl (D_call (with_ok _ _ _ _ _ _ _ _ _ _ _ _ _ _ _) rfl rfl rfl rfl (pqY)) ?_
    rintro _ _ ⟨_, ⟨rfl, rfl⟩, rfl⟩
    refine ⟨⟨_, pqY⟩, ?_⟩
    refine WM_val rfl rfl rfl rfl (R_extract rfl rfl rfl) ?_
    refine WM_val rfl rfl rfl rfl (R_extract rfl rfl rfl) ?_
    refine WM_do0 rfl rfl rfl (D_store (vs := [_, _, _]) rfl Try.sizeOf57 rfl rfl rfl rfl rfl (plY) (by exact Nat.le_of_ble_eq_true rfl)) ?_
    rintro _ _ rfl
    refine ⟨⟨_, pqY⟩, ?_⟩
    refine WM_val rfl rfl rfl rfl (R_assign rfl rfl) ?_
    refine WM_nil ?_
    refine WQ_code ?_
    refine WC_ret ?_
    refine WQ_ret rfl rfl (.cons (.cell (vs := [_, _, _]) rfl ag57 (mmY) rfl (atZ)) (.cons (.tmp rfl) .nil)) rfl (by
        exact ⟨⟨os', sc', ts', oq', qc', tq', r.ow, r.wc, r.tw⟩, rfl, rfl, hos', hoq', hr.ow⟩) (pqY)
  · rw [step_same h]
    refine Spec.of (E := [(0, rfV s r), (1, .int .i64 i)]) Try.func45 rfl (by kernel_rfl) Try.ntmps45 rfl rfl (fun w => ?_)
    refine WC_seq ?_
    refine WC_region ?_
    refine WL_do rfl rfl rfl (D_box (cs := [_, _, _]) rfl rfl rfl) ?_
    rintro _ _ ⟨b1, rfl, rfl⟩
    refine WL_do rfl rfl rfl (D_alloc rfl zv57) ?_
    rintro _ _ ⟨b2, rfl, rfl⟩
    refine WL_val rfl rfl rfl (R_assign rfl rfl) ?_
    refine WL_nil ?_
    refine WQ_code ?_
    refine WC_seq ?_
    refine WC_drawR (⟨some b2, _⟩ :: rH r.os s.sm r.ts r.oq s.qm r.tq) [(0, true), (1, true), (2, true), (3, true), (4, false), (5, true), (6, true), (7, false), (8, true), (9, true), (10, false), (11, true)] followsMixed rfl rfl (by kernel_rfl) (pqY) ?_
    refine WM_val rfl rfl rfl rfl (R_loadA (vs := [_, _, _]) rfl ag57 rfl (mmY) rfl (atZ)) ?_
    refine WM_val rfl rfl rfl rfl (R_fieldAddr rfl fa57_0 rfl) ?_
    refine WM_val rfl rfl rfl rfl (R_loadA (vs := [_, _]) rfl ag54 rfl (mmY) rfl (atZ)) ?_
    refine WM_val rfl rfl rfl rfl (R_move rfl rfl) ?_
    refine WM_do rfl rfl rfl rfl (D_call (rfinish_bad s.sm s.qm r.os r.sc r.ts r.oq r.qc r.tq hr.os hr.oq i h) rfl rfl rfl rfl (pqY)) ?_
    rintro _ _ ⟨_, ⟨rfl, rfl⟩, rfl⟩
    refine ⟨⟨_, pqY⟩, ?_⟩
    refine WM_val rfl rfl rfl rfl (R_extract rfl rfl rfl) ?_
    refine WM_val rfl rfl rfl rfl (R_extract rfl rfl rfl) ?_
    refine WM_do rfl rfl rfl rfl (D_call (with_bad _ _ _ _ _ _ _ _ _ _ _ _ _ _ _ _ h) rfl rfl rfl rfl (pqY)) ?_
    rintro _ _ ⟨_, ⟨rfl, rfl⟩, rfl⟩
    refine ⟨⟨_, pqY⟩, ?_⟩
    refine WM_val rfl rfl rfl rfl (R_extract rfl rfl rfl) ?_
    refine WM_val rfl rfl rfl rfl (R_extract rfl rfl rfl) ?_
    refine WM_do0 rfl rfl rfl (D_store (vs := [_, _, _]) rfl Try.sizeOf57 rfl rfl rfl rfl rfl (plY) (by exact Nat.le_of_ble_eq_true rfl)) ?_
    rintro _ _ rfl
    refine ⟨⟨_, pqY⟩, ?_⟩
    refine WM_val rfl rfl rfl rfl (R_assign rfl rfl) ?_
    refine WM_nil ?_
    refine WQ_code ?_
    refine WC_ret ?_
    refine WQ_ret rfl rfl (.cons (.cell (vs := [_, _, _]) rfl ag57 (mmY) rfl (atZ)) (.cons (.tmp rfl) .nil)) rfl (by
        exact ⟨r, rfl, rfl, hr⟩) (pqY)

theorem rf_turn (s : PS) (r : RfM) (hr : RfOk s r) (hs : s.sm.length ≤ 64) (hroom : s.qm.length + s.W.length ≤ 64) (i : Int) : Spec Try.prog 46 [rfV s r, .int .i64 i] (rfH s r) (fun v H' => ∃ r' : RfM, v = .tuple #[rfV (s.step 1 1 i) r', .int .i64 (stepR s.sm s.qm 1 1 i).1] ∧ H' = rfH (s.step 1 1 i) r' ∧ RfOk (s.step 1 1 i) r') := by
  by_cases h : (stepR s.sm s.qm 1 1 i).1 = 0
  · refine Spec.of (E := [(0, rfV s r), (1, .int .i64 i)]) Try.func46 rfl (by kernel_rfl) Try.ntmps46 rfl rfl (fun w => ?_)
    refine WC_seq ?_
    refine WC_region ?_
    refine WL_do rfl rfl rfl (D_box (cs := [_, _, _]) rfl rfl rfl) ?_
    rintro _ _ ⟨b1, rfl, rfl⟩
    refine WL_do rfl rfl rfl (D_alloc rfl zv57) ?_
    rintro _ _ ⟨b2, rfl, rfl⟩
    refine WL_val rfl rfl rfl (R_assign rfl rfl) ?_
    refine WL_nil ?_
    refine WQ_code ?_
    refine WC_seq ?_
    refine WC_drawR (⟨some b2, _⟩ :: rH r.os s.sm r.ts r.oq s.qm r.tq) [(0, true), (1, true), (2, true), (3, true), (4, false), (5, true), (6, true), (7, false), (8, true), (9, true), (10, false), (11, true)] followsMixed rfl rfl (by kernel_rfl) (pqY) ?_
    refine WM_val rfl rfl rfl rfl (R_loadA (vs := [_, _, _]) rfl ag57 rfl (mmY) rfl (atZ)) ?_
    refine WM_val rfl rfl rfl rfl (R_fieldAddr rfl fa57_0 rfl) ?_
    refine WM_val rfl rfl rfl rfl (R_loadA (vs := [_, _]) rfl ag54 rfl (mmY) rfl (atZ)) ?_
    refine WM_val rfl rfl rfl rfl (R_move rfl rfl) ?_
    refine WM_do rfl rfl rfl rfl (D_call (rturn_ok s.sm s.qm r.os r.sc r.ts r.oq r.qc r.tq hr.os hr.oq hs (by omega) i) rfl rfl rfl rfl (pqY)) ?_
    rintro _ _ ⟨_, ⟨V', rfl, os', sc', ts', oq', qc', tq', rfl, hos', hoq', rfl⟩, rfl⟩
    refine ⟨⟨_, pqY⟩, ?_⟩
    rw [h]
    refine WM_val rfl rfl rfl rfl (R_extract rfl rfl rfl) ?_
    refine WM_val rfl rfl rfl rfl (R_extract rfl rfl rfl) ?_
    refine WM_do rfl rfl rfl rfl (D_call (with_ok _ _ _ _ _ _ _ _ _ _ _ _ _ _ _) rfl rfl rfl rfl (pqY)) ?_
    rintro _ _ ⟨_, ⟨rfl, rfl⟩, rfl⟩
    refine ⟨⟨_, pqY⟩, ?_⟩
    refine WM_val rfl rfl rfl rfl (R_extract rfl rfl rfl) ?_
    refine WM_val rfl rfl rfl rfl (R_extract rfl rfl rfl) ?_
    refine WM_do0 rfl rfl rfl (D_store (vs := [_, _, _]) rfl Try.sizeOf57 rfl rfl rfl rfl rfl (plY) (by exact Nat.le_of_ble_eq_true rfl)) ?_
    rintro _ _ rfl
    refine ⟨⟨_, pqY⟩, ?_⟩
    refine WM_val rfl rfl rfl rfl (R_assign rfl rfl) ?_
    refine WM_nil ?_
    refine WQ_code ?_
    refine WC_ret ?_
    refine WQ_ret rfl rfl (.cons (.cell (vs := [_, _, _]) rfl ag57 (mmY) rfl (atZ)) (.cons (.tmp rfl) .nil)) rfl (by
        exact ⟨⟨os', sc', ts', oq', qc', tq', r.ow, r.wc, r.tw⟩, rfl, rfl, hos', hoq', hr.ow⟩) (pqY)
  · rw [step_same h]
    refine Spec.of (E := [(0, rfV s r), (1, .int .i64 i)]) Try.func46 rfl (by kernel_rfl) Try.ntmps46 rfl rfl (fun w => ?_)
    refine WC_seq ?_
    refine WC_region ?_
    refine WL_do rfl rfl rfl (D_box (cs := [_, _, _]) rfl rfl rfl) ?_
    rintro _ _ ⟨b1, rfl, rfl⟩
    refine WL_do rfl rfl rfl (D_alloc rfl zv57) ?_
    rintro _ _ ⟨b2, rfl, rfl⟩
    refine WL_val rfl rfl rfl (R_assign rfl rfl) ?_
    refine WL_nil ?_
    refine WQ_code ?_
    refine WC_seq ?_
    refine WC_drawR (⟨some b2, _⟩ :: rH r.os s.sm r.ts r.oq s.qm r.tq) [(0, true), (1, true), (2, true), (3, true), (4, false), (5, true), (6, true), (7, false), (8, true), (9, true), (10, false), (11, true)] followsMixed rfl rfl (by kernel_rfl) (pqY) ?_
    refine WM_val rfl rfl rfl rfl (R_loadA (vs := [_, _, _]) rfl ag57 rfl (mmY) rfl (atZ)) ?_
    refine WM_val rfl rfl rfl rfl (R_fieldAddr rfl fa57_0 rfl) ?_
    refine WM_val rfl rfl rfl rfl (R_loadA (vs := [_, _]) rfl ag54 rfl (mmY) rfl (atZ)) ?_
    refine WM_val rfl rfl rfl rfl (R_move rfl rfl) ?_
    refine WM_do rfl rfl rfl rfl (D_call (rturn_bad s.sm s.qm r.os r.sc r.ts r.oq r.qc r.tq hr.os hr.oq i h) rfl rfl rfl rfl (pqY)) ?_
    rintro _ _ ⟨_, ⟨rfl, rfl⟩, rfl⟩
    refine ⟨⟨_, pqY⟩, ?_⟩
    refine WM_val rfl rfl rfl rfl (R_extract rfl rfl rfl) ?_
    refine WM_val rfl rfl rfl rfl (R_extract rfl rfl rfl) ?_
    refine WM_do rfl rfl rfl rfl (D_call (with_bad _ _ _ _ _ _ _ _ _ _ _ _ _ _ _ _ h) rfl rfl rfl rfl (pqY)) ?_
    rintro _ _ ⟨_, ⟨rfl, rfl⟩, rfl⟩
    refine ⟨⟨_, pqY⟩, ?_⟩
    refine WM_val rfl rfl rfl rfl (R_extract rfl rfl rfl) ?_
    refine WM_val rfl rfl rfl rfl (R_extract rfl rfl rfl) ?_
    refine WM_do0 rfl rfl rfl (D_store (vs := [_, _, _]) rfl Try.sizeOf57 rfl rfl rfl rfl rfl (plY) (by exact Nat.le_of_ble_eq_true rfl)) ?_
    rintro _ _ rfl
    refine ⟨⟨_, pqY⟩, ?_⟩
    refine WM_val rfl rfl rfl rfl (R_assign rfl rfl) ?_
    refine WM_nil ?_
    refine WQ_code ?_
    refine WC_ret ?_
    refine WQ_ret rfl rfl (.cons (.cell (vs := [_, _, _]) rfl ag57 (mmY) rfl (atZ)) (.cons (.tmp rfl) .nil)) rfl (by
        exact ⟨r, rfl, rfl, hr⟩) (pqY)

end Go.Proofs.Ytljmeemgjbcgeaa
