/-
  Chapter 09 (park), part RefA: contracts of functions that the laws call, each for the heap it names.
-/
import Derived.Test.YtljmeemgjbcgeaaRows
import Derived.Test.YtljmeemgjbcgeaaZSLQueue
import Derived.Test.YtljmeemgjbcgeaaTab
import Derived.Test.YtljmeemgjbcgeaaRefL
set_option linter.unusedVariables false
set_option maxRecDepth 20000
set_option maxHeartbeats 1000000
namespace Go.Proofs.Ytljmeemgjbcgeaa


theorem change_bad (sm qm : List Int) (os : Option Nat) (sc : Nat) (ts : List Value) (oq : Option Nat) (qc : Nat) (tq : List Value) (hos : Own os sm.length sc 1 (ivs sm) ts) (hoq : Own oq qm.length qc 1 (ivs qm) tq) (i fr to : Int) (h : (stepR sm qm fr to i).1 ≠ 0) : Spec Try.prog 73 [rV os sm.length sc oq qm.length qc, .int .i64 i, .int .i64 fr, .int .i64 to] (rH os sm ts oq qm tq) (fun r H' => r = .tuple #[rV os sm.length sc oq qm.length qc, .int .i64 (stepR sm qm fr to i).1] ∧ H' = rH os sm ts oq qm tq) := by
  have hsc := hos.le
  have hsb := hos.big
  refine Spec.of (E := [(0, rV os sm.length sc oq qm.length qc), (1, .int .i64 i), (2, .int .i64 fr), (3, .int .i64 to)]) Try.func73 rfl (by kernel_rfl) Try.ntmps73 rfl rfl (fun w => ?_)
  refine WC_seq ?_
  refine WC_region ?_
  refine WL_do rfl rfl rfl (D_box (cs := [_, _]) rfl rfl rfl) ?_
  rintro _ _ ⟨b1, rfl, rfl⟩
  refine WL_do rfl rfl rfl (D_alloc rfl zv54) ?_
  rintro _ _ ⟨b2, rfl, rfl⟩
  refine WL_val rfl rfl rfl (R_assign rfl rfl) ?_
  refine WL_nil ?_
  refine WQ_code ?_
  refine WC_seq ?_
  refine WC_region ?_
  refine WL_val rfl rfl rfl (R_loadA (vs := [_, _]) rfl ag54 rfl (mmY) rfl (atZ)) ?_
  refine WL_val rfl rfl rfl (R_move rfl rfl) ?_
  refine WL_do rfl rfl rfl (D_call (rstate_ok sm qm os sc ts oq qc tq hos hoq i) rfl rfl rfl rfl (pqY)) ?_
  rintro _ _ ⟨_, ⟨rfl, rfl⟩, rfl⟩
  refine WL_val rfl rfl rfl (R_move rfl rfl) ?_
  refine WL_val rfl rfl rfl (R_extract rfl rfl rfl) ?_
  refine WL_val rfl rfl rfl (R_extract rfl rfl rfl) ?_
  refine WL_val rfl rfl rfl (R_assign rfl rfl) ?_
  refine WL_val rfl rfl rfl (R_assign rfl rfl) ?_
  refine WL_nil ?_
  refine WQ_code ?_
  refine WC_seq ?_
  refine WC_seq ?_
  refine WC_region ?_
  refine WL_val rfl rfl rfl (R_move rfl rfl) ?_
  refine WL_val rfl rfl rfl (R_neq rfl rfl rfl) ?_
  refine WL_nil ?_
  refine WQ_code ?_
  refine WC_dec rfl (fun c1 => ?_) (fun c1 => ?_)
  · have hr : i < 0 ∨ (sm.length : Int) ≤ i := by by_cases h9 : i < 0 ∨ (sm.length : Int) ≤ i; exact h9; exact absurd (show (stR sm i).2 = 0 by rw [stR, if_neg h9]) c1
    simp only [stR_out hr]
    refine WC_seq ?_
    refine WC_region ?_
    refine WL_val rfl rfl rfl (R_loadA (vs := [_, _]) rfl ag54 rfl (mmY) rfl (atZ)) ?_
    refine WL_val rfl rfl rfl (R_move rfl rfl) ?_
    refine WL_do0 rfl rfl (D_store (vs := [_, _]) rfl Try.sizeOf54 rfl rfl rfl rfl rfl (plY) (by exact Nat.le_of_ble_eq_true rfl)) ?_
    rintro _ _ rfl
    refine WL_val rfl rfl rfl (R_assign rfl rfl) ?_
    refine WL_nil ?_
    refine WQ_code ?_
    refine WC_ret ?_
    refine WQ_ret rfl rfl (.cons (.cell (vs := [_, _]) rfl ag54 (mmY) rfl (atZ)) (.cons (.tmp rfl) .nil)) rfl (by
        exact ⟨by rw [stepR_out hr]; rfl, rfl⟩) (pqY)
  · have hr : ¬ (i < 0 ∨ (sm.length : Int) ≤ i) := fun h9 => c1 (by rw [stR_out h9]; decide)
    obtain ⟨i, rfl⟩ := Int.eq_ofNat_of_zero_le (show 0 ≤ i by omega)
    obtain ⟨x, hx⟩ := exE (T := sm) (i := i) (by omega)
    obtain ⟨wb, rfl⟩ := hos.some_of (by omega)
    simp only [stR_in hx]
    refine WC_skip ?_
    refine WQ_code ?_
    refine WC_seq ?_
    refine WC_seq ?_
    refine WC_region ?_
    refine WL_val rfl rfl rfl (R_move rfl rfl) ?_
    refine WL_val rfl rfl rfl (R_move rfl rfl) ?_
    refine WL_val rfl rfl rfl (R_neq rfl rfl rfl) ?_
    refine WL_nil ?_
    refine WQ_code ?_
    refine WC_dec rfl (fun c2 => ?_) (fun c2 => ?_)
    · have hne : x ≠ fr := c2
      refine WC_seq ?_
      refine WC_region ?_
      refine WL_val rfl rfl rfl (R_loadA (vs := [_, _]) rfl ag54 rfl (mmY) rfl (atZ)) ?_
      refine WL_do0 rfl rfl (D_store (vs := [_, _]) rfl Try.sizeOf54 rfl rfl rfl rfl rfl (plY) (by exact Nat.le_of_ble_eq_true rfl)) ?_
      rintro _ _ rfl
      refine WL_val rfl rfl rfl (R_assign rfl rfl) ?_
      refine WL_nil ?_
      refine WQ_code ?_
      refine WC_ret ?_
      refine WQ_ret rfl rfl (.cons (.cell (vs := [_, _]) rfl ag54 (mmY) rfl (atZ)) (.cons (.tmp rfl) .nil)) rfl (by
          exact ⟨by rw [stepR_bad hx hne]; rfl, rfl⟩) (pqY)
    · exfalso; apply h; obtain rfl : x = fr := Decidable.not_not.1 c2; rw [stepR_ok hx]
theorem rspot_ok (a : Sp) : Spec Try.prog 8 [ekS a] [] (fun r H' => r = .bool (decide (vldS a)) ∧ H' = []) := by
  refine Spec.of (E := [(0, ekS a)]) Try.func8 rfl (by kernel_rfl) Try.ntmps8 rfl rfl (fun w => ?_)
  refine WC_seq ?_
  refine WC_region ?_
  refine WL_do rfl rfl rfl (D_box (cs := [_, _]) rfl rfl rfl) ?_
  rintro _ _ ⟨b1, rfl, rfl⟩
  refine WL_val rfl rfl rfl (R_assign rfl rfl) ?_
  refine WL_nil ?_
  refine WQ_code ?_
  refine WC_seq ?_
  refine WC_region ?_
  refine WL_val rfl rfl rfl (R_fieldAddr rfl fa25_0 rfl) ?_
  refine WL_val rfl rfl rfl (R_load rfl sc3 rfl (mmY) rfl) ?_
  refine WL_val rfl rfl rfl (R_geq rfl rfl rfl) ?_
  refine WL_val rfl rfl rfl (R_move rfl rfl) ?_
  refine WL_splitD (s := 6) rfl (fun c1 => ?_) (fun c1 => ?_)
  · refine WL_val rfl rfl rfl (R_fieldAddr rfl fa25_0 rfl) ?_
    refine WL_val rfl rfl rfl (R_load rfl sc3 rfl (mmY) rfl) ?_
    refine WL_val rfl rfl rfl (R_leq rfl rfl rfl) ?_
    refine WL_val rfl rfl rfl (R_pickT rfl rfl rfl) ?_
    refine WL_val rfl rfl rfl (R_move rfl rfl) ?_
    refine WL_splitD (s := 11) rfl (fun c2 => ?_) (fun c2 => ?_)
    · refine WL_val rfl rfl rfl (R_fieldAddr rfl fa25_1 rfl) ?_
      refine WL_val rfl rfl rfl (R_load rfl sc23 rfl (mmY) rfl) ?_
      refine WL_val rfl rfl rfl (R_eql rfl rfl rfl) ?_
      refine WL_val rfl rfl rfl (R_move rfl rfl) ?_
      refine WL_splitD (s := 15) rfl (fun c3 => ?_) (fun c3 => ?_)
      · refine WL_skip rfl rfl rfl ?_
        refine WL_skip rfl rfl rfl ?_
        refine WL_skip rfl rfl rfl ?_
        refine WL_val rfl rfl rfl (R_pickT rfl rfl rfl) ?_
        refine WL_val rfl rfl rfl (R_pickT rfl rfl rfl) ?_
        refine WL_val rfl rfl rfl (R_assign rfl rfl) ?_
        refine WL_nil ?_
        refine WQ_code ?_
        refine WC_ret ?_
        refine WQ_ret rfl rfl (.cons (.tmp rfl) .nil) rfl (by
            exact ⟨congrArg Value.bool (by first | exact (decide_eq_false (by unfold vldS; omega)).symm | exact (decide_eq_true (by unfold vldS; omega)).symm | exact decide_eq_decide.2 (by unfold vldS; omega)), rfl⟩) (pqY)
      · refine WL_val rfl rfl rfl (R_fieldAddr rfl fa25_1 rfl) ?_
        refine WL_val rfl rfl rfl (R_load rfl sc23 rfl (mmY) rfl) ?_
        refine WL_val rfl rfl rfl (R_eql rfl rfl rfl) ?_
        refine WL_val rfl rfl rfl (R_pickF rfl rfl rfl) ?_
        refine WL_val rfl rfl rfl (R_pickT rfl rfl rfl) ?_
        refine WL_val rfl rfl rfl (R_assign rfl rfl) ?_
        refine WL_nil ?_
        refine WQ_code ?_
        refine WC_ret ?_
        refine WQ_ret rfl rfl (.cons (.tmp rfl) .nil) rfl (by
            exact ⟨congrArg Value.bool (by first | exact (decide_eq_false (by unfold vldS; omega)).symm | exact (decide_eq_true (by unfold vldS; omega)).symm | exact decide_eq_decide.2 (by unfold vldS; omega)), rfl⟩) (pqY)
    · refine WL_skip rfl rfl rfl ?_
      refine WL_skip rfl rfl rfl ?_
      refine WL_skip rfl rfl rfl ?_
      refine WL_skip rfl rfl rfl ?_
      refine WL_skip rfl rfl rfl ?_
      refine WL_skip rfl rfl rfl ?_
      refine WL_skip rfl rfl rfl ?_
      refine WL_skip rfl rfl rfl ?_
      refine WL_val rfl rfl rfl (R_pickF rfl rfl rfl) ?_
      refine WL_val rfl rfl rfl (R_assign rfl rfl) ?_
      refine WL_nil ?_
      refine WQ_code ?_
      refine WC_ret ?_
      refine WQ_ret rfl rfl (.cons (.tmp rfl) .nil) rfl (by
          exact ⟨congrArg Value.bool (by first | exact (decide_eq_false (by unfold vldS; omega)).symm | exact (decide_eq_true (by unfold vldS; omega)).symm | exact decide_eq_decide.2 (by unfold vldS; omega)), rfl⟩) (pqY)
  · refine WL_skip rfl rfl rfl ?_
    refine WL_skip rfl rfl rfl ?_
    refine WL_skip rfl rfl rfl ?_
    refine WL_val rfl rfl rfl (R_pickF rfl rfl rfl) ?_
    refine WL_val rfl rfl rfl (R_move rfl rfl) ?_
    refine WL_skip rfl rfl rfl ?_
    refine WL_skip rfl rfl rfl ?_
    refine WL_skip rfl rfl rfl ?_
    refine WL_skip rfl rfl rfl ?_
    refine WL_skip rfl rfl rfl ?_
    refine WL_skip rfl rfl rfl ?_
    refine WL_skip rfl rfl rfl ?_
    refine WL_skip rfl rfl rfl ?_
    refine WL_val rfl rfl rfl (R_pickF rfl rfl rfl) ?_
    refine WL_val rfl rfl rfl (R_assign rfl rfl) ?_
    refine WL_nil ?_
    refine WQ_code ?_
    refine WC_ret ?_
    refine WQ_ret rfl rfl (.cons (.tmp rfl) .nil) rfl (by
        exact ⟨congrArg Value.bool (by first | exact (decide_eq_false (by unfold vldS; omega)).symm | exact (decide_eq_true (by unfold vldS; omega)).symm | exact decide_eq_decide.2 (by unfold vldS; omega)), rfl⟩) (pqY)
theorem with_bad (o1 o2 o3 o4 o5 : Option Nat) (n1 c1 n2 c2 n3 c3 n4 c4 n5 c5 : Nat) (e : Int) (h : e ≠ 0) : Spec Try.prog 64 [.agg #[slV o1 n1 c1, slV o2 n2 c2, slV o3 n3 c3], .agg #[slV o4 n4 c4, slV o5 n5 c5], .int .i64 e] [] (fun r H' => r = .tuple #[.agg #[slV o1 n1 c1, slV o2 n2 c2, slV o3 n3 c3], .int .i64 e] ∧ H' = []) := by
  refine Spec.of (E := [(0, .agg #[slV o1 n1 c1, slV o2 n2 c2, slV o3 n3 c3]), (1, .agg #[slV o4 n4 c4, slV o5 n5 c5]), (2, .int .i64 e)]) Try.func64 rfl (by kernel_rfl) Try.ntmps64 rfl rfl (fun w => ?_)
  refine WC_seq ?_
  refine WC_region ?_
  refine WL_do rfl rfl rfl (D_box (cs := [_, _, _]) rfl rfl rfl) ?_
  rintro _ _ ⟨b1, rfl, rfl⟩
  refine WL_do rfl rfl rfl (D_box (cs := [_, _]) rfl rfl rfl) ?_
  rintro _ _ ⟨b2, rfl, rfl⟩
  refine WL_do rfl rfl rfl (D_alloc rfl zv57) ?_
  rintro _ _ ⟨b3, rfl, rfl⟩
  refine WL_val rfl rfl rfl (R_assign rfl rfl) ?_
  refine WL_nil ?_
  refine WQ_code ?_
  refine WC_seq ?_
  refine WC_seq ?_
  refine WC_region ?_
  refine WL_val rfl rfl rfl (R_move rfl rfl) ?_
  refine WL_val rfl rfl rfl (R_neq rfl rfl rfl) ?_
  refine WL_nil ?_
  refine WQ_code ?_
  refine WC_dT rfl (by exact h) ?_
  refine WC_seq ?_
  refine WC_region ?_
  refine WL_val rfl rfl rfl (R_loadA (vs := [_, _, _]) rfl ag57 rfl (mmY) rfl (atZ)) ?_
  refine WL_val rfl rfl rfl (R_move rfl rfl) ?_
  refine WL_do0 rfl rfl (D_store (vs := [_, _, _]) rfl Try.sizeOf57 rfl rfl rfl rfl rfl (plY) (by exact Nat.le_of_ble_eq_true rfl)) ?_
  rintro _ _ rfl
  refine WL_val rfl rfl rfl (R_assign rfl rfl) ?_
  refine WL_nil ?_
  refine WQ_code ?_
  refine WC_ret ?_
  refine WQ_ret rfl rfl (.cons (.cell (vs := [_, _, _]) rfl ag57 (mmY) rfl (atZ)) (.cons (.tmp rfl) .nil)) rfl (by
      exact ⟨rfl, rfl⟩) (pqY)
theorem with_ok (o1 o2 o3 o4 o5 : Option Nat) (n1 c1 n2 c2 n3 c3 n4 c4 n5 c5 : Nat) : Spec Try.prog 64 [.agg #[slV o1 n1 c1, slV o2 n2 c2, slV o3 n3 c3], .agg #[slV o4 n4 c4, slV o5 n5 c5], .int .i64 0] [] (fun r H' => r = .tuple #[.agg #[slV o4 n4 c4, slV o5 n5 c5, slV o3 n3 c3], .int .i64 0] ∧ H' = []) := by
  refine Spec.of (E := [(0, .agg #[slV o1 n1 c1, slV o2 n2 c2, slV o3 n3 c3]), (1, .agg #[slV o4 n4 c4, slV o5 n5 c5]), (2, .int .i64 0)]) Try.func64 rfl (by kernel_rfl) Try.ntmps64 rfl rfl (fun w => ?_)
  refine WC_seq ?_
  refine WC_region ?_
  refine WL_do rfl rfl rfl (D_box (cs := [_, _, _]) rfl rfl rfl) ?_
  rintro _ _ ⟨b1, rfl, rfl⟩
  refine WL_do rfl rfl rfl (D_box (cs := [_, _]) rfl rfl rfl) ?_
  rintro _ _ ⟨b2, rfl, rfl⟩
  refine WL_do rfl rfl rfl (D_alloc rfl zv57) ?_
  rintro _ _ ⟨b3, rfl, rfl⟩
  refine WL_val rfl rfl rfl (R_assign rfl rfl) ?_
  refine WL_nil ?_
  refine WQ_code ?_
  refine WC_seq ?_
  refine WC_seq ?_
  refine WC_region ?_
  refine WL_val rfl rfl rfl (R_move rfl rfl) ?_
  refine WL_val rfl rfl rfl (R_neq rfl rfl rfl) ?_
  refine WL_nil ?_
  refine WQ_code ?_
  refine WC_dF rfl (by decide) ?_
  refine WC_skip ?_
  refine WQ_code ?_
  refine WC_seq ?_
  refine WC_region ?_
  refine WL_val rfl rfl rfl (R_loadA (vs := [_, _]) rfl ag54 rfl (mmY) rfl (atZ)) ?_
  refine WL_val rfl rfl rfl (R_fieldAddr rfl fa57_1 rfl) ?_
  refine WL_val rfl rfl rfl (R_load rfl sc55 rfl (mmY) rfl) ?_
  refine WL_val rfl rfl rfl (R_build rfl zv57 pl57 rfl rfl) ?_
  refine WL_do0 rfl rfl (D_store (vs := [_, _, _]) rfl Try.sizeOf57 rfl rfl rfl rfl rfl (plY) (by exact Nat.le_of_ble_eq_true rfl)) ?_
  rintro _ _ rfl
  refine WL_val rfl rfl rfl (R_assign rfl rfl) ?_
  refine WL_nil ?_
  refine WQ_code ?_
  refine WC_ret ?_
  refine WQ_ret rfl rfl (.cons (.cell (vs := [_, _, _]) rfl ag57 (mmY) rfl (atZ)) (.cons (.tmp rfl) .nil)) rfl (by
      exact ⟨rfl, rfl⟩) (pqY)

theorem rstart_bad (sm qm : List Int) (os : Option Nat) (sc : Nat) (ts : List Value) (oq : Option Nat) (qc : Nat) (tq : List Value) (hos : Own os sm.length sc 1 (ivs sm) ts) (hoq : Own oq qm.length qc 1 (ivs qm) tq) (i : Int) (h : (stepR sm qm 0 1 i).1 ≠ 0) : Spec Try.prog 65 [rV os sm.length sc oq qm.length qc, .int .i64 i] (rH os sm ts oq qm tq) (fun r H' => r = .tuple #[rV os sm.length sc oq qm.length qc, .int .i64 (stepR sm qm 0 1 i).1] ∧ H' = rH os sm ts oq qm tq) := by
  refine Spec.of (E := [(0, rV os sm.length sc oq qm.length qc), (1, .int .i64 i)]) Try.func65 rfl (by kernel_rfl) Try.ntmps65 rfl rfl (fun w => ?_)
  refine WC_seq ?_
  refine WC_region ?_
  refine WL_do rfl rfl rfl (D_box (cs := [_, _]) rfl rfl rfl) ?_
  rintro _ _ ⟨b1, rfl, rfl⟩
  refine WL_do rfl rfl rfl (D_alloc rfl zv54) ?_
  rintro _ _ ⟨b2, rfl, rfl⟩
  refine WL_val rfl rfl rfl (R_assign rfl rfl) ?_
  refine WL_nil ?_
  refine WQ_code ?_
  refine WC_seq ?_
  refine WC_region ?_
  refine WL_val rfl rfl rfl (R_loadA (vs := [_, _]) rfl ag54 rfl (mmY) rfl (atZ)) ?_
  refine WL_val rfl rfl rfl (R_move rfl rfl) ?_
  refine WL_do rfl rfl rfl (D_call (change_bad sm qm os sc ts oq qc tq hos hoq i 0 1 h) rfl rfl rfl rfl (pqY)) ?_
  rintro _ _ ⟨_, ⟨rfl, rfl⟩, rfl⟩
  refine WL_val rfl rfl rfl (R_extract rfl rfl rfl) ?_
  refine WL_val rfl rfl rfl (R_extract rfl rfl rfl) ?_
  refine WL_do0 rfl rfl (D_store (vs := [_, _]) rfl Try.sizeOf54 rfl rfl rfl rfl rfl (plY) (by exact Nat.le_of_ble_eq_true rfl)) ?_
  rintro _ _ rfl
  refine WL_val rfl rfl rfl (R_assign rfl rfl) ?_
  refine WL_nil ?_
  refine WQ_code ?_
  refine WC_ret ?_
  refine WQ_ret rfl rfl (.cons (.cell (vs := [_, _]) rfl ag54 (mmY) rfl (atZ)) (.cons (.tmp rfl) .nil)) rfl (by
      exact ⟨rfl, rfl⟩) (pqY)

theorem rpark_bad (sm qm : List Int) (os : Option Nat) (sc : Nat) (ts : List Value) (oq : Option Nat) (qc : Nat) (tq : List Value) (hos : Own os sm.length sc 1 (ivs sm) ts) (hoq : Own oq qm.length qc 1 (ivs qm) tq) (i : Int) (h : (stepR sm qm 1 2 i).1 ≠ 0) : Spec Try.prog 68 [rV os sm.length sc oq qm.length qc, .int .i64 i] (rH os sm ts oq qm tq) (fun r H' => r = .tuple #[rV os sm.length sc oq qm.length qc, .int .i64 (stepR sm qm 1 2 i).1] ∧ H' = rH os sm ts oq qm tq) := by
  refine Spec.of (E := [(0, rV os sm.length sc oq qm.length qc), (1, .int .i64 i)]) Try.func68 rfl (by kernel_rfl) Try.ntmps68 rfl rfl (fun w => ?_)
  refine WC_seq ?_
  refine WC_region ?_
  refine WL_do rfl rfl rfl (D_box (cs := [_, _]) rfl rfl rfl) ?_
  rintro _ _ ⟨b1, rfl, rfl⟩
  refine WL_do rfl rfl rfl (D_alloc rfl zv54) ?_
  rintro _ _ ⟨b2, rfl, rfl⟩
  refine WL_val rfl rfl rfl (R_assign rfl rfl) ?_
  refine WL_nil ?_
  refine WQ_code ?_
  refine WC_seq ?_
  refine WC_region ?_
  refine WL_val rfl rfl rfl (R_loadA (vs := [_, _]) rfl ag54 rfl (mmY) rfl (atZ)) ?_
  refine WL_val rfl rfl rfl (R_move rfl rfl) ?_
  refine WL_do rfl rfl rfl (D_call (change_bad sm qm os sc ts oq qc tq hos hoq i 1 2 h) rfl rfl rfl rfl (pqY)) ?_
  rintro _ _ ⟨_, ⟨rfl, rfl⟩, rfl⟩
  refine WL_val rfl rfl rfl (R_extract rfl rfl rfl) ?_
  refine WL_val rfl rfl rfl (R_extract rfl rfl rfl) ?_
  refine WL_do0 rfl rfl (D_store (vs := [_, _]) rfl Try.sizeOf54 rfl rfl rfl rfl rfl (plY) (by exact Nat.le_of_ble_eq_true rfl)) ?_
  rintro _ _ rfl
  refine WL_val rfl rfl rfl (R_assign rfl rfl) ?_
  refine WL_nil ?_
  refine WQ_code ?_
  refine WC_ret ?_
  refine WQ_ret rfl rfl (.cons (.cell (vs := [_, _]) rfl ag54 (mmY) rfl (atZ)) (.cons (.tmp rfl) .nil)) rfl (by
      exact ⟨rfl, rfl⟩) (pqY)

theorem rwake_bad (sm qm : List Int) (os : Option Nat) (sc : Nat) (ts : List Value) (oq : Option Nat) (qc : Nat) (tq : List Value) (hos : Own os sm.length sc 1 (ivs sm) ts) (hoq : Own oq qm.length qc 1 (ivs qm) tq) (i : Int) (h : (stepR sm qm 2 1 i).1 ≠ 0) : Spec Try.prog 69 [rV os sm.length sc oq qm.length qc, .int .i64 i] (rH os sm ts oq qm tq) (fun r H' => r = .tuple #[rV os sm.length sc oq qm.length qc, .int .i64 (stepR sm qm 2 1 i).1] ∧ H' = rH os sm ts oq qm tq) := by
  refine Spec.of (E := [(0, rV os sm.length sc oq qm.length qc), (1, .int .i64 i)]) Try.func69 rfl (by kernel_rfl) Try.ntmps69 rfl rfl (fun w => ?_)
  refine WC_seq ?_
  refine WC_region ?_
  refine WL_do rfl rfl rfl (D_box (cs := [_, _]) rfl rfl rfl) ?_
  rintro _ _ ⟨b1, rfl, rfl⟩
  refine WL_do rfl rfl rfl (D_alloc rfl zv54) ?_
  rintro _ _ ⟨b2, rfl, rfl⟩
  refine WL_val rfl rfl rfl (R_assign rfl rfl) ?_
  refine WL_nil ?_
  refine WQ_code ?_
  refine WC_seq ?_
  refine WC_region ?_
  refine WL_val rfl rfl rfl (R_loadA (vs := [_, _]) rfl ag54 rfl (mmY) rfl (atZ)) ?_
  refine WL_val rfl rfl rfl (R_move rfl rfl) ?_
  refine WL_do rfl rfl rfl (D_call (change_bad sm qm os sc ts oq qc tq hos hoq i 2 1 h) rfl rfl rfl rfl (pqY)) ?_
  rintro _ _ ⟨_, ⟨rfl, rfl⟩, rfl⟩
  refine WL_val rfl rfl rfl (R_extract rfl rfl rfl) ?_
  refine WL_val rfl rfl rfl (R_extract rfl rfl rfl) ?_
  refine WL_do0 rfl rfl (D_store (vs := [_, _]) rfl Try.sizeOf54 rfl rfl rfl rfl rfl (plY) (by exact Nat.le_of_ble_eq_true rfl)) ?_
  rintro _ _ rfl
  refine WL_val rfl rfl rfl (R_assign rfl rfl) ?_
  refine WL_nil ?_
  refine WQ_code ?_
  refine WC_ret ?_
  refine WQ_ret rfl rfl (.cons (.cell (vs := [_, _]) rfl ag54 (mmY) rfl (atZ)) (.cons (.tmp rfl) .nil)) rfl (by
      exact ⟨rfl, rfl⟩) (pqY)

theorem rfinish_bad (sm qm : List Int) (os : Option Nat) (sc : Nat) (ts : List Value) (oq : Option Nat) (qc : Nat) (tq : List Value) (hos : Own os sm.length sc 1 (ivs sm) ts) (hoq : Own oq qm.length qc 1 (ivs qm) tq) (i : Int) (h : (stepR sm qm 1 0 i).1 ≠ 0) : Spec Try.prog 66 [rV os sm.length sc oq qm.length qc, .int .i64 i] (rH os sm ts oq qm tq) (fun r H' => r = .tuple #[rV os sm.length sc oq qm.length qc, .int .i64 (stepR sm qm 1 0 i).1] ∧ H' = rH os sm ts oq qm tq) := by
  refine Spec.of (E := [(0, rV os sm.length sc oq qm.length qc), (1, .int .i64 i)]) Try.func66 rfl (by kernel_rfl) Try.ntmps66 rfl rfl (fun w => ?_)
  refine WC_seq ?_
  refine WC_region ?_
  refine WL_do rfl rfl rfl (D_box (cs := [_, _]) rfl rfl rfl) ?_
  rintro _ _ ⟨b1, rfl, rfl⟩
  refine WL_do rfl rfl rfl (D_alloc rfl zv54) ?_
  rintro _ _ ⟨b2, rfl, rfl⟩
  refine WL_val rfl rfl rfl (R_assign rfl rfl) ?_
  refine WL_nil ?_
  refine WQ_code ?_
  refine WC_seq ?_
  refine WC_region ?_
  refine WL_val rfl rfl rfl (R_loadA (vs := [_, _]) rfl ag54 rfl (mmY) rfl (atZ)) ?_
  refine WL_val rfl rfl rfl (R_move rfl rfl) ?_
  refine WL_do rfl rfl rfl (D_call (change_bad sm qm os sc ts oq qc tq hos hoq i 1 0 h) rfl rfl rfl rfl (pqY)) ?_
  rintro _ _ ⟨_, ⟨rfl, rfl⟩, rfl⟩
  refine WL_val rfl rfl rfl (R_extract rfl rfl rfl) ?_
  refine WL_val rfl rfl rfl (R_extract rfl rfl rfl) ?_
  refine WL_do0 rfl rfl (D_store (vs := [_, _]) rfl Try.sizeOf54 rfl rfl rfl rfl rfl (plY) (by exact Nat.le_of_ble_eq_true rfl)) ?_
  rintro _ _ rfl
  refine WL_val rfl rfl rfl (R_assign rfl rfl) ?_
  refine WL_nil ?_
  refine WQ_code ?_
  refine WC_ret ?_
  refine WQ_ret rfl rfl (.cons (.cell (vs := [_, _]) rfl ag54 (mmY) rfl (atZ)) (.cons (.tmp rfl) .nil)) rfl (by
      exact ⟨rfl, rfl⟩) (pqY)

theorem rturn_bad (sm qm : List Int) (os : Option Nat) (sc : Nat) (ts : List Value) (oq : Option Nat) (qc : Nat) (tq : List Value) (hos : Own os sm.length sc 1 (ivs sm) ts) (hoq : Own oq qm.length qc 1 (ivs qm) tq) (i : Int) (h : (stepR sm qm 1 1 i).1 ≠ 0) : Spec Try.prog 67 [rV os sm.length sc oq qm.length qc, .int .i64 i] (rH os sm ts oq qm tq) (fun r H' => r = .tuple #[rV os sm.length sc oq qm.length qc, .int .i64 (stepR sm qm 1 1 i).1] ∧ H' = rH os sm ts oq qm tq) := by
  refine Spec.of (E := [(0, rV os sm.length sc oq qm.length qc), (1, .int .i64 i)]) Try.func67 rfl (by kernel_rfl) Try.ntmps67 rfl rfl (fun w => ?_)
  refine WC_seq ?_
  refine WC_region ?_
  refine WL_do rfl rfl rfl (D_box (cs := [_, _]) rfl rfl rfl) ?_
  rintro _ _ ⟨b1, rfl, rfl⟩
  refine WL_do rfl rfl rfl (D_alloc rfl zv54) ?_
  rintro _ _ ⟨b2, rfl, rfl⟩
  refine WL_val rfl rfl rfl (R_assign rfl rfl) ?_
  refine WL_nil ?_
  refine WQ_code ?_
  refine WC_seq ?_
  refine WC_region ?_
  refine WL_val rfl rfl rfl (R_loadA (vs := [_, _]) rfl ag54 rfl (mmY) rfl (atZ)) ?_
  refine WL_val rfl rfl rfl (R_move rfl rfl) ?_
  refine WL_do rfl rfl rfl (D_call (change_bad sm qm os sc ts oq qc tq hos hoq i 1 1 h) rfl rfl rfl rfl (pqY)) ?_
  rintro _ _ ⟨_, ⟨rfl, rfl⟩, rfl⟩
  refine WL_val rfl rfl rfl (R_extract rfl rfl rfl) ?_
  refine WL_val rfl rfl rfl (R_extract rfl rfl rfl) ?_
  refine WL_do0 rfl rfl (D_store (vs := [_, _]) rfl Try.sizeOf54 rfl rfl rfl rfl rfl (plY) (by exact Nat.le_of_ble_eq_true rfl)) ?_
  rintro _ _ rfl
  refine WL_val rfl rfl rfl (R_assign rfl rfl) ?_
  refine WL_nil ?_
  refine WQ_code ?_
  refine WC_ret ?_
  refine WQ_ret rfl rfl (.cons (.cell (vs := [_, _]) rfl ag54 (mmY) rfl (atZ)) (.cons (.tmp rfl) .nil)) rfl (by
      exact ⟨rfl, rfl⟩) (pqY)

end Go.Proofs.Ytljmeemgjbcgeaa
