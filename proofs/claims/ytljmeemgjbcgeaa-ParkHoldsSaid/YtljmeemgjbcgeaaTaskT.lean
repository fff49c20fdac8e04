/-
  Chapter 09 (park), part TaskT: contracts of functions that the laws call, each for the heap it names.
-/
import Derived.Test.YtljmeemgjbcgeaaRows
import Derived.Test.YtljmeemgjbcgeaaZSLQueue
import Derived.Test.YtljmeemgjbcgeaaTab
import Derived.Test.YtljmeemgjbcgeaaTaskRB
set_option linter.unusedVariables false
set_option maxRecDepth 20000
set_option maxHeartbeats 1000000
namespace Go.Proofs.Ytljmeemgjbcgeaa


theorem doq_step {S S' : List (Int × Nat)} {Q Q' : List (Nat × Int)} {n n' : Nat} {i fr to e : Int} {sm qm : List Int} {es es' : Array MapEntry} (hw : Tw sm qm S Q n es) (hM : Mp (.int .u64) ekQ evQ es' (nds 0 0 Q')) (h : DoQ S Q n fr to i e S' Q' n') :
    e = (stepR sm qm fr to i).1 ∧ Tw (stepR sm qm fr to i).2.1 (stepR sm qm fr to i).2.2 S' Q' n' es' ∧ n' ≤ n + 1 := by
  have hl : sm.length = S.length := by rw [← hw.sm, List.length_map]
  by_cases hr : i < 0 ∨ (sm.length : Int) ≤ i
  · rw [stepR_out hr]
    obtain ⟨h1, h2, h3, h4⟩ := h
    rcases h4 with ⟨_, rfl, rfl, rfl⟩ | ⟨j, x, t, hj, hS, h4⟩
    · exact ⟨rfl, ⟨h3, hM, hw.sm, hw.qm⟩, h1⟩
    · have := (List.getElem?_eq_some_iff.1 hS).1
      omega
  · obtain ⟨i, rfl⟩ := Int.eq_ofNat_of_zero_le (show 0 ≤ i by omega)
    obtain ⟨x, hx⟩ := exE (T := sm) (i := i) (by omega)
    by_cases hf : x = fr
    · subst hf
      rw [stepR_ok hx]
      exact doq_run hw hM h hx
    · rw [stepR_bad hx hf]
      exact doq_bad hw hM h hx hf
theorem state_R (p pe pq pm : Nat) (S : List (Int × Nat)) (c : Nat) (tl : List Value) (Q : List (Nat × Int)) (n : Nat) (es : Array MapEntry) (mc : Nat) (sm qm : List Int) (hw : Tw sm qm S Q n es) (i : Int) : Spec Try.prog 42 [ptrQ p, .int .i64 i] (tR p pe pq S c tl) (fun r H' => r = .tuple #[.int .i64 (stR sm i).1, .int .i64 (stR sm i).2] ∧ H' = tR p pe pq S c tl) := by
  by_cases hr : i < 0 ∨ (sm.length : Int) ≤ i
  · rw [stR_out hr]; exact state_out p pe pq pm S c tl Q n es mc sm qm hw i hr
  · obtain ⟨i, rfl⟩ := Int.eq_ofNat_of_zero_le (show 0 ≤ i by omega)
    obtain ⟨x, hx⟩ := exE (T := sm) (i := i) (by omega)
    rw [stR_in hx]; exact state_run p pe pq pm S c tl Q n es mc sm qm hw i x hx
theorem start_step (p pe pq pm : Nat) (S : List (Int × Nat)) (c : Nat) (tl : List Value) (Q : List (Nat × Int)) (n : Nat) (es : Array MapEntry) (mc : Nat) (sm qm : List Int) (hw : Tw sm qm S Q n es) (hn : n < 1000000) (i : Int) : Spec Try.prog 32 [ptrQ p, .int .i64 i] (tH p pe pq pm S c tl Q n es mc) (fun r H' => ∃ S' Q' n' es' mc' tl', r = .int .i64 (stepR sm qm 0 1 i).1 ∧ H' = tH p pe pq pm S' c tl' Q' n' es' mc' ∧ Tw (stepR sm qm 0 1 i).2.1 (stepR sm qm 0 1 i).2.2 S' Q' n' es' ∧ n' ≤ n + 1) :=
  (start_ok p pe pq pm S c tl Q n es mc hw.tk hw.mp hn i).mono fun r H' ⟨e, S', Q', n', es', mc', tl', h4, h5, h6, h7⟩ => by
    obtain ⟨rfl, h8, h9⟩ := doq_step hw h6 h7
    exact ⟨S', Q', n', es', mc', tl', h4, h5, h8, h9⟩
theorem rstart_ok (sm qm : List Int) (os : Option Nat) (sc : Nat) (ts : List Value) (oq : Option Nat) (qc : Nat) (tq : List Value) (hos : Own os sm.length sc 1 (ivs sm) ts) (hoq : Own oq qm.length qc 1 (ivs qm) tq) (hl : sm.length ≤ 64) (hq : qm.length ≤ 64) (i : Int) : Spec Try.prog 65 [rV os sm.length sc oq qm.length qc, .int .i64 i] (rH os sm ts oq qm tq) (fun r H' => ∃ V', r = .tuple #[V', .int .i64 (stepR sm qm 0 1 i).1] ∧ RefIs (stepR sm qm 0 1 i).2.1 (stepR sm qm 0 1 i).2.2 V' H') := by
  refine Spec.of (E := [(0, rV os sm.length sc oq qm.length qc), (1, .int .i64 i)]) Try.func65 rfl (by kernel_rfl) Try.ntmps65 rfl rfl (fun w => ?_)
  refine WC_seq ?_
  refine WC_region ?_
  refine WL_do rfl rfl rfl (D_box (cs := [_, _]) rfl rfl rfl) ?_
  rintro _ _ ⟨b1, rfl, rfl⟩
  refine WL_do rfl rfl rfl (D_alloc rfl zv54) ?_
  rintro _ _ ⟨b2, rfl, rfl⟩
  refine WL_val rfl rfl rfl (R_assign rfl rfl) ?_
  refine WL_nil ?_
  refine WQ_code ?_
  refine WC_seq ?_
  refine WC_region ?_
  refine WL_val rfl rfl rfl (R_loadA (vs := [_, _]) rfl ag54 rfl (mmZ) rfl (atZ)) ?_
  refine WL_val rfl rfl rfl (R_move rfl rfl) ?_
  refine WL_do rfl rfl rfl (D_call (change_ok sm qm os sc ts oq qc tq hos hoq hl hq i 0 1) rfl rfl rfl rfl (pqZ)) ?_
  rintro _ _ ⟨_, ⟨V', rfl, os', sc', ts', oq', qc', tq', rfl, hos', hoq', rfl⟩, rfl⟩
  refine WL_val rfl rfl rfl (R_extract rfl rfl rfl) ?_
  refine WL_val rfl rfl rfl (R_extract rfl rfl rfl) ?_
  refine WL_do0 rfl rfl (D_store (vs := [_, _]) rfl Try.sizeOf54 rfl rfl rfl rfl rfl (plZ) (by exact Nat.le_of_ble_eq_true rfl)) ?_
  rintro _ _ rfl
  refine WL_val rfl rfl rfl (R_assign rfl rfl) ?_
  refine WL_nil ?_
  refine WQ_code ?_
  refine WC_ret ?_
  refine WQ_ret rfl rfl (.cons (.cell (vs := [_, _]) rfl ag54 (mmZ) rfl (atZ)) (.cons (.tmp rfl) .nil)) rfl (by
      exact ⟨_, rfl, os', sc', ts', oq', qc', tq', rfl, hos', hoq', rfl⟩) (pqZ)

theorem park_step (p pe pq pm : Nat) (S : List (Int × Nat)) (c : Nat) (tl : List Value) (Q : List (Nat × Int)) (n : Nat) (es : Array MapEntry) (mc : Nat) (sm qm : List Int) (hw : Tw sm qm S Q n es) (hn : n < 1000000) (i : Int) : Spec Try.prog 36 [ptrQ p, .int .i64 i] (tH p pe pq pm S c tl Q n es mc) (fun r H' => ∃ S' Q' n' es' mc' tl', r = .int .i64 (stepR sm qm 1 2 i).1 ∧ H' = tH p pe pq pm S' c tl' Q' n' es' mc' ∧ Tw (stepR sm qm 1 2 i).2.1 (stepR sm qm 1 2 i).2.2 S' Q' n' es' ∧ n' ≤ n + 1) :=
  (park_ok p pe pq pm S c tl Q n es mc hw.tk hw.mp hn i).mono fun r H' ⟨e, S', Q', n', es', mc', tl', h4, h5, h6, h7⟩ => by
    obtain ⟨rfl, h8, h9⟩ := doq_step hw h6 h7
    exact ⟨S', Q', n', es', mc', tl', h4, h5, h8, h9⟩
theorem rpark_ok (sm qm : List Int) (os : Option Nat) (sc : Nat) (ts : List Value) (oq : Option Nat) (qc : Nat) (tq : List Value) (hos : Own os sm.length sc 1 (ivs sm) ts) (hoq : Own oq qm.length qc 1 (ivs qm) tq) (hl : sm.length ≤ 64) (hq : qm.length ≤ 64) (i : Int) : Spec Try.prog 68 [rV os sm.length sc oq qm.length qc, .int .i64 i] (rH os sm ts oq qm tq) (fun r H' => ∃ V', r = .tuple #[V', .int .i64 (stepR sm qm 1 2 i).1] ∧ RefIs (stepR sm qm 1 2 i).2.1 (stepR sm qm 1 2 i).2.2 V' H') := by
  refine Spec.of (E := [(0, rV os sm.length sc oq qm.length qc), (1, .int .i64 i)]) Try.func68 rfl (by kernel_rfl) Try.ntmps68 rfl rfl (fun w => ?_)
  refine WC_seq ?_
  refine WC_region ?_
  refine WL_do rfl rfl rfl (D_box (cs := [_, _]) rfl rfl rfl) ?_
  rintro _ _ ⟨b1, rfl, rfl⟩
  refine WL_do rfl rfl rfl (D_alloc rfl zv54) ?_
  rintro _ _ ⟨b2, rfl, rfl⟩
  refine WL_val rfl rfl rfl (R_assign rfl rfl) ?_
  refine WL_nil ?_
  refine WQ_code ?_
  refine WC_seq ?_
  refine WC_region ?_
  refine WL_val rfl rfl rfl (R_loadA (vs := [_, _]) rfl ag54 rfl (mmZ) rfl (atZ)) ?_
  refine WL_val rfl rfl rfl (R_move rfl rfl) ?_
  refine WL_do rfl rfl rfl (D_call (change_ok sm qm os sc ts oq qc tq hos hoq hl hq i 1 2) rfl rfl rfl rfl (pqZ)) ?_
  rintro _ _ ⟨_, ⟨V', rfl, os', sc', ts', oq', qc', tq', rfl, hos', hoq', rfl⟩, rfl⟩
  refine WL_val rfl rfl rfl (R_extract rfl rfl rfl) ?_
  refine WL_val rfl rfl rfl (R_extract rfl rfl rfl) ?_
  refine WL_do0 rfl rfl (D_store (vs := [_, _]) rfl Try.sizeOf54 rfl rfl rfl rfl rfl (plZ) (by exact Nat.le_of_ble_eq_true rfl)) ?_
  rintro _ _ rfl
  refine WL_val rfl rfl rfl (R_assign rfl rfl) ?_
  refine WL_nil ?_
  refine WQ_code ?_
  refine WC_ret ?_
  refine WQ_ret rfl rfl (.cons (.cell (vs := [_, _]) rfl ag54 (mmZ) rfl (atZ)) (.cons (.tmp rfl) .nil)) rfl (by
      exact ⟨_, rfl, os', sc', ts', oq', qc', tq', rfl, hos', hoq', rfl⟩) (pqZ)

theorem wake_step (p pe pq pm : Nat) (S : List (Int × Nat)) (c : Nat) (tl : List Value) (Q : List (Nat × Int)) (n : Nat) (es : Array MapEntry) (mc : Nat) (sm qm : List Int) (hw : Tw sm qm S Q n es) (hn : n < 1000000) (i : Int) : Spec Try.prog 61 [ptrQ p, .int .i64 i] (tH p pe pq pm S c tl Q n es mc) (fun r H' => ∃ S' Q' n' es' mc' tl', r = .int .i64 (stepR sm qm 2 1 i).1 ∧ H' = tH p pe pq pm S' c tl' Q' n' es' mc' ∧ Tw (stepR sm qm 2 1 i).2.1 (stepR sm qm 2 1 i).2.2 S' Q' n' es' ∧ n' ≤ n + 1) :=
  (wake_ok p pe pq pm S c tl Q n es mc hw.tk hw.mp hn i).mono fun r H' ⟨e, S', Q', n', es', mc', tl', h4, h5, h6, h7⟩ => by
    obtain ⟨rfl, h8, h9⟩ := doq_step hw h6 h7
    exact ⟨S', Q', n', es', mc', tl', h4, h5, h8, h9⟩
theorem rwake_ok (sm qm : List Int) (os : Option Nat) (sc : Nat) (ts : List Value) (oq : Option Nat) (qc : Nat) (tq : List Value) (hos : Own os sm.length sc 1 (ivs sm) ts) (hoq : Own oq qm.length qc 1 (ivs qm) tq) (hl : sm.length ≤ 64) (hq : qm.length ≤ 64) (i : Int) : Spec Try.prog 69 [rV os sm.length sc oq qm.length qc, .int .i64 i] (rH os sm ts oq qm tq) (fun r H' => ∃ V', r = .tuple #[V', .int .i64 (stepR sm qm 2 1 i).1] ∧ RefIs (stepR sm qm 2 1 i).2.1 (stepR sm qm 2 1 i).2.2 V' H') := by
  refine Spec.of (E := [(0, rV os sm.length sc oq qm.length qc), (1, .int .i64 i)]) Try.func69 rfl (by kernel_rfl) Try.ntmps69 rfl rfl (fun w => ?_)
  refine WC_seq ?_
  refine WC_region ?_
  refine WL_do rfl rfl rfl (D_box (cs := [_, _]) rfl rfl rfl) ?_
  rintro _ _ ⟨b1, rfl, rfl⟩
  refine WL_do rfl rfl rfl (D_alloc rfl zv54) ?_
  rintro _ _ ⟨b2, rfl, rfl⟩
  refine WL_val rfl rfl rfl (R_assign rfl rfl) ?_
  refine WL_nil ?_
  refine WQ_code ?_
  refine WC_seq ?_
  refine WC_region ?_
  refine WL_val rfl rfl rfl (R_loadA (vs := [_, _]) rfl ag54 rfl (mmZ) rfl (atZ)) ?_
  refine WL_val rfl rfl rfl (R_move rfl rfl) ?_
  refine WL_do rfl rfl rfl (D_call (change_ok sm qm os sc ts oq qc tq hos hoq hl hq i 2 1) rfl rfl rfl rfl (pqZ)) ?_
  rintro _ _ ⟨_, ⟨V', rfl, os', sc', ts', oq', qc', tq', rfl, hos', hoq', rfl⟩, rfl⟩
  refine WL_val rfl rfl rfl (R_extract rfl rfl rfl) ?_
  refine WL_val rfl rfl rfl (R_extract rfl rfl rfl) ?_
  refine WL_do0 rfl rfl (D_store (vs := [_, _]) rfl Try.sizeOf54 rfl rfl rfl rfl rfl (plZ) (by exact Nat.le_of_ble_eq_true rfl)) ?_
  rintro _ _ rfl
  refine WL_val rfl rfl rfl (R_assign rfl rfl) ?_
  refine WL_nil ?_
  refine WQ_code ?_
  refine WC_ret ?_
  refine WQ_ret rfl rfl (.cons (.cell (vs := [_, _]) rfl ag54 (mmZ) rfl (atZ)) (.cons (.tmp rfl) .nil)) rfl (by
      exact ⟨_, rfl, os', sc', ts', oq', qc', tq', rfl, hos', hoq', rfl⟩) (pqZ)

theorem finish_step (p pe pq pm : Nat) (S : List (Int × Nat)) (c : Nat) (tl : List Value) (Q : List (Nat × Int)) (n : Nat) (es : Array MapEntry) (mc : Nat) (sm qm : List Int) (hw : Tw sm qm S Q n es) (hn : n < 1000000) (i : Int) : Spec Try.prog 40 [ptrQ p, .int .i64 i] (tH p pe pq pm S c tl Q n es mc) (fun r H' => ∃ S' Q' n' es' mc' tl', r = .int .i64 (stepR sm qm 1 0 i).1 ∧ H' = tH p pe pq pm S' c tl' Q' n' es' mc' ∧ Tw (stepR sm qm 1 0 i).2.1 (stepR sm qm 1 0 i).2.2 S' Q' n' es' ∧ n' ≤ n + 1) :=
  (finish_ok p pe pq pm S c tl Q n es mc hw.tk hw.mp hn i).mono fun r H' ⟨e, S', Q', n', es', mc', tl', h4, h5, h6, h7⟩ => by
    obtain ⟨rfl, h8, h9⟩ := doq_step hw h6 h7
    exact ⟨S', Q', n', es', mc', tl', h4, h5, h8, h9⟩
theorem rfinish_ok (sm qm : List Int) (os : Option Nat) (sc : Nat) (ts : List Value) (oq : Option Nat) (qc : Nat) (tq : List Value) (hos : Own os sm.length sc 1 (ivs sm) ts) (hoq : Own oq qm.length qc 1 (ivs qm) tq) (hl : sm.length ≤ 64) (hq : qm.length ≤ 64) (i : Int) : Spec Try.prog 66 [rV os sm.length sc oq qm.length qc, .int .i64 i] (rH os sm ts oq qm tq) (fun r H' => ∃ V', r = .tuple #[V', .int .i64 (stepR sm qm 1 0 i).1] ∧ RefIs (stepR sm qm 1 0 i).2.1 (stepR sm qm 1 0 i).2.2 V' H') := by
  refine Spec.of (E := [(0, rV os sm.length sc oq qm.length qc), (1, .int .i64 i)]) Try.func66 rfl (by kernel_rfl) Try.ntmps66 rfl rfl (fun w => ?_)
  refine WC_seq ?_
  refine WC_region ?_
  refine WL_do rfl rfl rfl (D_box (cs := [_, _]) rfl rfl rfl) ?_
  rintro _ _ ⟨b1, rfl, rfl⟩
  refine WL_do rfl rfl rfl (D_alloc rfl zv54) ?_
  rintro _ _ ⟨b2, rfl, rfl⟩
  refine WL_val rfl rfl rfl (R_assign rfl rfl) ?_
  refine WL_nil ?_
  refine WQ_code ?_
  refine WC_seq ?_
  refine WC_region ?_
  refine WL_val rfl rfl rfl (R_loadA (vs := [_, _]) rfl ag54 rfl (mmZ) rfl (atZ)) ?_
  refine WL_val rfl rfl rfl (R_move rfl rfl) ?_
  refine WL_do rfl rfl rfl (D_call (change_ok sm qm os sc ts oq qc tq hos hoq hl hq i 1 0) rfl rfl rfl rfl (pqZ)) ?_
  rintro _ _ ⟨_, ⟨V', rfl, os', sc', ts', oq', qc', tq', rfl, hos', hoq', rfl⟩, rfl⟩
  refine WL_val rfl rfl rfl (R_extract rfl rfl rfl) ?_
  refine WL_val rfl rfl rfl (R_extract rfl rfl rfl) ?_
  refine WL_do0 rfl rfl (D_store (vs := [_, _]) rfl Try.sizeOf54 rfl rfl rfl rfl rfl (plZ) (by exact Nat.le_of_ble_eq_true rfl)) ?_
  rintro _ _ rfl
  refine WL_val rfl rfl rfl (R_assign rfl rfl) ?_
  refine WL_nil ?_
  refine WQ_code ?_
  refine WC_ret ?_
  refine WQ_ret rfl rfl (.cons (.cell (vs := [_, _]) rfl ag54 (mmZ) rfl (atZ)) (.cons (.tmp rfl) .nil)) rfl (by
      exact ⟨_, rfl, os', sc', ts', oq', qc', tq', rfl, hos', hoq', rfl⟩) (pqZ)

theorem turn_step (p pe pq pm : Nat) (S : List (Int × Nat)) (c : Nat) (tl : List Value) (Q : List (Nat × Int)) (n : Nat) (es : Array MapEntry) (mc : Nat) (sm qm : List Int) (hw : Tw sm qm S Q n es) (hn : n < 1000000) (i : Int) : Spec Try.prog 41 [ptrQ p, .int .i64 i] (tH p pe pq pm S c tl Q n es mc) (fun r H' => ∃ S' Q' n' es' mc' tl', r = .int .i64 (stepR sm qm 1 1 i).1 ∧ H' = tH p pe pq pm S' c tl' Q' n' es' mc' ∧ Tw (stepR sm qm 1 1 i).2.1 (stepR sm qm 1 1 i).2.2 S' Q' n' es' ∧ n' ≤ n + 1) :=
  (turn_ok p pe pq pm S c tl Q n es mc hw.tk hw.mp hn i).mono fun r H' ⟨e, S', Q', n', es', mc', tl', h4, h5, h6, h7⟩ => by
    obtain ⟨rfl, h8, h9⟩ := doq_step hw h6 h7
    exact ⟨S', Q', n', es', mc', tl', h4, h5, h8, h9⟩
theorem rturn_ok (sm qm : List Int) (os : Option Nat) (sc : Nat) (ts : List Value) (oq : Option Nat) (qc : Nat) (tq : List Value) (hos : Own os sm.length sc 1 (ivs sm) ts) (hoq : Own oq qm.length qc 1 (ivs qm) tq) (hl : sm.length ≤ 64) (hq : qm.length ≤ 64) (i : Int) : Spec Try.prog 67 [rV os sm.length sc oq qm.length qc, .int .i64 i] (rH os sm ts oq qm tq) (fun r H' => ∃ V', r = .tuple #[V', .int .i64 (stepR sm qm 1 1 i).1] ∧ RefIs (stepR sm qm 1 1 i).2.1 (stepR sm qm 1 1 i).2.2 V' H') := by
  refine Spec.of (E := [(0, rV os sm.length sc oq qm.length qc), (1, .int .i64 i)]) Try.func67 rfl (by kernel_rfl) Try.ntmps67 rfl rfl (fun w => ?_)
  refine WC_seq ?_
  refine WC_region ?_
  refine WL_do rfl rfl rfl (D_box (cs := [_, _]) rfl rfl rfl) ?_
  rintro _ _ ⟨b1, rfl, rfl⟩
  refine WL_do rfl rfl rfl (D_alloc rfl zv54) ?_
  rintro _ _ ⟨b2, rfl, rfl⟩
  refine WL_val rfl rfl rfl (R_assign rfl rfl) ?_
  refine WL_nil ?_
  refine WQ_code ?_
  refine WC_seq ?_
  refine WC_region ?_
  refine WL_val rfl rfl rfl (R_loadA (vs := [_, _]) rfl ag54 rfl (mmZ) rfl (atZ)) ?_
  refine WL_val rfl rfl rfl (R_move rfl rfl) ?_
  refine WL_do rfl rfl rfl (D_call (change_ok sm qm os sc ts oq qc tq hos hoq hl hq i 1 1) rfl rfl rfl rfl (pqZ)) ?_
  rintro _ _ ⟨_, ⟨V', rfl, os', sc', ts', oq', qc', tq', rfl, hos', hoq', rfl⟩, rfl⟩
  refine WL_val rfl rfl rfl (R_extract rfl rfl rfl) ?_
  refine WL_val rfl rfl rfl (R_extract rfl rfl rfl) ?_
  refine WL_do0 rfl rfl (D_store (vs := [_, _]) rfl Try.sizeOf54 rfl rfl rfl rfl rfl (plZ) (by exact Nat.le_of_ble_eq_true rfl)) ?_
  rintro _ _ rfl
  refine WL_val rfl rfl rfl (R_assign rfl rfl) ?_
  refine WL_nil ?_
  refine WQ_code ?_
  refine WC_ret ?_
  refine WQ_ret rfl rfl (.cons (.cell (vs := [_, _]) rfl ag54 (mmZ) rfl (atZ)) (.cons (.tmp rfl) .nil)) rfl (by
      exact ⟨_, rfl, os', sc', ts', oq', qc', tq', rfl, hos', hoq', rfl⟩) (pqZ)

end Go.Proofs.Ytljmeemgjbcgeaa
