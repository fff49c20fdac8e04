/-
  Chapter 09 (park), part TaskF: contracts of functions that the laws call, each for the heap it names.
-/
import Derived.Test.YtljmeemgjbcgeaaRows
import Derived.Test.YtljmeemgjbcgeaaZSLQueue
import Derived.Test.YtljmeemgjbcgeaaTab
import Derived.Test.YtljmeemgjbcgeaaTaskD
set_option linter.unusedVariables false
set_option maxRecDepth 20000
set_option maxHeartbeats 1000000
namespace Go.Proofs.Ytljmeemgjbcgeaa


theorem start_nil (i : Int) : Spec Try.prog 32 [.pointer none, .int .i64 i] [] (fun r H' => r = .int .i64 1 ∧ H' = []) := by
  refine Spec.of (E := [(0, .pointer none), (1, .int .i64 i)]) Try.func32 rfl (by kernel_rfl) Try.ntmps32 rfl rfl (fun w => ?_)
  refine WC_seq ?_
  refine WC_region ?_
  refine WL_val rfl rfl rfl (R_assign rfl rfl) ?_
  refine WL_nil ?_
  refine WQ_code ?_
  refine WC_seq ?_
  refine WC_region ?_
  refine WL_val rfl rfl rfl (R_move rfl rfl) ?_
  refine WL_val rfl rfl rfl (R_move rfl rfl) ?_
  refine WL_do rfl rfl rfl (D_call (do_nil i 0) rfl rfl rfl rfl (pqZ)) ?_
  rintro _ _ ⟨_, ⟨rfl, rfl⟩, rfl⟩
  refine WL_val rfl rfl rfl (R_assign rfl rfl) ?_
  refine WL_nil ?_
  refine WQ_code ?_
  refine WC_ret ?_
  refine WQ_ret rfl rfl (.cons (.tmp rfl) .nil) rfl (by
      exact ⟨rfl, rfl⟩) (pqZ)
theorem start_zero (p : Nat) (i : Int) : Spec Try.prog 32 [ptrQ p, .int .i64 i] [⟨some p, cl [.slice none 0 0, .pointer none] 107⟩] (fun r H' => r = .int .i64 1 ∧ H' = [⟨some p, cl [.slice none 0 0, .pointer none] 107⟩]) := by
  refine Spec.of (E := [(0, ptrQ p), (1, .int .i64 i)]) Try.func32 rfl (by kernel_rfl) Try.ntmps32 rfl rfl (fun w => ?_)
  refine WC_seq ?_
  refine WC_region ?_
  refine WL_val rfl rfl rfl (R_assign rfl rfl) ?_
  refine WL_nil ?_
  refine WQ_code ?_
  refine WC_seq ?_
  refine WC_region ?_
  refine WL_val rfl rfl rfl (R_move rfl rfl) ?_
  refine WL_val rfl rfl rfl (R_move rfl rfl) ?_
  refine WL_do rfl rfl rfl (D_call (do_zero p i 0) rfl rfl rfl rfl (pqZ)) ?_
  rintro _ _ ⟨_, ⟨rfl, rfl⟩, rfl⟩
  refine WL_val rfl rfl rfl (R_assign rfl rfl) ?_
  refine WL_nil ?_
  refine WQ_code ?_
  refine WC_ret ?_
  refine WQ_ret rfl rfl (.cons (.tmp rfl) .nil) rfl (by
      exact ⟨rfl, rfl⟩) (pqZ)
theorem start_ok (p pe pq pm : Nat) (S : List (Int × Nat)) (c : Nat) (tl : List Value) (Q : List (Nat × Int)) (n : Nat) (es : Array MapEntry) (mc : Nat) (hk : Tk S Q n) (hM : Mp (.int .u64) ekQ evQ es (nds 0 0 Q)) (hn : n < 1000000) (i : Int) : Spec Try.prog 32 [ptrQ p, .int .i64 i] (tH p pe pq pm S c tl Q n es mc)
    (fun r H' => ∃ e S' Q' n' es' mc' tl', r = .int .i64 e ∧ H' = tH p pe pq pm S' c tl' Q' n' es' mc' ∧ Mp (.int .u64) ekQ evQ es' (nds 0 0 Q') ∧ DoQ S Q n 0 1 i e S' Q' n') := by
  refine Spec.of (E := [(0, ptrQ p), (1, .int .i64 i)]) Try.func32 rfl (by kernel_rfl) Try.ntmps32 rfl rfl (fun w => ?_)
  refine WC_seq ?_
  refine WC_region ?_
  refine WL_val rfl rfl rfl (R_assign rfl rfl) ?_
  refine WL_nil ?_
  refine WQ_code ?_
  refine WC_seq ?_
  refine WC_region ?_
  refine WL_val rfl rfl rfl (R_move rfl rfl) ?_
  refine WL_val rfl rfl rfl (R_move rfl rfl) ?_
  refine WL_do rfl rfl rfl (D_call (do_ok p pe pq pm S c tl Q n es mc hk hM hn 0 0 1 (by decide) i) rfl rfl rfl rfl (pqZ)) ?_
  rintro _ _ ⟨_, ⟨e, S', Q', n', es', mc', tl', rfl, rfl, hM', hd⟩, rfl⟩
  refine WL_val rfl rfl rfl (R_assign rfl rfl) ?_
  refine WL_nil ?_
  refine WQ_code ?_
  refine WC_ret ?_
  refine WQ_ret rfl rfl (.cons (.tmp rfl) .nil) rfl (by
      exact ⟨e, S', Q', n', es', mc', tl', rfl, rfl, hM', hd⟩) (pqZ)

theorem park_nil (i : Int) : Spec Try.prog 36 [.pointer none, .int .i64 i] [] (fun r H' => r = .int .i64 1 ∧ H' = []) := by
  refine Spec.of (E := [(0, .pointer none), (1, .int .i64 i)]) Try.func36 rfl (by kernel_rfl) Try.ntmps36 rfl rfl (fun w => ?_)
  refine WC_seq ?_
  refine WC_region ?_
  refine WL_val rfl rfl rfl (R_assign rfl rfl) ?_
  refine WL_nil ?_
  refine WQ_code ?_
  refine WC_seq ?_
  refine WC_region ?_
  refine WL_val rfl rfl rfl (R_move rfl rfl) ?_
  refine WL_val rfl rfl rfl (R_move rfl rfl) ?_
  refine WL_do rfl rfl rfl (D_call (do_nil i 1) rfl rfl rfl rfl (pqZ)) ?_
  rintro _ _ ⟨_, ⟨rfl, rfl⟩, rfl⟩
  refine WL_val rfl rfl rfl (R_assign rfl rfl) ?_
  refine WL_nil ?_
  refine WQ_code ?_
  refine WC_ret ?_
  refine WQ_ret rfl rfl (.cons (.tmp rfl) .nil) rfl (by
      exact ⟨rfl, rfl⟩) (pqZ)
theorem park_zero (p : Nat) (i : Int) : Spec Try.prog 36 [ptrQ p, .int .i64 i] [⟨some p, cl [.slice none 0 0, .pointer none] 107⟩] (fun r H' => r = .int .i64 1 ∧ H' = [⟨some p, cl [.slice none 0 0, .pointer none] 107⟩]) := by
  refine Spec.of (E := [(0, ptrQ p), (1, .int .i64 i)]) Try.func36 rfl (by kernel_rfl) Try.ntmps36 rfl rfl (fun w => ?_)
  refine WC_seq ?_
  refine WC_region ?_
  refine WL_val rfl rfl rfl (R_assign rfl rfl) ?_
  refine WL_nil ?_
  refine WQ_code ?_
  refine WC_seq ?_
  refine WC_region ?_
  refine WL_val rfl rfl rfl (R_move rfl rfl) ?_
  refine WL_val rfl rfl rfl (R_move rfl rfl) ?_
  refine WL_do rfl rfl rfl (D_call (do_zero p i 1) rfl rfl rfl rfl (pqZ)) ?_
  rintro _ _ ⟨_, ⟨rfl, rfl⟩, rfl⟩
  refine WL_val rfl rfl rfl (R_assign rfl rfl) ?_
  refine WL_nil ?_
  refine WQ_code ?_
  refine WC_ret ?_
  refine WQ_ret rfl rfl (.cons (.tmp rfl) .nil) rfl (by
      exact ⟨rfl, rfl⟩) (pqZ)
theorem park_ok (p pe pq pm : Nat) (S : List (Int × Nat)) (c : Nat) (tl : List Value) (Q : List (Nat × Int)) (n : Nat) (es : Array MapEntry) (mc : Nat) (hk : Tk S Q n) (hM : Mp (.int .u64) ekQ evQ es (nds 0 0 Q)) (hn : n < 1000000) (i : Int) : Spec Try.prog 36 [ptrQ p, .int .i64 i] (tH p pe pq pm S c tl Q n es mc)
    (fun r H' => ∃ e S' Q' n' es' mc' tl', r = .int .i64 e ∧ H' = tH p pe pq pm S' c tl' Q' n' es' mc' ∧ Mp (.int .u64) ekQ evQ es' (nds 0 0 Q') ∧ DoQ S Q n 1 2 i e S' Q' n') := by
  refine Spec.of (E := [(0, ptrQ p), (1, .int .i64 i)]) Try.func36 rfl (by kernel_rfl) Try.ntmps36 rfl rfl (fun w => ?_)
  refine WC_seq ?_
  refine WC_region ?_
  refine WL_val rfl rfl rfl (R_assign rfl rfl) ?_
  refine WL_nil ?_
  refine WQ_code ?_
  refine WC_seq ?_
  refine WC_region ?_
  refine WL_val rfl rfl rfl (R_move rfl rfl) ?_
  refine WL_val rfl rfl rfl (R_move rfl rfl) ?_
  refine WL_do rfl rfl rfl (D_call (do_ok p pe pq pm S c tl Q n es mc hk hM hn 1 1 2 (by decide) i) rfl rfl rfl rfl (pqZ)) ?_
  rintro _ _ ⟨_, ⟨e, S', Q', n', es', mc', tl', rfl, rfl, hM', hd⟩, rfl⟩
  refine WL_val rfl rfl rfl (R_assign rfl rfl) ?_
  refine WL_nil ?_
  refine WQ_code ?_
  refine WC_ret ?_
  refine WQ_ret rfl rfl (.cons (.tmp rfl) .nil) rfl (by
      exact ⟨e, S', Q', n', es', mc', tl', rfl, rfl, hM', hd⟩) (pqZ)

theorem wake_nil (i : Int) : Spec Try.prog 61 [.pointer none, .int .i64 i] [] (fun r H' => r = .int .i64 1 ∧ H' = []) := by
  refine Spec.of (E := [(0, .pointer none), (1, .int .i64 i)]) Try.func61 rfl (by kernel_rfl) Try.ntmps61 rfl rfl (fun w => ?_)
  refine WC_seq ?_
  refine WC_region ?_
  refine WL_val rfl rfl rfl (R_assign rfl rfl) ?_
  refine WL_nil ?_
  refine WQ_code ?_
  refine WC_seq ?_
  refine WC_region ?_
  refine WL_val rfl rfl rfl (R_move rfl rfl) ?_
  refine WL_val rfl rfl rfl (R_move rfl rfl) ?_
  refine WL_do rfl rfl rfl (D_call (do_nil i 2) rfl rfl rfl rfl (pqZ)) ?_
  rintro _ _ ⟨_, ⟨rfl, rfl⟩, rfl⟩
  refine WL_val rfl rfl rfl (R_assign rfl rfl) ?_
  refine WL_nil ?_
  refine WQ_code ?_
  refine WC_ret ?_
  refine WQ_ret rfl rfl (.cons (.tmp rfl) .nil) rfl (by
      exact ⟨rfl, rfl⟩) (pqZ)
theorem wake_zero (p : Nat) (i : Int) : Spec Try.prog 61 [ptrQ p, .int .i64 i] [⟨some p, cl [.slice none 0 0, .pointer none] 107⟩] (fun r H' => r = .int .i64 1 ∧ H' = [⟨some p, cl [.slice none 0 0, .pointer none] 107⟩]) := by
  refine Spec.of (E := [(0, ptrQ p), (1, .int .i64 i)]) Try.func61 rfl (by kernel_rfl) Try.ntmps61 rfl rfl (fun w => ?_)
  refine WC_seq ?_
  refine WC_region ?_
  refine WL_val rfl rfl rfl (R_assign rfl rfl) ?_
  refine WL_nil ?_
  refine WQ_code ?_
  refine WC_seq ?_
  refine WC_region ?_
  refine WL_val rfl rfl rfl (R_move rfl rfl) ?_
  refine WL_val rfl rfl rfl (R_move rfl rfl) ?_
  refine WL_do rfl rfl rfl (D_call (do_zero p i 2) rfl rfl rfl rfl (pqZ)) ?_
  rintro _ _ ⟨_, ⟨rfl, rfl⟩, rfl⟩
  refine WL_val rfl rfl rfl (R_assign rfl rfl) ?_
  refine WL_nil ?_
  refine WQ_code ?_
  refine WC_ret ?_
  refine WQ_ret rfl rfl (.cons (.tmp rfl) .nil) rfl (by
      exact ⟨rfl, rfl⟩) (pqZ)
theorem wake_ok (p pe pq pm : Nat) (S : List (Int × Nat)) (c : Nat) (tl : List Value) (Q : List (Nat × Int)) (n : Nat) (es : Array MapEntry) (mc : Nat) (hk : Tk S Q n) (hM : Mp (.int .u64) ekQ evQ es (nds 0 0 Q)) (hn : n < 1000000) (i : Int) : Spec Try.prog 61 [ptrQ p, .int .i64 i] (tH p pe pq pm S c tl Q n es mc)
    (fun r H' => ∃ e S' Q' n' es' mc' tl', r = .int .i64 e ∧ H' = tH p pe pq pm S' c tl' Q' n' es' mc' ∧ Mp (.int .u64) ekQ evQ es' (nds 0 0 Q') ∧ DoQ S Q n 2 1 i e S' Q' n') := by
  refine Spec.of (E := [(0, ptrQ p), (1, .int .i64 i)]) Try.func61 rfl (by kernel_rfl) Try.ntmps61 rfl rfl (fun w => ?_)
  refine WC_seq ?_
  refine WC_region ?_
  refine WL_val rfl rfl rfl (R_assign rfl rfl) ?_
  refine WL_nil ?_
  refine WQ_code ?_
  refine WC_seq ?_
  refine WC_region ?_
  refine WL_val rfl rfl rfl (R_move rfl rfl) ?_
  refine WL_val rfl rfl rfl (R_move rfl rfl) ?_
  refine WL_do rfl rfl rfl (D_call (do_ok p pe pq pm S c tl Q n es mc hk hM hn 2 2 1 (by decide) i) rfl rfl rfl rfl (pqZ)) ?_
  rintro _ _ ⟨_, ⟨e, S', Q', n', es', mc', tl', rfl, rfl, hM', hd⟩, rfl⟩
  refine WL_val rfl rfl rfl (R_assign rfl rfl) ?_
  refine WL_nil ?_
  refine WQ_code ?_
  refine WC_ret ?_
  refine WQ_ret rfl rfl (.cons (.tmp rfl) .nil) rfl (by
      exact ⟨e, S', Q', n', es', mc', tl', rfl, rfl, hM', hd⟩) (pqZ)

theorem finish_nil (i : Int) : Spec Try.prog 40 [.pointer none, .int .i64 i] [] (fun r H' => r = .int .i64 1 ∧ H' = []) := by
  refine Spec.of (E := [(0, .pointer none), (1, .int .i64 i)]) Try.func40 rfl (by kernel_rfl) Try.ntmps40 rfl rfl (fun w => ?_)
  refine WC_seq ?_
  refine WC_region ?_
  refine WL_val rfl rfl rfl (R_assign rfl rfl) ?_
  refine WL_nil ?_
  refine WQ_code ?_
  refine WC_seq ?_
  refine WC_region ?_
  refine WL_val rfl rfl rfl (R_move rfl rfl) ?_
  refine WL_val rfl rfl rfl (R_move rfl rfl) ?_
  refine WL_do rfl rfl rfl (D_call (do_nil i 3) rfl rfl rfl rfl (pqZ)) ?_
  rintro _ _ ⟨_, ⟨rfl, rfl⟩, rfl⟩
  refine WL_val rfl rfl rfl (R_assign rfl rfl) ?_
  refine WL_nil ?_
  refine WQ_code ?_
  refine WC_ret ?_
  refine WQ_ret rfl rfl (.cons (.tmp rfl) .nil) rfl (by
      exact ⟨rfl, rfl⟩) (pqZ)
theorem finish_zero (p : Nat) (i : Int) : Spec Try.prog 40 [ptrQ p, .int .i64 i] [⟨some p, cl [.slice none 0 0, .pointer none] 107⟩] (fun r H' => r = .int .i64 1 ∧ H' = [⟨some p, cl [.slice none 0 0, .pointer none] 107⟩]) := by
  refine Spec.of (E := [(0, ptrQ p), (1, .int .i64 i)]) Try.func40 rfl (by kernel_rfl) Try.ntmps40 rfl rfl (fun w => ?_)
  refine WC_seq ?_
  refine WC_region ?_
  refine WL_val rfl rfl rfl (R_assign rfl rfl) ?_
  refine WL_nil ?_
  refine WQ_code ?_
  refine WC_seq ?_
  refine WC_region ?_
  refine WL_val rfl rfl rfl (R_move rfl rfl) ?_
  refine WL_val rfl rfl rfl (R_move rfl rfl) ?_
  refine WL_do rfl rfl rfl (D_call (do_zero p i 3) rfl rfl rfl rfl (pqZ)) ?_
  rintro _ _ ⟨_, ⟨rfl, rfl⟩, rfl⟩
  refine WL_val rfl rfl rfl (R_assign rfl rfl) ?_
  refine WL_nil ?_
  refine WQ_code ?_
  refine WC_ret ?_
  refine WQ_ret rfl rfl (.cons (.tmp rfl) .nil) rfl (by
      exact ⟨rfl, rfl⟩) (pqZ)
theorem finish_ok (p pe pq pm : Nat) (S : List (Int × Nat)) (c : Nat) (tl : List Value) (Q : List (Nat × Int)) (n : Nat) (es : Array MapEntry) (mc : Nat) (hk : Tk S Q n) (hM : Mp (.int .u64) ekQ evQ es (nds 0 0 Q)) (hn : n < 1000000) (i : Int) : Spec Try.prog 40 [ptrQ p, .int .i64 i] (tH p pe pq pm S c tl Q n es mc)
    (fun r H' => ∃ e S' Q' n' es' mc' tl', r = .int .i64 e ∧ H' = tH p pe pq pm S' c tl' Q' n' es' mc' ∧ Mp (.int .u64) ekQ evQ es' (nds 0 0 Q') ∧ DoQ S Q n 1 0 i e S' Q' n') := by
  refine Spec.of (E := [(0, ptrQ p), (1, .int .i64 i)]) Try.func40 rfl (by kernel_rfl) Try.ntmps40 rfl rfl (fun w => ?_)
  refine WC_seq ?_
  refine WC_region ?_
  refine WL_val rfl rfl rfl (R_assign rfl rfl) ?_
  refine WL_nil ?_
  refine WQ_code ?_
  refine WC_seq ?_
  refine WC_region ?_
  refine WL_val rfl rfl rfl (R_move rfl rfl) ?_
  refine WL_val rfl rfl rfl (R_move rfl rfl) ?_
  refine WL_do rfl rfl rfl (D_call (do_ok p pe pq pm S c tl Q n es mc hk hM hn 3 1 0 (by decide) i) rfl rfl rfl rfl (pqZ)) ?_
  rintro _ _ ⟨_, ⟨e, S', Q', n', es', mc', tl', rfl, rfl, hM', hd⟩, rfl⟩
  refine WL_val rfl rfl rfl (R_assign rfl rfl) ?_
  refine WL_nil ?_
  refine WQ_code ?_
  refine WC_ret ?_
  refine WQ_ret rfl rfl (.cons (.tmp rfl) .nil) rfl (by
      exact ⟨e, S', Q', n', es', mc', tl', rfl, rfl, hM', hd⟩) (pqZ)

theorem turn_nil (i : Int) : Spec Try.prog 41 [.pointer none, .int .i64 i] [] (fun r H' => r = .int .i64 1 ∧ H' = []) := by
  refine Spec.of (E := [(0, .pointer none), (1, .int .i64 i)]) Try.func41 rfl (by kernel_rfl) Try.ntmps41 rfl rfl (fun w => ?_)
  refine WC_seq ?_
  refine WC_region ?_
  refine WL_val rfl rfl rfl (R_assign rfl rfl) ?_
  refine WL_nil ?_
  refine WQ_code ?_
  refine WC_seq ?_
  refine WC_region ?_
  refine WL_val rfl rfl rfl (R_move rfl rfl) ?_
  refine WL_val rfl rfl rfl (R_move rfl rfl) ?_
  refine WL_do rfl rfl rfl (D_call (do_nil i 4) rfl rfl rfl rfl (pqZ)) ?_
  rintro _ _ ⟨_, ⟨rfl, rfl⟩, rfl⟩
  refine WL_val rfl rfl rfl (R_assign rfl rfl) ?_
  refine WL_nil ?_
  refine WQ_code ?_
  refine WC_ret ?_
  refine WQ_ret rfl rfl (.cons (.tmp rfl) .nil) rfl (by
      exact ⟨rfl, rfl⟩) (pqZ)
theorem turn_zero (p : Nat) (i : Int) : Spec Try.prog 41 [ptrQ p, .int .i64 i] [⟨some p, cl [.slice none 0 0, .pointer none] 107⟩] (fun r H' => r = .int .i64 1 ∧ H' = [⟨some p, cl [.slice none 0 0, .pointer none] 107⟩]) := by
  refine Spec.of (E := [(0, ptrQ p), (1, .int .i64 i)]) Try.func41 rfl (by kernel_rfl) Try.ntmps41 rfl rfl (fun w => ?_)
  refine WC_seq ?_
  refine WC_region ?_
  refine WL_val rfl rfl rfl (R_assign rfl rfl) ?_
  refine WL_nil ?_
  refine WQ_code ?_
  refine WC_seq ?_
  refine WC_region ?_
  refine WL_val rfl rfl rfl (R_move rfl rfl) ?_
  refine WL_val rfl rfl rfl (R_move rfl rfl) ?_
  refine WL_do rfl rfl rfl (D_call (do_zero p i 4) rfl rfl rfl rfl (pqZ)) ?_
  rintro _ _ ⟨_, ⟨rfl, rfl⟩, rfl⟩
  refine WL_val rfl rfl rfl (R_assign rfl rfl) ?_
  refine WL_nil ?_
  refine WQ_code ?_
  refine WC_ret ?_
  refine WQ_ret rfl rfl (.cons (.tmp rfl) .nil) rfl (by
      exact ⟨rfl, rfl⟩) (pqZ)
theorem turn_ok (p pe pq pm : Nat) (S : List (Int × Nat)) (c : Nat) (tl : List Value) (Q : List (Nat × Int)) (n : Nat) (es : Array MapEntry) (mc : Nat) (hk : Tk S Q n) (hM : Mp (.int .u64) ekQ evQ es (nds 0 0 Q)) (hn : n < 1000000) (i : Int) : Spec Try.prog 41 [ptrQ p, .int .i64 i] (tH p pe pq pm S c tl Q n es mc)
    (fun r H' => ∃ e S' Q' n' es' mc' tl', r = .int .i64 e ∧ H' = tH p pe pq pm S' c tl' Q' n' es' mc' ∧ Mp (.int .u64) ekQ evQ es' (nds 0 0 Q') ∧ DoQ S Q n 1 1 i e S' Q' n') := by
  refine Spec.of (E := [(0, ptrQ p), (1, .int .i64 i)]) Try.func41 rfl (by kernel_rfl) Try.ntmps41 rfl rfl (fun w => ?_)
  refine WC_seq ?_
  refine WC_region ?_
  refine WL_val rfl rfl rfl (R_assign rfl rfl) ?_
  refine WL_nil ?_
  refine WQ_code ?_
  refine WC_seq ?_
  refine WC_region ?_
  refine WL_val rfl rfl rfl (R_move rfl rfl) ?_
  refine WL_val rfl rfl rfl (R_move rfl rfl) ?_
  refine WL_do rfl rfl rfl (D_call (do_ok p pe pq pm S c tl Q n es mc hk hM hn 4 1 1 (by decide) i) rfl rfl rfl rfl (pqZ)) ?_
  rintro _ _ ⟨_, ⟨e, S', Q', n', es', mc', tl', rfl, rfl, hM', hd⟩, rfl⟩
  refine WL_val rfl rfl rfl (R_assign rfl rfl) ?_
  refine WL_nil ?_
  refine WQ_code ?_
  refine WC_ret ?_
  refine WQ_ret rfl rfl (.cons (.tmp rfl) .nil) rfl (by
      exact ⟨e, S', Q', n', es', mc', tl', rfl, rfl, hM', hd⟩) (pqZ)

end Go.Proofs.Ytljmeemgjbcgeaa
