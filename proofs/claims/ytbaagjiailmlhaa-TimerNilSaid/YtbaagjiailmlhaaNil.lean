/-
  Chapter 03 (timer), part Nil: contracts of functions that the laws call, each for the heap it names.
-/
import Derived.Test.YtbaagjiailmlhaaRows
import Derived.Test.YtbaagjiailmlhaaSLPhase
import Derived.Test.YtbaagjiailmlhaaSLInt
import Derived.Test.YtbaagjiailmlhaaTab
import Derived.Test.YtbaagjiailmlhaaKnown
import Derived.Test.YtbaagjiailmlhaaSLMore
set_option linter.unusedVariables false
set_option maxRecDepth 20000
set_option maxHeartbeats 1000000
namespace Go.Proofs.Ytbaagjiailmlhaa


theorem mset_nil (p : Nat) (k : Nat) (o a b : Int) : Spec Try.prog 10 [.pointer none, .int .u64 (k : Int), .int .i64 o] [] (fun r H' => r = .tuple #[.agg #[.int .i64 0, .int .i64 0], .int .i64 1] ∧ H' = []) := by
  refine Spec.of (E := [(0, .pointer none), (1, .int .u64 (k : Int)), (2, .int .i64 o)]) Try.func10 rfl (by kernel_rfl) Try.ntmps10 rfl rfl (fun w => ?_)
  refine WC_seq ?_
  refine WC_region ?_
  refine WL_do rfl rfl rfl (D_alloc rfl zv26) ?_
  rintro _ _ ⟨b1, rfl, rfl⟩
  refine WL_val rfl rfl rfl (R_assign rfl rfl) ?_
  refine WL_nil ?_
  refine WQ_code ?_
  refine WC_seq ?_
  refine WC_block ?_
  refine WC_seq ?_
  refine WC_region ?_
  refine WL_val rfl rfl rfl (R_move rfl rfl) ?_
  refine WL_do rfl rfl rfl (D_call (mzero_nil) rfl rfl rfl rfl (by repeat (first | exact Pulls.nil | exact Pulls.all | (apply Pulls.cons; (repeat (first | exact Pull.head | apply Pull.tail))) | apply Pulls.skip))) ?_
  rintro _ _ ⟨_, ⟨rfl, rfl⟩, rfl⟩
  refine WL_val rfl rfl rfl (R_assign rfl rfl) ?_
  refine WL_nil ?_
  refine WQ_code ?_
  refine WC_T rfl ?_
  refine WC_seq ?_
  refine WC_region ?_
  refine WL_val rfl rfl rfl (R_build rfl zv26 pl26 rfl rfl) ?_
  refine WL_do0 rfl rfl (D_store (vs := [_, _]) rfl Try.sizeOf26 rfl rfl rfl rfl rfl (by repeat (first | exact Pull.head | apply Pull.tail)) (by exact Nat.le_of_ble_eq_true rfl)) ?_
  rintro _ _ rfl
  refine WL_val rfl rfl rfl (R_assign rfl rfl) ?_
  refine WL_nil ?_
  refine WQ_code ?_
  refine WC_ret ?_
  refine WQ_ret rfl rfl (.cons (.cell (vs := [_, _]) rfl ag26 (by repeat (first | exact List.Mem.head _ | refine List.Mem.tail _ ?_)) rfl (by repeat (first | exact At.nil | refine At.cons ?_ | refine At.succ ?_))) (.cons (.tmp rfl) .nil)) rfl (by
      exact ⟨rfl, rfl⟩) (by repeat (first | exact Pulls.nil | exact Pulls.all | (apply Pulls.cons; (repeat (first | exact Pull.head | apply Pull.tail))) | apply Pulls.skip))

theorem mset_zero (p : Nat) (k : Nat) (o a b : Int) : Spec Try.prog 10 [ptrH p, .int .u64 (k : Int), .int .i64 o] [⟨some p, cl [.pointer none, .slice none 0 0] 63⟩] (fun r H' => r = .tuple #[.agg #[.int .i64 0, .int .i64 0], .int .i64 1] ∧ H' = [⟨some p, cl [.pointer none, .slice none 0 0] 63⟩]) := by
  refine Spec.of (E := [(0, ptrH p), (1, .int .u64 (k : Int)), (2, .int .i64 o)]) Try.func10 rfl (by kernel_rfl) Try.ntmps10 rfl rfl (fun w => ?_)
  refine WC_seq ?_
  refine WC_region ?_
  refine WL_do rfl rfl rfl (D_alloc rfl zv26) ?_
  rintro _ _ ⟨b1, rfl, rfl⟩
  refine WL_val rfl rfl rfl (R_assign rfl rfl) ?_
  refine WL_nil ?_
  refine WQ_code ?_
  refine WC_seq ?_
  refine WC_block ?_
  refine WC_seq ?_
  refine WC_region ?_
  refine WL_val rfl rfl rfl (R_move rfl rfl) ?_
  refine WL_do rfl rfl rfl (D_call (mzero_zero p (.slice none 0 0)) rfl rfl rfl rfl (by repeat (first | exact Pulls.nil | exact Pulls.all | (apply Pulls.cons; (repeat (first | exact Pull.head | apply Pull.tail))) | apply Pulls.skip))) ?_
  rintro _ _ ⟨_, ⟨rfl, rfl⟩, rfl⟩
  refine WL_val rfl rfl rfl (R_assign rfl rfl) ?_
  refine WL_nil ?_
  refine WQ_code ?_
  refine WC_T rfl ?_
  refine WC_seq ?_
  refine WC_region ?_
  refine WL_val rfl rfl rfl (R_build rfl zv26 pl26 rfl rfl) ?_
  refine WL_do0 rfl rfl (D_store (vs := [_, _]) rfl Try.sizeOf26 rfl rfl rfl rfl rfl (by repeat (first | exact Pull.head | apply Pull.tail)) (by exact Nat.le_of_ble_eq_true rfl)) ?_
  rintro _ _ rfl
  refine WL_val rfl rfl rfl (R_assign rfl rfl) ?_
  refine WL_nil ?_
  refine WQ_code ?_
  refine WC_ret ?_
  refine WQ_ret rfl rfl (.cons (.cell (vs := [_, _]) rfl ag26 (by repeat (first | exact List.Mem.head _ | refine List.Mem.tail _ ?_)) rfl (by repeat (first | exact At.nil | refine At.cons ?_ | refine At.succ ?_))) (.cons (.tmp rfl) .nil)) rfl (by
      exact ⟨rfl, rfl⟩) (by repeat (first | exact Pulls.nil | exact Pulls.all | (apply Pulls.cons; (repeat (first | exact Pull.head | apply Pull.tail))) | apply Pulls.skip))

theorem mget_nil (p : Nat) (k : Nat) (o a b : Int) : Spec Try.prog 24 [.pointer none, .agg #[.int .i64 a, .int .i64 b]] [] (fun r H' => r = .tuple #[.int .u64 0, .int .i64 0, .int .i64 1] ∧ H' = []) := by
  refine Spec.of (E := [(0, .pointer none), (1, .agg #[.int .i64 a, .int .i64 b])]) Try.func24 rfl (by kernel_rfl) Try.ntmps24 rfl rfl (fun w => ?_)
  refine WC_seq ?_
  refine WC_region ?_
  refine WL_do rfl rfl rfl (D_box (cs := [_, _]) rfl rfl rfl) ?_
  rintro _ _ ⟨b1, rfl, rfl⟩
  refine WL_val rfl rfl rfl (R_assign rfl rfl) ?_
  refine WL_val rfl rfl rfl (R_assign rfl rfl) ?_
  refine WL_val rfl rfl rfl (R_assign rfl rfl) ?_
  refine WL_nil ?_
  refine WQ_code ?_
  refine WC_seq ?_
  refine WC_block ?_
  refine WC_seq ?_
  refine WC_region ?_
  refine WL_val rfl rfl rfl (R_move rfl rfl) ?_
  refine WL_do rfl rfl rfl (D_call (mzero_nil) rfl rfl rfl rfl (by repeat (first | exact Pulls.nil | exact Pulls.all | (apply Pulls.cons; (repeat (first | exact Pull.head | apply Pull.tail))) | apply Pulls.skip))) ?_
  rintro _ _ ⟨_, ⟨rfl, rfl⟩, rfl⟩
  refine WL_val rfl rfl rfl (R_assign rfl rfl) ?_
  refine WL_nil ?_
  refine WQ_code ?_
  refine WC_T rfl ?_
  refine WC_seq ?_
  refine WC_region ?_
  refine WL_val rfl rfl rfl (R_assign rfl rfl) ?_
  refine WL_val rfl rfl rfl (R_assign rfl rfl) ?_
  refine WL_val rfl rfl rfl (R_assign rfl rfl) ?_
  refine WL_nil ?_
  refine WQ_code ?_
  refine WC_ret ?_
  refine WQ_ret rfl rfl (.cons (.tmp rfl) (.cons (.tmp rfl) (.cons (.tmp rfl) .nil))) rfl (by
      exact ⟨rfl, rfl⟩) (by repeat (first | exact Pulls.nil | exact Pulls.all | (apply Pulls.cons; (repeat (first | exact Pull.head | apply Pull.tail))) | apply Pulls.skip))

theorem mget_zero (p : Nat) (k : Nat) (o a b : Int) : Spec Try.prog 24 [ptrH p, .agg #[.int .i64 a, .int .i64 b]] [⟨some p, cl [.pointer none, .slice none 0 0] 63⟩] (fun r H' => r = .tuple #[.int .u64 0, .int .i64 0, .int .i64 1] ∧ H' = [⟨some p, cl [.pointer none, .slice none 0 0] 63⟩]) := by
  refine Spec.of (E := [(0, ptrH p), (1, .agg #[.int .i64 a, .int .i64 b])]) Try.func24 rfl (by kernel_rfl) Try.ntmps24 rfl rfl (fun w => ?_)
  refine WC_seq ?_
  refine WC_region ?_
  refine WL_do rfl rfl rfl (D_box (cs := [_, _]) rfl rfl rfl) ?_
  rintro _ _ ⟨b1, rfl, rfl⟩
  refine WL_val rfl rfl rfl (R_assign rfl rfl) ?_
  refine WL_val rfl rfl rfl (R_assign rfl rfl) ?_
  refine WL_val rfl rfl rfl (R_assign rfl rfl) ?_
  refine WL_nil ?_
  refine WQ_code ?_
  refine WC_seq ?_
  refine WC_block ?_
  refine WC_seq ?_
  refine WC_region ?_
  refine WL_val rfl rfl rfl (R_move rfl rfl) ?_
  refine WL_do rfl rfl rfl (D_call (mzero_zero p (.slice none 0 0)) rfl rfl rfl rfl (by repeat (first | exact Pulls.nil | exact Pulls.all | (apply Pulls.cons; (repeat (first | exact Pull.head | apply Pull.tail))) | apply Pulls.skip))) ?_
  rintro _ _ ⟨_, ⟨rfl, rfl⟩, rfl⟩
  refine WL_val rfl rfl rfl (R_assign rfl rfl) ?_
  refine WL_nil ?_
  refine WQ_code ?_
  refine WC_T rfl ?_
  refine WC_seq ?_
  refine WC_region ?_
  refine WL_val rfl rfl rfl (R_assign rfl rfl) ?_
  refine WL_val rfl rfl rfl (R_assign rfl rfl) ?_
  refine WL_val rfl rfl rfl (R_assign rfl rfl) ?_
  refine WL_nil ?_
  refine WQ_code ?_
  refine WC_ret ?_
  refine WQ_ret rfl rfl (.cons (.tmp rfl) (.cons (.tmp rfl) (.cons (.tmp rfl) .nil))) rfl (by
      exact ⟨rfl, rfl⟩) (by repeat (first | exact Pulls.nil | exact Pulls.all | (apply Pulls.cons; (repeat (first | exact Pull.head | apply Pull.tail))) | apply Pulls.skip))

theorem mreset_nil (p : Nat) (k : Nat) (o a b : Int) : Spec Try.prog 15 [.pointer none, .agg #[.int .i64 a, .int .i64 b], .int .u64 (k : Int)] [] (fun r H' => r = .int .i64 1 ∧ H' = []) := by
  refine Spec.of (E := [(0, .pointer none), (1, .agg #[.int .i64 a, .int .i64 b]), (2, .int .u64 (k : Int))]) Try.func15 rfl (by kernel_rfl) Try.ntmps15 rfl rfl (fun w => ?_)
  refine WC_seq ?_
  refine WC_region ?_
  refine WL_do rfl rfl rfl (D_box (cs := [_, _]) rfl rfl rfl) ?_
  rintro _ _ ⟨b1, rfl, rfl⟩
  refine WL_val rfl rfl rfl (R_assign rfl rfl) ?_
  refine WL_nil ?_
  refine WQ_code ?_
  refine WC_seq ?_
  refine WC_block ?_
  refine WC_seq ?_
  refine WC_region ?_
  refine WL_val rfl rfl rfl (R_move rfl rfl) ?_
  refine WL_do rfl rfl rfl (D_call (mzero_nil) rfl rfl rfl rfl (by repeat (first | exact Pulls.nil | exact Pulls.all | (apply Pulls.cons; (repeat (first | exact Pull.head | apply Pull.tail))) | apply Pulls.skip))) ?_
  rintro _ _ ⟨_, ⟨rfl, rfl⟩, rfl⟩
  refine WL_val rfl rfl rfl (R_assign rfl rfl) ?_
  refine WL_nil ?_
  refine WQ_code ?_
  refine WC_T rfl ?_
  refine WC_seq ?_
  refine WC_region ?_
  refine WL_val rfl rfl rfl (R_assign rfl rfl) ?_
  refine WL_nil ?_
  refine WQ_code ?_
  refine WC_ret ?_
  refine WQ_ret rfl rfl (.cons (.tmp rfl) .nil) rfl (by
      exact ⟨rfl, rfl⟩) (by repeat (first | exact Pulls.nil | exact Pulls.all | (apply Pulls.cons; (repeat (first | exact Pull.head | apply Pull.tail))) | apply Pulls.skip))

theorem mreset_zero (p : Nat) (k : Nat) (o a b : Int) : Spec Try.prog 15 [ptrH p, .agg #[.int .i64 a, .int .i64 b], .int .u64 (k : Int)] [⟨some p, cl [.pointer none, .slice none 0 0] 63⟩] (fun r H' => r = .int .i64 1 ∧ H' = [⟨some p, cl [.pointer none, .slice none 0 0] 63⟩]) := by
  refine Spec.of (E := [(0, ptrH p), (1, .agg #[.int .i64 a, .int .i64 b]), (2, .int .u64 (k : Int))]) Try.func15 rfl (by kernel_rfl) Try.ntmps15 rfl rfl (fun w => ?_)
  refine WC_seq ?_
  refine WC_region ?_
  refine WL_do rfl rfl rfl (D_box (cs := [_, _]) rfl rfl rfl) ?_
  rintro _ _ ⟨b1, rfl, rfl⟩
  refine WL_val rfl rfl rfl (R_assign rfl rfl) ?_
  refine WL_nil ?_
  refine WQ_code ?_
  refine WC_seq ?_
  refine WC_block ?_
  refine WC_seq ?_
  refine WC_region ?_
  refine WL_val rfl rfl rfl (R_move rfl rfl) ?_
  refine WL_do rfl rfl rfl (D_call (mzero_zero p (.slice none 0 0)) rfl rfl rfl rfl (by repeat (first | exact Pulls.nil | exact Pulls.all | (apply Pulls.cons; (repeat (first | exact Pull.head | apply Pull.tail))) | apply Pulls.skip))) ?_
  rintro _ _ ⟨_, ⟨rfl, rfl⟩, rfl⟩
  refine WL_val rfl rfl rfl (R_assign rfl rfl) ?_
  refine WL_nil ?_
  refine WQ_code ?_
  refine WC_T rfl ?_
  refine WC_seq ?_
  refine WC_region ?_
  refine WL_val rfl rfl rfl (R_assign rfl rfl) ?_
  refine WL_nil ?_
  refine WQ_code ?_
  refine WC_ret ?_
  refine WQ_ret rfl rfl (.cons (.tmp rfl) .nil) rfl (by
      exact ⟨rfl, rfl⟩) (by repeat (first | exact Pulls.nil | exact Pulls.all | (apply Pulls.cons; (repeat (first | exact Pull.head | apply Pull.tail))) | apply Pulls.skip))

theorem mstop_nil (p : Nat) (k : Nat) (o a b : Int) : Spec Try.prog 13 [.pointer none, .agg #[.int .i64 a, .int .i64 b]] [] (fun r H' => r = .int .i64 1 ∧ H' = []) := by
  refine Spec.of (E := [(0, .pointer none), (1, .agg #[.int .i64 a, .int .i64 b])]) Try.func13 rfl (by kernel_rfl) Try.ntmps13 rfl rfl (fun w => ?_)
  refine WC_seq ?_
  refine WC_region ?_
  refine WL_do rfl rfl rfl (D_box (cs := [_, _]) rfl rfl rfl) ?_
  rintro _ _ ⟨b1, rfl, rfl⟩
  refine WL_val rfl rfl rfl (R_assign rfl rfl) ?_
  refine WL_nil ?_
  refine WQ_code ?_
  refine WC_seq ?_
  refine WC_block ?_
  refine WC_seq ?_
  refine WC_region ?_
  refine WL_val rfl rfl rfl (R_move rfl rfl) ?_
  refine WL_do rfl rfl rfl (D_call (mzero_nil) rfl rfl rfl rfl (by repeat (first | exact Pulls.nil | exact Pulls.all | (apply Pulls.cons; (repeat (first | exact Pull.head | apply Pull.tail))) | apply Pulls.skip))) ?_
  rintro _ _ ⟨_, ⟨rfl, rfl⟩, rfl⟩
  refine WL_val rfl rfl rfl (R_assign rfl rfl) ?_
  refine WL_nil ?_
  refine WQ_code ?_
  refine WC_T rfl ?_
  refine WC_seq ?_
  refine WC_region ?_
  refine WL_val rfl rfl rfl (R_assign rfl rfl) ?_
  refine WL_nil ?_
  refine WQ_code ?_
  refine WC_ret ?_
  refine WQ_ret rfl rfl (.cons (.tmp rfl) .nil) rfl (by
      exact ⟨rfl, rfl⟩) (by repeat (first | exact Pulls.nil | exact Pulls.all | (apply Pulls.cons; (repeat (first | exact Pull.head | apply Pull.tail))) | apply Pulls.skip))

theorem mstop_zero (p : Nat) (k : Nat) (o a b : Int) : Spec Try.prog 13 [ptrH p, .agg #[.int .i64 a, .int .i64 b]] [⟨some p, cl [.pointer none, .slice none 0 0] 63⟩] (fun r H' => r = .int .i64 1 ∧ H' = [⟨some p, cl [.pointer none, .slice none 0 0] 63⟩]) := by
  refine Spec.of (E := [(0, ptrH p), (1, .agg #[.int .i64 a, .int .i64 b])]) Try.func13 rfl (by kernel_rfl) Try.ntmps13 rfl rfl (fun w => ?_)
  refine WC_seq ?_
  refine WC_region ?_
  refine WL_do rfl rfl rfl (D_box (cs := [_, _]) rfl rfl rfl) ?_
  rintro _ _ ⟨b1, rfl, rfl⟩
  refine WL_val rfl rfl rfl (R_assign rfl rfl) ?_
  refine WL_nil ?_
  refine WQ_code ?_
  refine WC_seq ?_
  refine WC_block ?_
  refine WC_seq ?_
  refine WC_region ?_
  refine WL_val rfl rfl rfl (R_move rfl rfl) ?_
  refine WL_do rfl rfl rfl (D_call (mzero_zero p (.slice none 0 0)) rfl rfl rfl rfl (by repeat (first | exact Pulls.nil | exact Pulls.all | (apply Pulls.cons; (repeat (first | exact Pull.head | apply Pull.tail))) | apply Pulls.skip))) ?_
  rintro _ _ ⟨_, ⟨rfl, rfl⟩, rfl⟩
  refine WL_val rfl rfl rfl (R_assign rfl rfl) ?_
  refine WL_nil ?_
  refine WQ_code ?_
  refine WC_T rfl ?_
  refine WC_seq ?_
  refine WC_region ?_
  refine WL_val rfl rfl rfl (R_assign rfl rfl) ?_
  refine WL_nil ?_
  refine WQ_code ?_
  refine WC_ret ?_
  refine WQ_ret rfl rfl (.cons (.tmp rfl) .nil) rfl (by
      exact ⟨rfl, rfl⟩) (by repeat (first | exact Pulls.nil | exact Pulls.all | (apply Pulls.cons; (repeat (first | exact Pull.head | apply Pull.tail))) | apply Pulls.skip))

theorem mnext_nil (p : Nat) (k : Nat) (o a b : Int) : Spec Try.prog 19 [.pointer none] [] (fun r H' => r = .int .u64 18446744073709551615 ∧ H' = []) := by
  refine Spec.of (E := [(0, .pointer none)]) Try.func19 rfl (by kernel_rfl) Try.ntmps19 rfl rfl (fun w => ?_)
  refine WC_seq ?_
  refine WC_region ?_
  refine WL_val rfl rfl rfl (R_assign rfl rfl) ?_
  refine WL_nil ?_
  refine WQ_code ?_
  refine WC_seq ?_
  refine WC_seq ?_
  refine WC_region ?_
  refine WL_val rfl rfl rfl (R_move rfl rfl) ?_
  refine WL_do rfl rfl rfl (D_call (mzero_nil) rfl rfl rfl rfl (by repeat (first | exact Pulls.nil | exact Pulls.all | (apply Pulls.cons; (repeat (first | exact Pull.head | apply Pull.tail))) | apply Pulls.skip))) ?_
  rintro _ _ ⟨_, ⟨rfl, rfl⟩, rfl⟩
  refine WL_nil ?_
  refine WQ_code ?_
  refine WC_T rfl ?_
  refine WC_seq ?_
  refine WC_region ?_
  refine WL_val rfl rfl rfl (R_assign rfl rfl) ?_
  refine WL_nil ?_
  refine WQ_code ?_
  refine WC_ret ?_
  refine WQ_ret rfl rfl (.cons (.tmp rfl) .nil) rfl (by
      exact ⟨rfl, rfl⟩) (by repeat (first | exact Pulls.nil | exact Pulls.all | (apply Pulls.cons; (repeat (first | exact Pull.head | apply Pull.tail))) | apply Pulls.skip))

theorem mnext_zero (p : Nat) (k : Nat) (o a b : Int) : Spec Try.prog 19 [ptrH p] [⟨some p, cl [.pointer none, .slice none 0 0] 63⟩] (fun r H' => r = .int .u64 18446744073709551615 ∧ H' = [⟨some p, cl [.pointer none, .slice none 0 0] 63⟩]) := by
  refine Spec.of (E := [(0, ptrH p)]) Try.func19 rfl (by kernel_rfl) Try.ntmps19 rfl rfl (fun w => ?_)
  refine WC_seq ?_
  refine WC_region ?_
  refine WL_val rfl rfl rfl (R_assign rfl rfl) ?_
  refine WL_nil ?_
  refine WQ_code ?_
  refine WC_seq ?_
  refine WC_seq ?_
  refine WC_region ?_
  refine WL_val rfl rfl rfl (R_move rfl rfl) ?_
  refine WL_do rfl rfl rfl (D_call (mzero_zero p (.slice none 0 0)) rfl rfl rfl rfl (by repeat (first | exact Pulls.nil | exact Pulls.all | (apply Pulls.cons; (repeat (first | exact Pull.head | apply Pull.tail))) | apply Pulls.skip))) ?_
  rintro _ _ ⟨_, ⟨rfl, rfl⟩, rfl⟩
  refine WL_nil ?_
  refine WQ_code ?_
  refine WC_T rfl ?_
  refine WC_seq ?_
  refine WC_region ?_
  refine WL_val rfl rfl rfl (R_assign rfl rfl) ?_
  refine WL_nil ?_
  refine WQ_code ?_
  refine WC_ret ?_
  refine WQ_ret rfl rfl (.cons (.tmp rfl) .nil) rfl (by
      exact ⟨rfl, rfl⟩) (by repeat (first | exact Pulls.nil | exact Pulls.all | (apply Pulls.cons; (repeat (first | exact Pull.head | apply Pull.tail))) | apply Pulls.skip))

theorem mlen_nil (p : Nat) (k : Nat) (o a b : Int) : Spec Try.prog 12 [.pointer none] [] (fun r H' => r = .int .i64 0 ∧ H' = []) := by
  refine Spec.of (E := [(0, .pointer none)]) Try.func12 rfl (by kernel_rfl) Try.ntmps12 rfl rfl (fun w => ?_)
  refine WC_seq ?_
  refine WC_region ?_
  refine WL_val rfl rfl rfl (R_assign rfl rfl) ?_
  refine WL_nil ?_
  refine WQ_code ?_
  refine WC_seq ?_
  refine WC_seq ?_
  refine WC_region ?_
  refine WL_val rfl rfl rfl (R_move rfl rfl) ?_
  refine WL_do rfl rfl rfl (D_call (mzero_nil) rfl rfl rfl rfl (by repeat (first | exact Pulls.nil | exact Pulls.all | (apply Pulls.cons; (repeat (first | exact Pull.head | apply Pull.tail))) | apply Pulls.skip))) ?_
  rintro _ _ ⟨_, ⟨rfl, rfl⟩, rfl⟩
  refine WL_nil ?_
  refine WQ_code ?_
  refine WC_T rfl ?_
  refine WC_seq ?_
  refine WC_region ?_
  refine WL_val rfl rfl rfl (R_assign rfl rfl) ?_
  refine WL_nil ?_
  refine WQ_code ?_
  refine WC_ret ?_
  refine WQ_ret rfl rfl (.cons (.tmp rfl) .nil) rfl (by
      exact ⟨rfl, rfl⟩) (by repeat (first | exact Pulls.nil | exact Pulls.all | (apply Pulls.cons; (repeat (first | exact Pull.head | apply Pull.tail))) | apply Pulls.skip))

theorem mlen_zero (p : Nat) (k : Nat) (o a b : Int) : Spec Try.prog 12 [ptrH p] [⟨some p, cl [.pointer none, .slice none 0 0] 63⟩] (fun r H' => r = .int .i64 0 ∧ H' = [⟨some p, cl [.pointer none, .slice none 0 0] 63⟩]) := by
  refine Spec.of (E := [(0, ptrH p)]) Try.func12 rfl (by kernel_rfl) Try.ntmps12 rfl rfl (fun w => ?_)
  refine WC_seq ?_
  refine WC_region ?_
  refine WL_val rfl rfl rfl (R_assign rfl rfl) ?_
  refine WL_nil ?_
  refine WQ_code ?_
  refine WC_seq ?_
  refine WC_seq ?_
  refine WC_region ?_
  refine WL_val rfl rfl rfl (R_move rfl rfl) ?_
  refine WL_do rfl rfl rfl (D_call (mzero_zero p (.slice none 0 0)) rfl rfl rfl rfl (by repeat (first | exact Pulls.nil | exact Pulls.all | (apply Pulls.cons; (repeat (first | exact Pull.head | apply Pull.tail))) | apply Pulls.skip))) ?_
  rintro _ _ ⟨_, ⟨rfl, rfl⟩, rfl⟩
  refine WL_nil ?_
  refine WQ_code ?_
  refine WC_T rfl ?_
  refine WC_seq ?_
  refine WC_region ?_
  refine WL_val rfl rfl rfl (R_assign rfl rfl) ?_
  refine WL_nil ?_
  refine WQ_code ?_
  refine WC_ret ?_
  refine WQ_ret rfl rfl (.cons (.tmp rfl) .nil) rfl (by
      exact ⟨rfl, rfl⟩) (by repeat (first | exact Pulls.nil | exact Pulls.all | (apply Pulls.cons; (repeat (first | exact Pull.head | apply Pull.tail))) | apply Pulls.skip))

theorem mcopy_nil (p : Nat) (k : Nat) (o a b : Int) : Spec Try.prog 18 [.pointer none] [] (fun r H' => r = .pointer none ∧ H' = []) := by
  refine Spec.of (E := [(0, .pointer none)]) Try.func18 rfl (by kernel_rfl) Try.ntmps18 rfl rfl (fun w => ?_)
  refine WC_seq ?_
  refine WC_region ?_
  refine WL_val rfl rfl rfl (R_assign rfl rfl) ?_
  refine WL_nil ?_
  refine WQ_code ?_
  refine WC_seq ?_
  refine WC_seq ?_
  refine WC_region ?_
  refine WL_val rfl rfl rfl (R_move rfl rfl) ?_
  refine WL_do rfl rfl rfl (D_call (mzero_nil) rfl rfl rfl rfl (by repeat (first | exact Pulls.nil | exact Pulls.all | (apply Pulls.cons; (repeat (first | exact Pull.head | apply Pull.tail))) | apply Pulls.skip))) ?_
  rintro _ _ ⟨_, ⟨rfl, rfl⟩, rfl⟩
  refine WL_nil ?_
  refine WQ_code ?_
  refine WC_T rfl ?_
  refine WC_seq ?_
  refine WC_region ?_
  refine WL_val rfl rfl rfl (R_assign rfl rfl) ?_
  refine WL_nil ?_
  refine WQ_code ?_
  refine WC_ret ?_
  refine WQ_ret rfl rfl (.cons (.tmp rfl) .nil) rfl (by
      exact ⟨rfl, rfl⟩) (by repeat (first | exact Pulls.nil | exact Pulls.all | (apply Pulls.cons; (repeat (first | exact Pull.head | apply Pull.tail))) | apply Pulls.skip))

theorem mcopy_zero (p : Nat) (k : Nat) (o a b : Int) : Spec Try.prog 18 [ptrH p] [⟨some p, cl [.pointer none, .slice none 0 0] 63⟩] (fun r H' => r = .pointer none ∧ H' = [⟨some p, cl [.pointer none, .slice none 0 0] 63⟩]) := by
  refine Spec.of (E := [(0, ptrH p)]) Try.func18 rfl (by kernel_rfl) Try.ntmps18 rfl rfl (fun w => ?_)
  refine WC_seq ?_
  refine WC_region ?_
  refine WL_val rfl rfl rfl (R_assign rfl rfl) ?_
  refine WL_nil ?_
  refine WQ_code ?_
  refine WC_seq ?_
  refine WC_seq ?_
  refine WC_region ?_
  refine WL_val rfl rfl rfl (R_move rfl rfl) ?_
  refine WL_do rfl rfl rfl (D_call (mzero_zero p (.slice none 0 0)) rfl rfl rfl rfl (by repeat (first | exact Pulls.nil | exact Pulls.all | (apply Pulls.cons; (repeat (first | exact Pull.head | apply Pull.tail))) | apply Pulls.skip))) ?_
  rintro _ _ ⟨_, ⟨rfl, rfl⟩, rfl⟩
  refine WL_nil ?_
  refine WQ_code ?_
  refine WC_T rfl ?_
  refine WC_seq ?_
  refine WC_region ?_
  refine WL_val rfl rfl rfl (R_assign rfl rfl) ?_
  refine WL_nil ?_
  refine WQ_code ?_
  refine WC_ret ?_
  refine WQ_ret rfl rfl (.cons (.tmp rfl) .nil) rfl (by
      exact ⟨rfl, rfl⟩) (by repeat (first | exact Pulls.nil | exact Pulls.all | (apply Pulls.cons; (repeat (first | exact Pull.head | apply Pull.tail))) | apply Pulls.skip))

theorem mexp_nil (p : Nat) (k : Nat) (hk : k ≤ 18446744073709551615) (o a b : Int) : Spec Try.prog 16 [.pointer none, .int .u64 (k : Int)] [] (fun r H' => r = .slice none 0 0 ∧ H' = []) := by
  refine Spec.of (E := [(0, .pointer none), (1, .int .u64 (k : Int))]) Try.func16 rfl (by kernel_rfl) Try.ntmps16 rfl rfl (fun w => ?_)
  refine WC_seq ?_
  refine WC_region ?_
  refine WL_val rfl rfl rfl (R_assign rfl rfl) ?_
  refine WL_nil ?_
  refine WQ_code ?_
  refine WC_seq ?_
  refine WC_region ?_
  refine WL_val rfl rfl rfl (R_assign rfl rfl) ?_
  refine WL_nil ?_
  refine WQ_code ?_
  refine WC_seq ?_
  refine WC_block ?_
  refine WC_loopF (G := Unit) [5, 6, 7, 8, 9, 10, 11, 12, 13, 14, 15, 16, 17, 18, 19, 20, 21, 22, 23, 24, 25, 26, 27, 28, 29, 30, 31, 32, 33, 34, 35, 36, 37, 38, 39, 40, 41, 42, 43, 44, 45, 46, 47, 48, 49, 50, 51, 52, 53, 54] (fun y => True) (fun y => [(5, .slice none 0 0)]) (fun y => []) (fun y => 0) (()) (trivial) (Le.lq (by repeat (first | exact Le.nil | refine Le.cons rfl (by first | rfl | (congr 1; omega)) ?_))) (by repeat (first | exact Pulls.nil | exact Pulls.all | (apply Pulls.cons; (repeat (first | exact Pull.head | apply Pull.tail))) | apply Pulls.skip)) ?_
  rintro y -
  refine WC_seq ?_
  refine WC_seq ?_
  refine WC_region ?_
  refine WL_val rfl rfl rfl (R_move rfl rfl) ?_
  refine WL_do rfl rfl rfl (D_call (mnext_nil p k o a b) rfl rfl rfl rfl (by repeat (first | exact Pulls.nil | exact Pulls.all | (apply Pulls.cons; (repeat (first | exact Pull.head | apply Pull.tail))) | apply Pulls.skip))) ?_
  rintro _ _ ⟨_, ⟨rfl, rfl⟩, rfl⟩
  refine WL_val rfl rfl rfl (R_move rfl rfl) ?_
  refine WL_do rfl rfl rfl (D_call (passed_ok 18446744073709551615 k) rfl rfl rfl rfl (by repeat (first | exact Pulls.nil | exact Pulls.all | (apply Pulls.cons; (repeat (first | exact Pull.head | apply Pull.tail))) | apply Pulls.skip))) ?_
  rintro _ _ ⟨_, ⟨rfl, rfl⟩, rfl⟩
  refine WL_nil ?_
  refine WQ_code ?_
  refine WC_dF rfl (by omega) ?_
  refine WC_exit ?_
  refine WQ_code ?_
  refine WC_seq ?_
  refine WC_region ?_
  refine WL_val rfl rfl rfl (R_move rfl rfl) ?_
  refine WL_val rfl rfl rfl (R_assign rfl rfl) ?_
  refine WL_nil ?_
  refine WQ_code ?_
  refine WC_ret ?_
  refine WQ_ret rfl rfl (.cons (.tmp rfl) .nil) rfl (by
      exact ⟨rfl, rfl⟩) (by repeat (first | exact Pulls.nil | exact Pulls.all | (apply Pulls.cons; (repeat (first | exact Pull.head | apply Pull.tail))) | apply Pulls.skip))

theorem mexp_zero (p : Nat) (k : Nat) (hk : k ≤ 18446744073709551615) (o a b : Int) : Spec Try.prog 16 [ptrH p, .int .u64 (k : Int)] [⟨some p, cl [.pointer none, .slice none 0 0] 63⟩] (fun r H' => r = .slice none 0 0 ∧ H' = [⟨some p, cl [.pointer none, .slice none 0 0] 63⟩]) := by
  refine Spec.of (E := [(0, ptrH p), (1, .int .u64 (k : Int))]) Try.func16 rfl (by kernel_rfl) Try.ntmps16 rfl rfl (fun w => ?_)
  refine WC_seq ?_
  refine WC_region ?_
  refine WL_val rfl rfl rfl (R_assign rfl rfl) ?_
  refine WL_nil ?_
  refine WQ_code ?_
  refine WC_seq ?_
  refine WC_region ?_
  refine WL_val rfl rfl rfl (R_assign rfl rfl) ?_
  refine WL_nil ?_
  refine WQ_code ?_
  refine WC_seq ?_
  refine WC_block ?_
  refine WC_loopF (G := Unit) [5, 6, 7, 8, 9, 10, 11, 12, 13, 14, 15, 16, 17, 18, 19, 20, 21, 22, 23, 24, 25, 26, 27, 28, 29, 30, 31, 32, 33, 34, 35, 36, 37, 38, 39, 40, 41, 42, 43, 44, 45, 46, 47, 48, 49, 50, 51, 52, 53, 54] (fun y => True) (fun y => [(5, .slice none 0 0)]) (fun y => []) (fun y => 0) (()) (trivial) (Le.lq (by repeat (first | exact Le.nil | refine Le.cons rfl (by first | rfl | (congr 1; omega)) ?_))) (by repeat (first | exact Pulls.nil | exact Pulls.all | (apply Pulls.cons; (repeat (first | exact Pull.head | apply Pull.tail))) | apply Pulls.skip)) ?_
  rintro y -
  refine WC_seq ?_
  refine WC_seq ?_
  refine WC_region ?_
  refine WL_val rfl rfl rfl (R_move rfl rfl) ?_
  refine WL_do rfl rfl rfl (D_call (mnext_zero p k o a b) rfl rfl rfl rfl (by repeat (first | exact Pulls.nil | exact Pulls.all | (apply Pulls.cons; (repeat (first | exact Pull.head | apply Pull.tail))) | apply Pulls.skip))) ?_
  rintro _ _ ⟨_, ⟨rfl, rfl⟩, rfl⟩
  refine WL_val rfl rfl rfl (R_move rfl rfl) ?_
  refine WL_do rfl rfl rfl (D_call (passed_ok 18446744073709551615 k) rfl rfl rfl rfl (by repeat (first | exact Pulls.nil | exact Pulls.all | (apply Pulls.cons; (repeat (first | exact Pull.head | apply Pull.tail))) | apply Pulls.skip))) ?_
  rintro _ _ ⟨_, ⟨rfl, rfl⟩, rfl⟩
  refine WL_nil ?_
  refine WQ_code ?_
  refine WC_dF rfl (by omega) ?_
  refine WC_exit ?_
  refine WQ_code ?_
  refine WC_seq ?_
  refine WC_region ?_
  refine WL_val rfl rfl rfl (R_move rfl rfl) ?_
  refine WL_val rfl rfl rfl (R_assign rfl rfl) ?_
  refine WL_nil ?_
  refine WQ_code ?_
  refine WC_ret ?_
  refine WQ_ret rfl rfl (.cons (.tmp rfl) .nil) rfl (by
      exact ⟨rfl, rfl⟩) (by repeat (first | exact Pulls.nil | exact Pulls.all | (apply Pulls.cons; (repeat (first | exact Pull.head | apply Pull.tail))) | apply Pulls.skip))

theorem nil_ok (k : Nat) (hk : k ≤ 18446744073709551615) (o a b : Int) : Spec Try.prog 7 [.int .u64 (k : Int), .int .i64 o, .agg #[.int .i64 a, .int .i64 b]] [] (fun r H' => r = .bool true ∧ H' = []) := by
  refine Spec.of (E := [(0, .int .u64 (k : Int)), (1, .int .i64 o), (2, .agg #[.int .i64 a, .int .i64 b])]) Try.func7 rfl (by kernel_rfl) Try.ntmps7 rfl rfl (fun w => ?_)
  refine WC_seq ?_
  refine WC_region ?_
  refine WL_do rfl rfl rfl (D_box (cs := [_, _]) rfl rfl rfl) ?_
  rintro _ _ ⟨b1, rfl, rfl⟩
  refine WL_val rfl rfl rfl (R_assign rfl rfl) ?_
  refine WL_nil ?_
  refine WQ_code ?_
  refine WC_seq ?_
  refine WC_region ?_
  refine WL_val rfl rfl rfl (R_assign rfl rfl) ?_
  refine WL_nil ?_
  refine WQ_code ?_
  refine WC_seq ?_
  refine WC_seq ?_
  refine WC_region ?_
  refine WL_val rfl rfl rfl (R_move rfl rfl) ?_
  refine WL_val rfl rfl rfl (R_build rfl zv63 pl63 rfl rfl) ?_
  refine WL_do rfl rfl rfl (D_box (cs := [_, _]) rfl rfl rfl) ?_
  rintro _ _ ⟨b2, rfl, rfl⟩
  refine WL_do rfl rfl rfl (D_buildSlice rfl si64 rfl rfl rfl) ?_
  rintro _ _ ⟨b3, rfl, rfl⟩
  refine WL_val rfl rfl rfl (R_len rfl Try.underlying64 rfl) ?_
  refine WL_val rfl rfl rfl (R_move rfl rfl) ?_
  refine WL_nil ?_
  refine WQ_code ?_
  refine WC_block ?_
  refine WC_loopF (G := Nat) [6, 9, 10, 11, 12, 13, 14, 20, 21, 22, 23, 24, 25, 26, 27, 28, 29, 30, 31, 32, 33, 34, 35, 36, 37, 38, 39, 40, 41, 42, 43, 44, 45, 46, 47, 48, 49, 50, 51, 52, 53, 54, 55, 56, 57, 58, 59, 60, 61, 62, 63, 64, 65, 66, 67, 68, 69, 70, 71, 72, 73, 74, 75, 76, 77, 78, 79, 80, 81, 82, 83, 84, 85, 86, 87, 88, 89, 90, 91, 92] (fun j => j ≤ 2) (fun j => [(20, .int .i64 (j : Int))]) (fun j => []) (fun j => 2 - j) (0) (Nat.zero_le _) (Le.lq (by repeat (first | exact Le.nil | refine Le.cons rfl (by first | rfl | (congr 1; omega)) ?_))) (by repeat (first | exact Pulls.nil | exact Pulls.all | (apply Pulls.cons; (repeat (first | exact Pull.head | apply Pull.tail))) | apply Pulls.skip)) ?_
  rintro j hj
  refine WC_seq ?_
  refine WC_region ?_
  refine WL_val rfl rfl rfl (R_lss rfl rfl rfl) ?_
  refine WL_nil ?_
  refine WQ_code ?_
  refine WC_seq ?_
  refine WC_dec rfl (fun c1 => ?_) (fun c1 => ?_)
  · obtain rfl | rfl : j = 0 ∨ j = 1 := by omega
    · refine WC_skip ?_
      refine WQ_code ?_
      refine WC_seq ?_
      refine WC_block ?_
      refine WC_seq ?_
      refine WC_region ?_
      refine WL_val rfl rfl rfl (R_indexAddrN rfl Try.underlying64 Try.sizeOf23 rfl rfl (by omega)) ?_
      refine WL_val rfl rfl rfl (R_load rfl sc23 rfl (by repeat (first | exact List.Mem.head _ | refine List.Mem.tail _ ?_)) rfl) ?_
      refine WL_val rfl rfl rfl (R_assign rfl rfl) ?_
      refine WL_nil ?_
      refine WQ_code ?_
      refine WC_seq ?_
      refine WC_region ?_
      refine WL_val rfl rfl rfl (R_move rfl rfl) ?_
      refine WL_val rfl rfl rfl (R_move rfl rfl) ?_
      refine WL_val rfl rfl rfl (R_move rfl rfl) ?_
      refine WL_do rfl rfl rfl (D_call (mset_nil b2 k o a b) rfl rfl rfl rfl (by repeat (first | exact Pulls.nil | exact Pulls.all | (apply Pulls.cons; (repeat (first | exact Pull.head | apply Pull.tail))) | apply Pulls.skip))) ?_
      rintro _ _ ⟨_, ⟨rfl, rfl⟩, rfl⟩
      refine WL_val rfl rfl rfl (R_move rfl rfl) ?_
      refine WL_val rfl rfl rfl (R_extract rfl rfl rfl) ?_
      refine WL_val rfl rfl rfl (R_extract rfl rfl rfl) ?_
      refine WL_do rfl rfl rfl (D_alloc rfl zv26) ?_
      rintro _ _ ⟨b4, rfl, rfl⟩
      refine WL_do0 rfl rfl (D_store (vs := [_, _]) rfl Try.sizeOf26 rfl rfl rfl rfl rfl (by repeat (first | exact Pull.head | apply Pull.tail)) (by exact Nat.le_of_ble_eq_true rfl)) ?_
      rintro _ _ rfl
      refine WL_val rfl rfl rfl (R_assign rfl rfl) ?_
      refine WL_nil ?_
      refine WQ_code ?_
      refine WC_seq ?_
      refine WC_region ?_
      refine WL_val rfl rfl rfl (R_move rfl rfl) ?_
      refine WL_val rfl rfl rfl (R_loadA (vs := [_, _]) rfl ag26 rfl (by repeat (first | exact List.Mem.head _ | refine List.Mem.tail _ ?_)) rfl (by repeat (first | exact At.nil | refine At.cons ?_ | refine At.succ ?_))) ?_
      refine WL_do rfl rfl rfl (D_call (mget_nil b2 k o a b) rfl rfl rfl rfl (by repeat (first | exact Pulls.nil | exact Pulls.all | (apply Pulls.cons; (repeat (first | exact Pull.head | apply Pull.tail))) | apply Pulls.skip))) ?_
      rintro _ _ ⟨_, ⟨rfl, rfl⟩, rfl⟩
      refine WL_val rfl rfl rfl (R_move rfl rfl) ?_
      refine WL_val rfl rfl rfl (R_extract rfl rfl rfl) ?_
      refine WL_val rfl rfl rfl (R_extract rfl rfl rfl) ?_
      refine WL_val rfl rfl rfl (R_extract rfl rfl rfl) ?_
      refine WL_val rfl rfl rfl (R_assign rfl rfl) ?_
      refine WL_val rfl rfl rfl (R_assign rfl rfl) ?_
      refine WL_val rfl rfl rfl (R_assign rfl rfl) ?_
      refine WL_nil ?_
      refine WQ_code ?_
      refine WC_seq ?_
      refine WC_draw _ [(0, true), (1, false), (2, true), (3, true), (4, true), (5, true), (6, true), (7, true), (8, true), (9, true), (10, true), (11, true), (12, true), (13, true), (14, true), (15, true), (16, true), (17, true), (18, true), (19, true), (20, true), (21, true), (22, true), (23, false), (24, true), (25, true), (26, true), (27, true), (28, true), (29, false), (30, true), (31, true), (32, true), (33, true), (34, false), (35, true), (36, true), (37, true), (38, true), (39, true), (40, false), (41, true), (42, true), (43, true), (44, true), (45, true), (46, false), (47, true), (48, true), (49, true), (50, true), (51, false), (52, true), (53, true)] followsMixed rfl rfl (by kernel_rfl) .all ?_
      refine WM_val rfl rfl rfl rfl (R_loadA (vs := [_, _]) rfl ag26 rfl (by repeat (first | exact List.Mem.head _ | refine List.Mem.tail _ ?_)) rfl (by repeat (first | exact At.nil | refine At.cons ?_ | refine At.succ ?_))) ?_
      refine WM_do rfl rfl rfl rfl (D_call (id_ok _ _) rfl rfl rfl rfl (by repeat (first | exact Pulls.nil | exact Pulls.all | (apply Pulls.cons; (repeat (first | exact Pull.head | apply Pull.tail))) | apply Pulls.skip))) ?_
      rintro _ _ ⟨_, ⟨rfl, rfl⟩, rfl⟩
      refine ⟨⟨_, by repeat (first | exact Pulls.nil | exact Pulls.all | (apply Pulls.cons; (repeat (first | exact Pull.head | apply Pull.tail))) | apply Pulls.skip)⟩, ?_⟩
      refine WM_val rfl rfl rfl rfl (R_sne26 rfl rfl rfl rfl) ?_
      refine WM_val rfl rfl rfl rfl (R_move rfl rfl) ?_
      refine WM_set (s := 41) (v := .bool false) rfl (by simp) ?_
      refine WM_val rfl rfl rfl rfl (R_move rfl rfl) ?_
      refine WM_val rfl rfl rfl rfl (R_neq rfl rfl rfl) ?_
      refine WM_val rfl rfl rfl rfl (R_pickF rfl rfl rfl) ?_
      refine WM_val rfl rfl rfl rfl (R_move rfl rfl) ?_
      refine WM_set (s := 45) (v := .bool false) rfl (by simp) ?_
      refine WM_val rfl rfl rfl rfl (R_move rfl rfl) ?_
      refine WM_val rfl rfl rfl rfl (R_neq rfl rfl rfl) ?_
      refine WM_val rfl rfl rfl rfl (R_pickF rfl rfl rfl) ?_
      refine WM_val rfl rfl rfl rfl (R_move rfl rfl) ?_
      refine WM_set (s := 49) (v := .bool false) rfl (by simp) ?_
      refine WM_val rfl rfl rfl rfl (R_move rfl rfl) ?_
      refine WM_val rfl rfl rfl rfl (R_neq rfl rfl rfl) ?_
      refine WM_val rfl rfl rfl rfl (R_pickF rfl rfl rfl) ?_
      refine WM_val rfl rfl rfl rfl (R_move rfl rfl) ?_
      refine WM_set (s := 53) (v := .bool false) rfl (by simp) ?_
      refine WM_val rfl rfl rfl rfl (R_move rfl rfl) ?_
      refine WM_val rfl rfl rfl rfl (R_neq rfl rfl rfl) ?_
      refine WM_val rfl rfl rfl rfl (R_pickF rfl rfl rfl) ?_
      refine WM_val rfl rfl rfl rfl (R_move rfl rfl) ?_
      refine WM_set (s := 57) (v := .bool false) rfl (by simp) ?_
      refine WM_val rfl rfl rfl rfl (R_move rfl rfl) ?_
      refine WM_val rfl rfl rfl rfl (R_loadA (vs := [_, _]) rfl ag26 rfl (by repeat (first | exact List.Mem.head _ | refine List.Mem.tail _ ?_)) rfl (by repeat (first | exact At.nil | refine At.cons ?_ | refine At.succ ?_))) ?_
      refine WM_val rfl rfl rfl rfl (R_move rfl rfl) ?_
      refine WM_do rfl rfl rfl rfl (D_call (mreset_nil b2 k o a b) rfl rfl rfl rfl (by repeat (first | exact Pulls.nil | exact Pulls.all | (apply Pulls.cons; (repeat (first | exact Pull.head | apply Pull.tail))) | apply Pulls.skip))) ?_
      rintro _ _ ⟨_, ⟨rfl, rfl⟩, rfl⟩
      refine ⟨⟨_, by repeat (first | exact Pulls.nil | exact Pulls.all | (apply Pulls.cons; (repeat (first | exact Pull.head | apply Pull.tail))) | apply Pulls.skip)⟩, ?_⟩
      refine WM_val rfl rfl rfl rfl (R_neq rfl rfl rfl) ?_
      refine WM_val rfl rfl rfl rfl (R_pickF rfl rfl rfl) ?_
      refine WM_val rfl rfl rfl rfl (R_move rfl rfl) ?_
      refine WM_set (s := 64) (v := .bool false) rfl (by simp) ?_
      refine WM_val rfl rfl rfl rfl (R_move rfl rfl) ?_
      refine WM_val rfl rfl rfl rfl (R_loadA (vs := [_, _]) rfl ag26 rfl (by repeat (first | exact List.Mem.head _ | refine List.Mem.tail _ ?_)) rfl (by repeat (first | exact At.nil | refine At.cons ?_ | refine At.succ ?_))) ?_
      refine WM_do rfl rfl rfl rfl (D_call (mstop_nil b2 k o a b) rfl rfl rfl rfl (by repeat (first | exact Pulls.nil | exact Pulls.all | (apply Pulls.cons; (repeat (first | exact Pull.head | apply Pull.tail))) | apply Pulls.skip))) ?_
      rintro _ _ ⟨_, ⟨rfl, rfl⟩, rfl⟩
      refine ⟨⟨_, by repeat (first | exact Pulls.nil | exact Pulls.all | (apply Pulls.cons; (repeat (first | exact Pull.head | apply Pull.tail))) | apply Pulls.skip)⟩, ?_⟩
      refine WM_val rfl rfl rfl rfl (R_neq rfl rfl rfl) ?_
      refine WM_val rfl rfl rfl rfl (R_pickF rfl rfl rfl) ?_
      refine WM_val rfl rfl rfl rfl (R_move rfl rfl) ?_
      refine WM_set (s := 70) (v := .bool false) rfl (by simp) ?_
      refine WM_val rfl rfl rfl rfl (R_move rfl rfl) ?_
      refine WM_do rfl rfl rfl rfl (D_call (mnext_nil b2 k o a b) rfl rfl rfl rfl (by repeat (first | exact Pulls.nil | exact Pulls.all | (apply Pulls.cons; (repeat (first | exact Pull.head | apply Pull.tail))) | apply Pulls.skip))) ?_
      rintro _ _ ⟨_, ⟨rfl, rfl⟩, rfl⟩
      refine ⟨⟨_, by repeat (first | exact Pulls.nil | exact Pulls.all | (apply Pulls.cons; (repeat (first | exact Pull.head | apply Pull.tail))) | apply Pulls.skip)⟩, ?_⟩
      refine WM_val rfl rfl rfl rfl (R_neq rfl rfl rfl) ?_
      refine WM_val rfl rfl rfl rfl (R_pickF rfl rfl rfl) ?_
      refine WM_val rfl rfl rfl rfl (R_move rfl rfl) ?_
      refine WM_set (s := 75) (v := .bool false) rfl (by simp) ?_
      refine WM_val rfl rfl rfl rfl (R_move rfl rfl) ?_
      refine WM_val rfl rfl rfl rfl (R_move rfl rfl) ?_
      refine WM_do rfl rfl rfl rfl (D_call (mexp_nil b2 k hk o a b) rfl rfl rfl rfl (by repeat (first | exact Pulls.nil | exact Pulls.all | (apply Pulls.cons; (repeat (first | exact Pull.head | apply Pull.tail))) | apply Pulls.skip))) ?_
      rintro _ _ ⟨_, ⟨rfl, rfl⟩, rfl⟩
      refine ⟨⟨_, by repeat (first | exact Pulls.nil | exact Pulls.all | (apply Pulls.cons; (repeat (first | exact Pull.head | apply Pull.tail))) | apply Pulls.skip)⟩, ?_⟩
      refine WM_val rfl rfl rfl rfl (R_len rfl Try.underlying38 rfl) ?_
      refine WM_val rfl rfl rfl rfl (R_neq rfl rfl rfl) ?_
      refine WM_val rfl rfl rfl rfl (R_pickF rfl rfl rfl) ?_
      refine WM_val rfl rfl rfl rfl (R_move rfl rfl) ?_
      refine WM_set (s := 82) (v := .bool false) rfl (by simp) ?_
      refine WM_val rfl rfl rfl rfl (R_move rfl rfl) ?_
      refine WM_do rfl rfl rfl rfl (D_call (mlen_nil b2 k o a b) rfl rfl rfl rfl (by repeat (first | exact Pulls.nil | exact Pulls.all | (apply Pulls.cons; (repeat (first | exact Pull.head | apply Pull.tail))) | apply Pulls.skip))) ?_
      rintro _ _ ⟨_, ⟨rfl, rfl⟩, rfl⟩
      refine ⟨⟨_, by repeat (first | exact Pulls.nil | exact Pulls.all | (apply Pulls.cons; (repeat (first | exact Pull.head | apply Pull.tail))) | apply Pulls.skip)⟩, ?_⟩
      refine WM_val rfl rfl rfl rfl (R_neq rfl rfl rfl) ?_
      refine WM_val rfl rfl rfl rfl (R_pickF rfl rfl rfl) ?_
      refine WM_val rfl rfl rfl rfl (R_move rfl rfl) ?_
      refine WM_set (s := 87) (v := .bool false) rfl (by simp) ?_
      refine WM_val rfl rfl rfl rfl (R_move rfl rfl) ?_
      refine WM_do rfl rfl rfl rfl (D_call (mcopy_nil b2 k o a b) rfl rfl rfl rfl (by repeat (first | exact Pulls.nil | exact Pulls.all | (apply Pulls.cons; (repeat (first | exact Pull.head | apply Pull.tail))) | apply Pulls.skip))) ?_
      rintro _ _ ⟨_, ⟨rfl, rfl⟩, rfl⟩
      refine ⟨⟨_, by repeat (first | exact Pulls.nil | exact Pulls.all | (apply Pulls.cons; (repeat (first | exact Pull.head | apply Pull.tail))) | apply Pulls.skip)⟩, ?_⟩
      refine WM_val rfl rfl rfl rfl (R_ptrNeNil rfl Try.underlying23 rfl) ?_
      refine WM_val rfl rfl rfl rfl (R_pickF rfl rfl rfl) ?_
      refine WM_nil ?_
      refine WQ_code ?_
      refine WC_F rfl ?_
      refine WC_skip ?_
      refine WQ_code ?_
      refine WC_region ?_
      refine WL_val rfl rfl rfl (R_add rfl rfl rfl (by omega)) ?_
      refine WL_val rfl rfl rfl (R_move rfl rfl) ?_
      refine WL_nil ?_
      refine WQ_nextF (1) (by omega) (by omega) (Le.lq (by repeat (first | exact Le.nil | refine Le.cons rfl (by first | rfl | (congr 1; omega)) ?_))) (by repeat (first | exact Pushed.refl | refine Pushed.push rfl ?_)) rfl (by repeat (first | exact Pulls.nil | exact Pulls.all | (apply Pulls.cons; (repeat (first | exact Pull.head | apply Pull.tail))) | apply Pulls.skip))
    · refine WC_skip ?_
      refine WQ_code ?_
      refine WC_seq ?_
      refine WC_block ?_
      refine WC_seq ?_
      refine WC_region ?_
      refine WL_val rfl rfl rfl (R_indexAddrN rfl Try.underlying64 Try.sizeOf23 rfl rfl (by omega)) ?_
      refine WL_val rfl rfl rfl (R_load rfl sc23 rfl (by repeat (first | exact List.Mem.head _ | refine List.Mem.tail _ ?_)) rfl) ?_
      refine WL_val rfl rfl rfl (R_assign rfl rfl) ?_
      refine WL_nil ?_
      refine WQ_code ?_
      refine WC_seq ?_
      refine WC_region ?_
      refine WL_val rfl rfl rfl (R_move rfl rfl) ?_
      refine WL_val rfl rfl rfl (R_move rfl rfl) ?_
      refine WL_val rfl rfl rfl (R_move rfl rfl) ?_
      refine WL_do rfl rfl rfl (D_call (mset_zero b2 k o a b) rfl rfl rfl rfl (by repeat (first | exact Pulls.nil | exact Pulls.all | (apply Pulls.cons; (repeat (first | exact Pull.head | apply Pull.tail))) | apply Pulls.skip))) ?_
      rintro _ _ ⟨_, ⟨rfl, rfl⟩, rfl⟩
      refine WL_val rfl rfl rfl (R_move rfl rfl) ?_
      refine WL_val rfl rfl rfl (R_extract rfl rfl rfl) ?_
      refine WL_val rfl rfl rfl (R_extract rfl rfl rfl) ?_
      refine WL_do rfl rfl rfl (D_alloc rfl zv26) ?_
      rintro _ _ ⟨b5, rfl, rfl⟩
      refine WL_do0 rfl rfl (D_store (vs := [_, _]) rfl Try.sizeOf26 rfl rfl rfl rfl rfl (by repeat (first | exact Pull.head | apply Pull.tail)) (by exact Nat.le_of_ble_eq_true rfl)) ?_
      rintro _ _ rfl
      refine WL_val rfl rfl rfl (R_assign rfl rfl) ?_
      refine WL_nil ?_
      refine WQ_code ?_
      refine WC_seq ?_
      refine WC_region ?_
      refine WL_val rfl rfl rfl (R_move rfl rfl) ?_
      refine WL_val rfl rfl rfl (R_loadA (vs := [_, _]) rfl ag26 rfl (by repeat (first | exact List.Mem.head _ | refine List.Mem.tail _ ?_)) rfl (by repeat (first | exact At.nil | refine At.cons ?_ | refine At.succ ?_))) ?_
      refine WL_do rfl rfl rfl (D_call (mget_zero b2 k o a b) rfl rfl rfl rfl (by repeat (first | exact Pulls.nil | exact Pulls.all | (apply Pulls.cons; (repeat (first | exact Pull.head | apply Pull.tail))) | apply Pulls.skip))) ?_
      rintro _ _ ⟨_, ⟨rfl, rfl⟩, rfl⟩
      refine WL_val rfl rfl rfl (R_move rfl rfl) ?_
      refine WL_val rfl rfl rfl (R_extract rfl rfl rfl) ?_
      refine WL_val rfl rfl rfl (R_extract rfl rfl rfl) ?_
      refine WL_val rfl rfl rfl (R_extract rfl rfl rfl) ?_
      refine WL_val rfl rfl rfl (R_assign rfl rfl) ?_
      refine WL_val rfl rfl rfl (R_assign rfl rfl) ?_
      refine WL_val rfl rfl rfl (R_assign rfl rfl) ?_
      refine WL_nil ?_
      refine WQ_code ?_
      refine WC_seq ?_
      refine WC_draw _ [(0, true), (1, false), (2, true), (3, true), (4, true), (5, true), (6, true), (7, true), (8, true), (9, true), (10, true), (11, true), (12, true), (13, true), (14, true), (15, true), (16, true), (17, true), (18, true), (19, true), (20, true), (21, true), (22, true), (23, false), (24, true), (25, true), (26, true), (27, true), (28, true), (29, false), (30, true), (31, true), (32, true), (33, true), (34, false), (35, true), (36, true), (37, true), (38, true), (39, true), (40, false), (41, true), (42, true), (43, true), (44, true), (45, true), (46, false), (47, true), (48, true), (49, true), (50, true), (51, false), (52, true), (53, true)] followsMixed rfl rfl (by kernel_rfl) .all ?_
      refine WM_val rfl rfl rfl rfl (R_loadA (vs := [_, _]) rfl ag26 rfl (by repeat (first | exact List.Mem.head _ | refine List.Mem.tail _ ?_)) rfl (by repeat (first | exact At.nil | refine At.cons ?_ | refine At.succ ?_))) ?_
      refine WM_do rfl rfl rfl rfl (D_call (id_ok _ _) rfl rfl rfl rfl (by repeat (first | exact Pulls.nil | exact Pulls.all | (apply Pulls.cons; (repeat (first | exact Pull.head | apply Pull.tail))) | apply Pulls.skip))) ?_
      rintro _ _ ⟨_, ⟨rfl, rfl⟩, rfl⟩
      refine ⟨⟨_, by repeat (first | exact Pulls.nil | exact Pulls.all | (apply Pulls.cons; (repeat (first | exact Pull.head | apply Pull.tail))) | apply Pulls.skip)⟩, ?_⟩
      refine WM_val rfl rfl rfl rfl (R_sne26 rfl rfl rfl rfl) ?_
      refine WM_val rfl rfl rfl rfl (R_move rfl rfl) ?_
      refine WM_set (s := 41) (v := .bool false) rfl (by simp) ?_
      refine WM_val rfl rfl rfl rfl (R_move rfl rfl) ?_
      refine WM_val rfl rfl rfl rfl (R_neq rfl rfl rfl) ?_
      refine WM_val rfl rfl rfl rfl (R_pickF rfl rfl rfl) ?_
      refine WM_val rfl rfl rfl rfl (R_move rfl rfl) ?_
      refine WM_set (s := 45) (v := .bool false) rfl (by simp) ?_
      refine WM_val rfl rfl rfl rfl (R_move rfl rfl) ?_
      refine WM_val rfl rfl rfl rfl (R_neq rfl rfl rfl) ?_
      refine WM_val rfl rfl rfl rfl (R_pickF rfl rfl rfl) ?_
      refine WM_val rfl rfl rfl rfl (R_move rfl rfl) ?_
      refine WM_set (s := 49) (v := .bool false) rfl (by simp) ?_
      refine WM_val rfl rfl rfl rfl (R_move rfl rfl) ?_
      refine WM_val rfl rfl rfl rfl (R_neq rfl rfl rfl) ?_
      refine WM_val rfl rfl rfl rfl (R_pickF rfl rfl rfl) ?_
      refine WM_val rfl rfl rfl rfl (R_move rfl rfl) ?_
      refine WM_set (s := 53) (v := .bool false) rfl (by simp) ?_
      refine WM_val rfl rfl rfl rfl (R_move rfl rfl) ?_
      refine WM_val rfl rfl rfl rfl (R_neq rfl rfl rfl) ?_
      refine WM_val rfl rfl rfl rfl (R_pickF rfl rfl rfl) ?_
      refine WM_val rfl rfl rfl rfl (R_move rfl rfl) ?_
      refine WM_set (s := 57) (v := .bool false) rfl (by simp) ?_
      refine WM_val rfl rfl rfl rfl (R_move rfl rfl) ?_
      refine WM_val rfl rfl rfl rfl (R_loadA (vs := [_, _]) rfl ag26 rfl (by repeat (first | exact List.Mem.head _ | refine List.Mem.tail _ ?_)) rfl (by repeat (first | exact At.nil | refine At.cons ?_ | refine At.succ ?_))) ?_
      refine WM_val rfl rfl rfl rfl (R_move rfl rfl) ?_
      refine WM_do rfl rfl rfl rfl (D_call (mreset_zero b2 k o a b) rfl rfl rfl rfl (by repeat (first | exact Pulls.nil | exact Pulls.all | (apply Pulls.cons; (repeat (first | exact Pull.head | apply Pull.tail))) | apply Pulls.skip))) ?_
      rintro _ _ ⟨_, ⟨rfl, rfl⟩, rfl⟩
      refine ⟨⟨_, by repeat (first | exact Pulls.nil | exact Pulls.all | (apply Pulls.cons; (repeat (first | exact Pull.head | apply Pull.tail))) | apply Pulls.skip)⟩, ?_⟩
      refine WM_val rfl rfl rfl rfl (R_neq rfl rfl rfl) ?_
      refine WM_val rfl rfl rfl rfl (R_pickF rfl rfl rfl) ?_
      refine WM_val rfl rfl rfl rfl (R_move rfl rfl) ?_
      refine WM_set (s := 64) (v := .bool false) rfl (by simp) ?_
      refine WM_val rfl rfl rfl rfl (R_move rfl rfl) ?_
      refine WM_val rfl rfl rfl rfl (R_loadA (vs := [_, _]) rfl ag26 rfl (by repeat (first | exact List.Mem.head _ | refine List.Mem.tail _ ?_)) rfl (by repeat (first | exact At.nil | refine At.cons ?_ | refine At.succ ?_))) ?_
      refine WM_do rfl rfl rfl rfl (D_call (mstop_zero b2 k o a b) rfl rfl rfl rfl (by repeat (first | exact Pulls.nil | exact Pulls.all | (apply Pulls.cons; (repeat (first | exact Pull.head | apply Pull.tail))) | apply Pulls.skip))) ?_
      rintro _ _ ⟨_, ⟨rfl, rfl⟩, rfl⟩
      refine ⟨⟨_, by repeat (first | exact Pulls.nil | exact Pulls.all | (apply Pulls.cons; (repeat (first | exact Pull.head | apply Pull.tail))) | apply Pulls.skip)⟩, ?_⟩
      refine WM_val rfl rfl rfl rfl (R_neq rfl rfl rfl) ?_
      refine WM_val rfl rfl rfl rfl (R_pickF rfl rfl rfl) ?_
      refine WM_val rfl rfl rfl rfl (R_move rfl rfl) ?_
      refine WM_set (s := 70) (v := .bool false) rfl (by simp) ?_
      refine WM_val rfl rfl rfl rfl (R_move rfl rfl) ?_
      refine WM_do rfl rfl rfl rfl (D_call (mnext_zero b2 k o a b) rfl rfl rfl rfl (by repeat (first | exact Pulls.nil | exact Pulls.all | (apply Pulls.cons; (repeat (first | exact Pull.head | apply Pull.tail))) | apply Pulls.skip))) ?_
      rintro _ _ ⟨_, ⟨rfl, rfl⟩, rfl⟩
      refine ⟨⟨_, by repeat (first | exact Pulls.nil | exact Pulls.all | (apply Pulls.cons; (repeat (first | exact Pull.head | apply Pull.tail))) | apply Pulls.skip)⟩, ?_⟩
      refine WM_val rfl rfl rfl rfl (R_neq rfl rfl rfl) ?_
      refine WM_val rfl rfl rfl rfl (R_pickF rfl rfl rfl) ?_
      refine WM_val rfl rfl rfl rfl (R_move rfl rfl) ?_
      refine WM_set (s := 75) (v := .bool false) rfl (by simp) ?_
      refine WM_val rfl rfl rfl rfl (R_move rfl rfl) ?_
      refine WM_val rfl rfl rfl rfl (R_move rfl rfl) ?_
      refine WM_do rfl rfl rfl rfl (D_call (mexp_zero b2 k hk o a b) rfl rfl rfl rfl (by repeat (first | exact Pulls.nil | exact Pulls.all | (apply Pulls.cons; (repeat (first | exact Pull.head | apply Pull.tail))) | apply Pulls.skip))) ?_
      rintro _ _ ⟨_, ⟨rfl, rfl⟩, rfl⟩
      refine ⟨⟨_, by repeat (first | exact Pulls.nil | exact Pulls.all | (apply Pulls.cons; (repeat (first | exact Pull.head | apply Pull.tail))) | apply Pulls.skip)⟩, ?_⟩
      refine WM_val rfl rfl rfl rfl (R_len rfl Try.underlying38 rfl) ?_
      refine WM_val rfl rfl rfl rfl (R_neq rfl rfl rfl) ?_
      refine WM_val rfl rfl rfl rfl (R_pickF rfl rfl rfl) ?_
      refine WM_val rfl rfl rfl rfl (R_move rfl rfl) ?_
      refine WM_set (s := 82) (v := .bool false) rfl (by simp) ?_
      refine WM_val rfl rfl rfl rfl (R_move rfl rfl) ?_
      refine WM_do rfl rfl rfl rfl (D_call (mlen_zero b2 k o a b) rfl rfl rfl rfl (by repeat (first | exact Pulls.nil | exact Pulls.all | (apply Pulls.cons; (repeat (first | exact Pull.head | apply Pull.tail))) | apply Pulls.skip))) ?_
      rintro _ _ ⟨_, ⟨rfl, rfl⟩, rfl⟩
      refine ⟨⟨_, by repeat (first | exact Pulls.nil | exact Pulls.all | (apply Pulls.cons; (repeat (first | exact Pull.head | apply Pull.tail))) | apply Pulls.skip)⟩, ?_⟩
      refine WM_val rfl rfl rfl rfl (R_neq rfl rfl rfl) ?_
      refine WM_val rfl rfl rfl rfl (R_pickF rfl rfl rfl) ?_
      refine WM_val rfl rfl rfl rfl (R_move rfl rfl) ?_
      refine WM_set (s := 87) (v := .bool false) rfl (by simp) ?_
      refine WM_val rfl rfl rfl rfl (R_move rfl rfl) ?_
      refine WM_do rfl rfl rfl rfl (D_call (mcopy_zero b2 k o a b) rfl rfl rfl rfl (by repeat (first | exact Pulls.nil | exact Pulls.all | (apply Pulls.cons; (repeat (first | exact Pull.head | apply Pull.tail))) | apply Pulls.skip))) ?_
      rintro _ _ ⟨_, ⟨rfl, rfl⟩, rfl⟩
      refine ⟨⟨_, by repeat (first | exact Pulls.nil | exact Pulls.all | (apply Pulls.cons; (repeat (first | exact Pull.head | apply Pull.tail))) | apply Pulls.skip)⟩, ?_⟩
      refine WM_val rfl rfl rfl rfl (R_ptrNeNil rfl Try.underlying23 rfl) ?_
      refine WM_val rfl rfl rfl rfl (R_pickF rfl rfl rfl) ?_
      refine WM_nil ?_
      refine WQ_code ?_
      refine WC_F rfl ?_
      refine WC_skip ?_
      refine WQ_code ?_
      refine WC_region ?_
      refine WL_val rfl rfl rfl (R_add rfl rfl rfl (by omega)) ?_
      refine WL_val rfl rfl rfl (R_move rfl rfl) ?_
      refine WL_nil ?_
      refine WQ_nextF (2) (by omega) (by omega) (Le.lq (by repeat (first | exact Le.nil | refine Le.cons rfl (by first | rfl | (congr 1; omega)) ?_))) (by repeat (first | exact Pushed.refl | refine Pushed.push rfl ?_)) rfl (by repeat (first | exact Pulls.nil | exact Pulls.all | (apply Pulls.cons; (repeat (first | exact Pull.head | apply Pull.tail))) | apply Pulls.skip))
  · refine WC_exit ?_
    refine WQ_code ?_
    refine WC_seq ?_
    refine WC_region ?_
    refine WL_do rfl rfl rfl (D_call (known_ok) rfl rfl rfl rfl (by repeat (first | exact Pulls.nil | exact Pulls.all | (apply Pulls.cons; (repeat (first | exact Pull.head | apply Pull.tail))) | apply Pulls.skip))) ?_
    rintro _ _ ⟨_, ⟨rfl, rfl⟩, rfl⟩
    refine WL_val rfl rfl rfl (R_assign rfl rfl) ?_
    refine WL_nil ?_
    refine WQ_code ?_
    refine WC_ret ?_
    refine WQ_ret rfl rfl (.cons (.tmp rfl) .nil) rfl (by
        exact ⟨rfl, rfl⟩) (by repeat (first | exact Pulls.nil | exact Pulls.all | (apply Pulls.cons; (repeat (first | exact Pull.head | apply Pull.tail))) | apply Pulls.skip))

end Go.Proofs.Ytbaagjiailmlhaa
