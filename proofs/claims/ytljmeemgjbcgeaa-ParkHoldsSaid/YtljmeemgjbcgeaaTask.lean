/-
  Chapter 09 (park), part Task: contracts of functions that the laws call, each for the heap it names.
-/
import Derived.Test.YtljmeemgjbcgeaaRows
import Derived.Test.YtljmeemgjbcgeaaZSLQueue
import Derived.Test.YtljmeemgjbcgeaaTab
import Derived.Test.YtljmeemgjbcgeaaFifoB
set_option linter.unusedVariables false
set_option maxRecDepth 20000
set_option maxHeartbeats 1000000
namespace Go.Proofs.Ytljmeemgjbcgeaa


def encE (x : Int × Nat) : List Value := [.int .i64 x.1, .int .u64 (x.2 : Int)]
theorem encE2 (x : Int × Nat) : (encE x).length = 2 := rfl
theorem encE_one (x : Int × Nat) : (encE x).all Value.oneCell' = true := rfl
/-- A table of tasks in memory. -/
abbrev tR (p pe pq : Nat) (S : List (Int × Nat)) (c : Nat) (tl : List Value) : Heap := [⟨some p, cl [.slice (some ⟨pe, 0, none⟩) S.length c, ptrQ pq] 107⟩, ⟨some pe, cl (S.flatMap encE ++ tl) 120⟩]
abbrev tH (p pe pq pm : Nat) (S : List (Int × Nat)) (c : Nat) (tl : List Value) (Q : List (Nat × Int)) (n : Nat) (es : Array MapEntry) (mc : Nat) : Heap := tR p pe pq S c tl ++ qH pq pm Q n es mc
/-- States and run set fit. -/
structure Tk (S : List (Int × Nat)) (Q : List (Nat × Int)) (n : Nat) : Prop where
  len : 1 ≤ S.length ∧ S.length ≤ 64
  qk : Qk Q n
  ready : ∀ (i : Nat) (t : Nat), S[i]? = some (1, t) → (t, (i : Int)) ∈ Q
  back : ∀ t v, (t, v) ∈ Q → ∃ i : Nat, v = (i : Int) ∧ S[i]? = some (1, t)
  stt : ∀ (i : Nat) (x : Int) (t : Nat), S[i]? = some (x, t) → x = 0 ∨ x = 1 ∨ x = 2
abbrev OfP (k fr to : Int) : Prop := (k = 0 ∧ fr = 0 ∧ to = 1) ∨ (k = 1 ∧ fr = 1 ∧ to = 2) ∨ (k = 2 ∧ fr = 2 ∧ to = 1) ∨ (k = 3 ∧ fr = 1 ∧ to = 0) ∨ (k = 4 ∧ fr = 1 ∧ to = 1)
theorem of0 : Spec Try.prog 72 [.int .i64 0] [] (fun r H' => r = .agg #[.int .i64 0, .int .i64 1] ∧ H' = []) := by
  refine Spec.of (E := [(0, .int .i64 0)]) Try.func72 rfl (by kernel_rfl) Try.ntmps72 rfl rfl (fun w => ?_)
  refine WC_seq ?_
  refine WC_region ?_
  refine WL_do rfl rfl rfl (D_alloc rfl zv126) ?_
  rintro _ _ ⟨b1, rfl, rfl⟩
  refine WL_nil ?_
  refine WQ_code ?_
  refine WC_seq ?_
  refine WC_region ?_
  refine WL_val rfl rfl rfl (R_build rfl zv126 pl126 rfl rfl) ?_
  refine WL_val rfl rfl rfl (R_build rfl zv126 pl126 rfl rfl) ?_
  refine WL_val rfl rfl rfl (R_build rfl zv126 pl126 rfl rfl) ?_
  refine WL_val rfl rfl rfl (R_build rfl zv126 pl126 rfl rfl) ?_
  refine WL_val rfl rfl rfl (R_build rfl zv126 pl126 rfl rfl) ?_
  refine WL_val rfl rfl rfl (R_buildArr rfl Try.underlying131 Try.sizeOf126 zv131 rfl rfl) ?_
  refine WL_val rfl rfl rfl (R_move rfl rfl) ?_
  refine WL_val rfl rfl rfl (R_indexArrA (vs := [_, _]) rfl Try.underlying131 ag126 rfl rfl (by decide) rfl (atZ)) ?_
  refine WL_do0 rfl rfl (D_store (vs := [_, _]) rfl Try.sizeOf126 rfl rfl rfl rfl rfl (plZ) (by exact Nat.le_of_ble_eq_true rfl)) ?_
  rintro _ _ rfl
  refine WL_nil ?_
  refine WQ_code ?_
  refine WC_ret ?_
  refine WQ_ret rfl rfl (.cons (.cell (vs := [_, _]) rfl ag126 (mmZ) rfl (atZ)) .nil) rfl (by
      exact ⟨rfl, rfl⟩) (pqZ)
theorem of1 : Spec Try.prog 72 [.int .i64 1] [] (fun r H' => r = .agg #[.int .i64 1, .int .i64 2] ∧ H' = []) := by
  refine Spec.of (E := [(0, .int .i64 1)]) Try.func72 rfl (by kernel_rfl) Try.ntmps72 rfl rfl (fun w => ?_)
  refine WC_seq ?_
  refine WC_region ?_
  refine WL_do rfl rfl rfl (D_alloc rfl zv126) ?_
  rintro _ _ ⟨b1, rfl, rfl⟩
  refine WL_nil ?_
  refine WQ_code ?_
  refine WC_seq ?_
  refine WC_region ?_
  refine WL_val rfl rfl rfl (R_build rfl zv126 pl126 rfl rfl) ?_
  refine WL_val rfl rfl rfl (R_build rfl zv126 pl126 rfl rfl) ?_
  refine WL_val rfl rfl rfl (R_build rfl zv126 pl126 rfl rfl) ?_
  refine WL_val rfl rfl rfl (R_build rfl zv126 pl126 rfl rfl) ?_
  refine WL_val rfl rfl rfl (R_build rfl zv126 pl126 rfl rfl) ?_
  refine WL_val rfl rfl rfl (R_buildArr rfl Try.underlying131 Try.sizeOf126 zv131 rfl rfl) ?_
  refine WL_val rfl rfl rfl (R_move rfl rfl) ?_
  refine WL_val rfl rfl rfl (R_indexArrA (vs := [_, _]) rfl Try.underlying131 ag126 rfl rfl (by decide) rfl (atZ)) ?_
  refine WL_do0 rfl rfl (D_store (vs := [_, _]) rfl Try.sizeOf126 rfl rfl rfl rfl rfl (plZ) (by exact Nat.le_of_ble_eq_true rfl)) ?_
  rintro _ _ rfl
  refine WL_nil ?_
  refine WQ_code ?_
  refine WC_ret ?_
  refine WQ_ret rfl rfl (.cons (.cell (vs := [_, _]) rfl ag126 (mmZ) rfl (atZ)) .nil) rfl (by
      exact ⟨rfl, rfl⟩) (pqZ)
theorem of2 : Spec Try.prog 72 [.int .i64 2] [] (fun r H' => r = .agg #[.int .i64 2, .int .i64 1] ∧ H' = []) := by
  refine Spec.of (E := [(0, .int .i64 2)]) Try.func72 rfl (by kernel_rfl) Try.ntmps72 rfl rfl (fun w => ?_)
  refine WC_seq ?_
  refine WC_region ?_
  refine WL_do rfl rfl rfl (D_alloc rfl zv126) ?_
  rintro _ _ ⟨b1, rfl, rfl⟩
  refine WL_nil ?_
  refine WQ_code ?_
  refine WC_seq ?_
  refine WC_region ?_
  refine WL_val rfl rfl rfl (R_build rfl zv126 pl126 rfl rfl) ?_
  refine WL_val rfl rfl rfl (R_build rfl zv126 pl126 rfl rfl) ?_
  refine WL_val rfl rfl rfl (R_build rfl zv126 pl126 rfl rfl) ?_
  refine WL_val rfl rfl rfl (R_build rfl zv126 pl126 rfl rfl) ?_
  refine WL_val rfl rfl rfl (R_build rfl zv126 pl126 rfl rfl) ?_
  refine WL_val rfl rfl rfl (R_buildArr rfl Try.underlying131 Try.sizeOf126 zv131 rfl rfl) ?_
  refine WL_val rfl rfl rfl (R_move rfl rfl) ?_
  refine WL_val rfl rfl rfl (R_indexArrA (vs := [_, _]) rfl Try.underlying131 ag126 rfl rfl (by decide) rfl (atZ)) ?_
  refine WL_do0 rfl rfl (D_store (vs := [_, _]) rfl Try.sizeOf126 rfl rfl rfl rfl rfl (plZ) (by exact Nat.le_of_ble_eq_true rfl)) ?_
  rintro _ _ rfl
  refine WL_nil ?_
  refine WQ_code ?_
  refine WC_ret ?_
  refine WQ_ret rfl rfl (.cons (.cell (vs := [_, _]) rfl ag126 (mmZ) rfl (atZ)) .nil) rfl (by
      exact ⟨rfl, rfl⟩) (pqZ)
theorem of3 : Spec Try.prog 72 [.int .i64 3] [] (fun r H' => r = .agg #[.int .i64 1, .int .i64 0] ∧ H' = []) := by
  refine Spec.of (E := [(0, .int .i64 3)]) Try.func72 rfl (by kernel_rfl) Try.ntmps72 rfl rfl (fun w => ?_)
  refine WC_seq ?_
  refine WC_region ?_
  refine WL_do rfl rfl rfl (D_alloc rfl zv126) ?_
  rintro _ _ ⟨b1, rfl, rfl⟩
  refine WL_nil ?_
  refine WQ_code ?_
  refine WC_seq ?_
  refine WC_region ?_
  refine WL_val rfl rfl rfl (R_build rfl zv126 pl126 rfl rfl) ?_
  refine WL_val rfl rfl rfl (R_build rfl zv126 pl126 rfl rfl) ?_
  refine WL_val rfl rfl rfl (R_build rfl zv126 pl126 rfl rfl) ?_
  refine WL_val rfl rfl rfl (R_build rfl zv126 pl126 rfl rfl) ?_
  refine WL_val rfl rfl rfl (R_build rfl zv126 pl126 rfl rfl) ?_
  refine WL_val rfl rfl rfl (R_buildArr rfl Try.underlying131 Try.sizeOf126 zv131 rfl rfl) ?_
  refine WL_val rfl rfl rfl (R_move rfl rfl) ?_
  refine WL_val rfl rfl rfl (R_indexArrA (vs := [_, _]) rfl Try.underlying131 ag126 rfl rfl (by decide) rfl (atZ)) ?_
  refine WL_do0 rfl rfl (D_store (vs := [_, _]) rfl Try.sizeOf126 rfl rfl rfl rfl rfl (plZ) (by exact Nat.le_of_ble_eq_true rfl)) ?_
  rintro _ _ rfl
  refine WL_nil ?_
  refine WQ_code ?_
  refine WC_ret ?_
  refine WQ_ret rfl rfl (.cons (.cell (vs := [_, _]) rfl ag126 (mmZ) rfl (atZ)) .nil) rfl (by
      exact ⟨rfl, rfl⟩) (pqZ)
theorem of4 : Spec Try.prog 72 [.int .i64 4] [] (fun r H' => r = .agg #[.int .i64 1, .int .i64 1] ∧ H' = []) := by
  refine Spec.of (E := [(0, .int .i64 4)]) Try.func72 rfl (by kernel_rfl) Try.ntmps72 rfl rfl (fun w => ?_)
  refine WC_seq ?_
  refine WC_region ?_
  refine WL_do rfl rfl rfl (D_alloc rfl zv126) ?_
  rintro _ _ ⟨b1, rfl, rfl⟩
  refine WL_nil ?_
  refine WQ_code ?_
  refine WC_seq ?_
  refine WC_region ?_
  refine WL_val rfl rfl rfl (R_build rfl zv126 pl126 rfl rfl) ?_
  refine WL_val rfl rfl rfl (R_build rfl zv126 pl126 rfl rfl) ?_
  refine WL_val rfl rfl rfl (R_build rfl zv126 pl126 rfl rfl) ?_
  refine WL_val rfl rfl rfl (R_build rfl zv126 pl126 rfl rfl) ?_
  refine WL_val rfl rfl rfl (R_build rfl zv126 pl126 rfl rfl) ?_
  refine WL_val rfl rfl rfl (R_buildArr rfl Try.underlying131 Try.sizeOf126 zv131 rfl rfl) ?_
  refine WL_val rfl rfl rfl (R_move rfl rfl) ?_
  refine WL_val rfl rfl rfl (R_indexArrA (vs := [_, _]) rfl Try.underlying131 ag126 rfl rfl (by decide) rfl (atZ)) ?_
  refine WL_do0 rfl rfl (D_store (vs := [_, _]) rfl Try.sizeOf126 rfl rfl rfl rfl rfl (plZ) (by exact Nat.le_of_ble_eq_true rfl)) ?_
  rintro _ _ rfl
  refine WL_nil ?_
  refine WQ_code ?_
  refine WC_ret ?_
  refine WQ_ret rfl rfl (.cons (.cell (vs := [_, _]) rfl ag126 (mmZ) rfl (atZ)) .nil) rfl (by
      exact ⟨rfl, rfl⟩) (pqZ)
theorem of_ok {k fr to : Int} (h : OfP k fr to) : Spec Try.prog 72 [.int .i64 k] [] (fun r H' => r = .agg #[.int .i64 fr, .int .i64 to] ∧ H' = []) := by
  rcases h with ⟨rfl, rfl, rfl⟩ | ⟨rfl, rfl, rfl⟩ | ⟨rfl, rfl, rfl⟩ | ⟨rfl, rfl, rfl⟩ | ⟨rfl, rfl, rfl⟩
  · exact of0
  · exact of1
  · exact of2
  · exact of3
  · exact of4
theorem check_nil (i : Int) : Spec Try.prog 63 [.pointer none, .int .i64 i] [] (fun r H' => r = .int .i64 1 ∧ H' = []) := by
  refine Spec.of (E := [(0, .pointer none), (1, .int .i64 i)]) Try.func63 rfl (by kernel_rfl) Try.ntmps63 rfl rfl (fun w => ?_)
  refine WC_seq ?_
  refine WC_region ?_
  refine WL_val rfl rfl rfl (R_assign rfl rfl) ?_
  refine WL_nil ?_
  refine WQ_code ?_
  refine WC_seq ?_
  refine WC_block ?_
  refine WC_seq ?_
  refine WC_region ?_
  refine WL_val rfl rfl rfl (R_move rfl rfl) ?_
  refine WL_val rfl rfl rfl (R_ptrEqNil rfl Try.underlying65 rfl) ?_
  refine WL_val rfl rfl rfl (R_move rfl rfl) ?_
  refine WL_skip rfl rfl rfl ?_
  refine WL_skip rfl rfl rfl ?_
  refine WL_skip rfl rfl rfl ?_
  refine WL_skip rfl rfl rfl ?_
  refine WL_skip rfl rfl rfl ?_
  refine WL_val rfl rfl rfl (R_pickT rfl rfl rfl) ?_
  refine WL_val rfl rfl rfl (R_assign rfl rfl) ?_
  refine WL_nil ?_
  refine WQ_code ?_
  refine WC_T rfl ?_
  refine WC_seq ?_
  refine WC_region ?_
  refine WL_val rfl rfl rfl (R_assign rfl rfl) ?_
  refine WL_nil ?_
  refine WQ_code ?_
  refine WC_ret ?_
  refine WQ_ret rfl rfl (.cons (.tmp rfl) .nil) rfl (by
      exact ⟨rfl, rfl⟩) (pqZ)
theorem check_zero (p : Nat) (i : Int) : Spec Try.prog 63 [ptrQ p, .int .i64 i] [⟨some p, cl [.slice none 0 0, .pointer none] 107⟩] (fun r H' => r = .int .i64 1 ∧ H' = [⟨some p, cl [.slice none 0 0, .pointer none] 107⟩]) := by
  refine Spec.of (E := [(0, ptrQ p), (1, .int .i64 i)]) Try.func63 rfl (by kernel_rfl) Try.ntmps63 rfl rfl (fun w => ?_)
  refine WC_seq ?_
  refine WC_region ?_
  refine WL_val rfl rfl rfl (R_assign rfl rfl) ?_
  refine WL_nil ?_
  refine WQ_code ?_
  refine WC_seq ?_
  refine WC_block ?_
  refine WC_seq ?_
  refine WC_region ?_
  refine WL_val rfl rfl rfl (R_move rfl rfl) ?_
  refine WL_val rfl rfl rfl (R_ptrEqNil rfl Try.underlying65 rfl) ?_
  refine WL_val rfl rfl rfl (R_move rfl rfl) ?_
  refine WL_val rfl rfl rfl (R_move rfl rfl) ?_
  refine WL_val rfl rfl rfl (R_nilCheck rfl rfl) ?_
  refine WL_val rfl rfl rfl (R_fieldAddr rfl fa107_1 rfl) ?_
  refine WL_val rfl rfl rfl (R_load rfl sc76 rfl (mmZ) rfl) ?_
  refine WL_val rfl rfl rfl (R_ptrEqNil rfl Try.underlying76 rfl) ?_
  refine WL_val rfl rfl rfl (R_pickF rfl rfl rfl) ?_
  refine WL_val rfl rfl rfl (R_assign rfl rfl) ?_
  refine WL_nil ?_
  refine WQ_code ?_
  refine WC_T rfl ?_
  refine WC_seq ?_
  refine WC_region ?_
  refine WL_val rfl rfl rfl (R_assign rfl rfl) ?_
  refine WL_nil ?_
  refine WQ_code ?_
  refine WC_ret ?_
  refine WQ_ret rfl rfl (.cons (.tmp rfl) .nil) rfl (by
      exact ⟨rfl, rfl⟩) (pqZ)
theorem check_ok (p pe pq : Nat) (S : List (Int × Nat)) (c : Nat) (tl : List Value) (i : Int) : Spec Try.prog 63 [ptrQ p, .int .i64 i] (tR p pe pq S c tl) (fun r H' => r = .int .i64 (if i < 0 ∨ (S.length : Int) ≤ i then 2 else 0) ∧ H' = tR p pe pq S c tl) := by
  refine Spec.of (E := [(0, ptrQ p), (1, .int .i64 i)]) Try.func63 rfl (by kernel_rfl) Try.ntmps63 rfl rfl (fun w => ?_)
  refine WC_seq ?_
  refine WC_region ?_
  refine WL_val rfl rfl rfl (R_assign rfl rfl) ?_
  refine WL_nil ?_
  refine WQ_code ?_
  refine WC_seq ?_
  refine WC_block ?_
  refine WC_seq ?_
  refine WC_region ?_
  refine WL_val rfl rfl rfl (R_move rfl rfl) ?_
  refine WL_val rfl rfl rfl (R_ptrEqNil rfl Try.underlying65 rfl) ?_
  refine WL_val rfl rfl rfl (R_move rfl rfl) ?_
  refine WL_val rfl rfl rfl (R_move rfl rfl) ?_
  refine WL_val rfl rfl rfl (R_nilCheck rfl rfl) ?_
  refine WL_val rfl rfl rfl (R_fieldAddr rfl fa107_1 rfl) ?_
  refine WL_val rfl rfl rfl (R_load rfl sc76 rfl (mmZ) rfl) ?_
  refine WL_val rfl rfl rfl (R_ptrEqNil rfl Try.underlying76 rfl) ?_
  refine WL_val rfl rfl rfl (R_pickF rfl rfl rfl) ?_
  refine WL_val rfl rfl rfl (R_assign rfl rfl) ?_
  refine WL_nil ?_
  refine WQ_code ?_
  refine WC_F rfl ?_
  refine WC_seq ?_
  refine WC_region ?_
  refine WL_val rfl rfl rfl (R_move rfl rfl) ?_
  refine WL_val rfl rfl rfl (R_lss rfl rfl rfl) ?_
  refine WL_val rfl rfl rfl (R_move rfl rfl) ?_
  refine WL_splitD (s := 18) rfl (fun c1 => ?_) (fun c1 => ?_)
  · refine WL_skip rfl rfl rfl ?_
    refine WL_skip rfl rfl rfl ?_
    refine WL_skip rfl rfl rfl ?_
    refine WL_skip rfl rfl rfl ?_
    refine WL_skip rfl rfl rfl ?_
    refine WL_skip rfl rfl rfl ?_
    refine WL_skip rfl rfl rfl ?_
    refine WL_val rfl rfl rfl (R_pickT rfl rfl rfl) ?_
    refine WL_val rfl rfl rfl (R_assign rfl rfl) ?_
    refine WL_nil ?_
    refine WQ_code ?_
    refine WC_T rfl ?_
    refine WC_seq ?_
    refine WC_region ?_
    refine WL_val rfl rfl rfl (R_assign rfl rfl) ?_
    refine WL_nil ?_
    refine WQ_code ?_
    refine WC_ret ?_
    refine WQ_ret rfl rfl (.cons (.tmp rfl) .nil) rfl (by
        exact ⟨congrArg (Value.int .i64) (by split <;> omega), rfl⟩) (pqZ)
  · refine WL_val rfl rfl rfl (R_move rfl rfl) ?_
    refine WL_val rfl rfl rfl (R_move rfl rfl) ?_
    refine WL_val rfl rfl rfl (R_nilCheck rfl rfl) ?_
    refine WL_val rfl rfl rfl (R_fieldAddr rfl fa107_0 rfl) ?_
    refine WL_val rfl rfl rfl (R_load rfl sc105 rfl (mmZ) rfl) ?_
    refine WL_val rfl rfl rfl (R_len rfl Try.underlying105 rfl) ?_
    refine WL_val rfl rfl rfl (R_geq rfl rfl rfl) ?_
    refine WL_val rfl rfl rfl (R_pickF rfl rfl rfl) ?_
    refine WL_val rfl rfl rfl (R_assign rfl rfl) ?_
    refine WL_nil ?_
    refine WQ_code ?_
    refine WC_dec rfl (fun c2 => ?_) (fun c2 => ?_)
    · refine WC_seq ?_
      refine WC_region ?_
      refine WL_val rfl rfl rfl (R_assign rfl rfl) ?_
      refine WL_nil ?_
      refine WQ_code ?_
      refine WC_ret ?_
      refine WQ_ret rfl rfl (.cons (.tmp rfl) .nil) rfl (by
          exact ⟨congrArg (Value.int .i64) (by split <;> omega), rfl⟩) (pqZ)
    · refine WC_skip ?_
      refine WQ_code ?_
      refine WC_seq ?_
      refine WC_region ?_
      refine WL_val rfl rfl rfl (R_assign rfl rfl) ?_
      refine WL_nil ?_
      refine WQ_code ?_
      refine WC_ret ?_
      refine WQ_ret rfl rfl (.cons (.tmp rfl) .nil) rfl (by
          exact ⟨congrArg (Value.int .i64) (by split <;> omega), rfl⟩) (pqZ)
theorem tnew_bad (m : Int) (h : m < 1 ∨ 64 < m) : Spec Try.prog 30 [.int .i64 m] [] (fun r H' => r = .tuple #[.pointer none, .int .i64 2] ∧ H' = []) := by
  refine Spec.of (E := [(0, .int .i64 m)]) Try.func30 rfl (by kernel_rfl) Try.ntmps30 rfl rfl (fun w => ?_)
  refine WC_seq ?_
  refine WC_region ?_
  refine WL_val rfl rfl rfl (R_assign rfl rfl) ?_
  refine WL_val rfl rfl rfl (R_assign rfl rfl) ?_
  refine WL_nil ?_
  refine WQ_code ?_
  refine WC_seq ?_
  refine WC_seq ?_
  refine WC_region ?_
  refine WL_val rfl rfl rfl (R_move rfl rfl) ?_
  refine WL_val rfl rfl rfl (R_lss rfl rfl rfl) ?_
  refine WL_val rfl rfl rfl (R_move rfl rfl) ?_
  refine WL_splitD (s := 6) rfl (fun c1 => ?_) (fun c1 => ?_)
  · refine WL_skip rfl rfl rfl ?_
    refine WL_skip rfl rfl rfl ?_
    refine WL_val rfl rfl rfl (R_pickT rfl rfl rfl) ?_
    refine WL_nil ?_
    refine WQ_code ?_
    refine WC_T rfl ?_
    refine WC_seq ?_
    refine WC_region ?_
    refine WL_val rfl rfl rfl (R_assign rfl rfl) ?_
    refine WL_val rfl rfl rfl (R_assign rfl rfl) ?_
    refine WL_nil ?_
    refine WQ_code ?_
    refine WC_ret ?_
    refine WQ_ret rfl rfl (.cons (.tmp rfl) (.cons (.tmp rfl) .nil)) rfl (by
        exact ⟨rfl, rfl⟩) (pqZ)
  · refine WL_val rfl rfl rfl (R_move rfl rfl) ?_
    refine WL_val rfl rfl rfl (R_gtr rfl rfl rfl) ?_
    refine WL_val rfl rfl rfl (R_pickF rfl rfl rfl) ?_
    refine WL_nil ?_
    refine WQ_code ?_
    refine WC_dec rfl (fun c2 => ?_) (fun c2 => ?_)
    · refine WC_seq ?_
      refine WC_region ?_
      refine WL_val rfl rfl rfl (R_assign rfl rfl) ?_
      refine WL_val rfl rfl rfl (R_assign rfl rfl) ?_
      refine WL_nil ?_
      refine WQ_code ?_
      refine WC_ret ?_
      refine WQ_ret rfl rfl (.cons (.tmp rfl) (.cons (.tmp rfl) .nil)) rfl (by
          exact ⟨rfl, rfl⟩) (pqZ)
    · exfalso; revert h; simp_all <;> omega
def idle (m : Nat) : List (Int × Nat) := List.replicate m (0, 0)
theorem tnew_ok (m : Nat) (h1 : 1 ≤ m) (h2 : m ≤ 64) : Spec Try.prog 30 [.int .i64 (m : Int)] [] (fun r H' => ∃ p pe pq pm, r = .tuple #[ptrQ p, .int .i64 0] ∧ H' = tH p pe pq pm (idle m) m [] [] 0 #[] 0) := by
  refine Spec.of (E := [(0, .int .i64 (m : Int))]) Try.func30 rfl (by kernel_rfl) Try.ntmps30 rfl rfl (fun w => ?_)
  refine WC_seq ?_
  refine WC_region ?_
  refine WL_val rfl rfl rfl (R_assign rfl rfl) ?_
  refine WL_val rfl rfl rfl (R_assign rfl rfl) ?_
  refine WL_nil ?_
  refine WQ_code ?_
  refine WC_seq ?_
  refine WC_seq ?_
  refine WC_region ?_
  refine WL_val rfl rfl rfl (R_move rfl rfl) ?_
  refine WL_val rfl rfl rfl (R_lss rfl rfl rfl) ?_
  refine WL_val rfl rfl rfl (R_move rfl rfl) ?_
  refine WL_set (s := 6) (v := .bool false) rfl (by simp; omega) ?_
  refine WL_val rfl rfl rfl (R_move rfl rfl) ?_
  refine WL_val rfl rfl rfl (R_gtr rfl rfl rfl) ?_
  refine WL_val rfl rfl rfl (R_pickF rfl rfl rfl) ?_
  refine WL_nil ?_
  refine WQ_code ?_
  refine WC_dF rfl (by omega) ?_
  refine WC_skip ?_
  refine WQ_code ?_
  refine WC_seq ?_
  refine WC_drawB _ [(0, .q), (2, .n [1]), (1, .b []), (3, .q), (4, .b []), (5, .q), (6, .q)] followsMixed rfl rfl (by kernel_rfl) .all ?_
  refine WB_val rfl rfl rfl rfl (R_move rfl rfl) ?_
  refine WB_do rfl rfl rfl rfl (.cons rfl rfl (B_make (n := m) rfl si105 rfl rfl (by omega) (by omega)) .nil) (fun _ => D_call (qnew_ok) rfl rfl rfl rfl (pqZ)) ?_
  rintro _ _ ⟨_, ⟨pq, pm, rfl, rfl⟩, rfl⟩
  refine ⟨⟨_, pqZ⟩, ?_⟩
  refine WB_birth rfl rfl rfl rfl .nil (B_make (n := m) rfl si105 rfl rfl (by omega) (by omega)) (fun b1 => ?_)
  rw [show (List.replicate m [Value.int .i64 0, .int .u64 0]).flatten = (idle m).flatMap encE ++ [] from by rw [List.append_nil, idle, ← fm_rep]; rfl, show Value.slice (some ⟨b1, 0, none⟩) m m = Value.slice (some ⟨b1, 0, none⟩) (idle m).length m from by rw [idle, List.length_replicate]]
  refine WB_val rfl rfl rfl rfl (R_build rfl zv107 pl107 rfl rfl) ?_
  refine WB_birth rfl rfl rfl rfl .nil (B_box (cs := [_, _]) rfl rfl rfl) (fun b2 => ?_)
  refine WB_val rfl rfl rfl rfl (R_assign rfl rfl) ?_
  refine WB_val rfl rfl rfl rfl (R_assign rfl rfl) ?_
  refine WB_nil ?_
  refine WQ_code ?_
  refine WC_ret ?_
  refine WQ_ret rfl rfl (.cons (.tmp rfl) (.cons (.tmp rfl) .nil)) rfl (by
      exact ⟨_, b1, pq, pm, rfl, rfl⟩) (pqZ)
theorem tk_idle {m : Nat} (h1 : 1 ≤ m) (h2 : m ≤ 64) : Tk (idle m) [] 0 := by
  refine ⟨by simp [idle]; omega, Qk.empty 0, fun i t h => ?_, fun t v h => (by cases h), fun i x t h => ?_⟩
  · have := (List.mem_replicate.1 (List.mem_of_getElem? h)).2
    cases this
  · have := (List.mem_replicate.1 (List.mem_of_getElem? h)).2
    cases this; exact .inl rfl

end Go.Proofs.Ytljmeemgjbcgeaa
