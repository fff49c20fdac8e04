/-
  Chapter 46 (pool), part PoolT: contracts of functions that the laws call, each for the heap it names.
-/
import Derived.Test.YteofigbgdbpjgaaRows
import Derived.Test.YteofigbgdbpjgaaZB
import Derived.Test.YteofigbgdbpjgaaSLMapJ
import Derived.Test.YteofigbgdbpjgaaSLScope
import Derived.Test.YteofigbgdbpjgaaTab
import Derived.Test.YteofigbgdbpjgaaPoolJ
import Derived.Test.YteofigbgdbpjgaaPoolS
import Derived.Test.YteofigbgdbpjgaaIslB
set_option linter.unusedVariables false
set_option maxRecDepth 20000
set_option maxHeartbeats 1000000
namespace Go.Proofs.Yteofigbgdbpjgaa


abbrev plQ (Q : List Qp) (a : Int) : Nat × Nat := getT (wq Q) a (0, 0)
def keepW (Q : List Qp) (now : Nat) (a : Int) : Bool := !decide (now ≠ 18446744073709551615 ∧ (plQ Q a).2 ≤ now)
def lateC (Q : List Qp) (a b : Int) : Int := lexI ((plQ Q a).2 : Int) ((plQ Q b).2 : Int) ((plQ Q a).1 : Int) ((plQ Q b).1 : Int)
def young (s : PS) (now : Nat) (a : Int) : Bool := decide (s.keep = 18446744073709551615 ∨ now - sinceI s.C a < s.keep)
def ageC (C : List Cn) (a b : Int) : Int := cmpI (sinceI C a) (sinceI C b)
theorem vpas_ok (d now : Nat) : Spec Try.prog 50 [.int .u64 (d : Int), .int .u64 (now : Int)] [] (fun r H' => r = .bool (decide (now ≠ 18446744073709551615 ∧ d ≤ now)) ∧ H' = []) := by
  refine Spec.of (E := [(0, .int .u64 (d : Int)), (1, .int .u64 (now : Int))]) Try.func50 rfl (by kernel_rfl) Try.ntmps50 rfl rfl (fun w => ?_)
  refine WC_seq ?_
  refine WC_region ?_
  refine WL_val rfl rfl rfl (R_assign rfl rfl) ?_
  refine WL_nil ?_
  refine WQ_code ?_
  refine WC_seq ?_
  refine WC_region ?_
  refine WL_val rfl rfl rfl (R_move rfl rfl) ?_
  refine WL_val rfl rfl rfl (R_neq rfl rfl rfl) ?_
  refine WL_val rfl rfl rfl (R_move rfl rfl) ?_
  refine WL_splitD (s := 7) rfl (fun c1 => ?_) (fun c1 => ?_)
  · have hg := c1
    refine WL_val rfl rfl rfl (R_move rfl rfl) ?_
    refine WL_val rfl rfl rfl (R_move rfl rfl) ?_
    refine WL_val rfl rfl rfl (R_leq rfl rfl rfl) ?_
    refine WL_val rfl rfl rfl (R_pickT rfl rfl rfl) ?_
    refine WL_val rfl rfl rfl (R_assign rfl rfl) ?_
    refine WL_nil ?_
    refine WQ_code ?_
    refine WC_ret ?_
    refine WQ_ret rfl rfl (.cons (.tmp rfl) .nil) rfl (by
        first | exact ⟨congrArg Value.bool (decide_eq_decide.2 (by omega)), rfl⟩ | exact ⟨congrArg Value.bool (decide_eq_false (by omega)).symm, rfl⟩) (pqZ)
  · have hg := c1
    refine WL_skip rfl rfl rfl ?_
    refine WL_skip rfl rfl rfl ?_
    refine WL_skip rfl rfl rfl ?_
    refine WL_val rfl rfl rfl (R_pickF rfl rfl rfl) ?_
    refine WL_val rfl rfl rfl (R_assign rfl rfl) ?_
    refine WL_nil ?_
    refine WQ_code ?_
    refine WC_ret ?_
    refine WQ_ret rfl rfl (.cons (.tmp rfl) .nil) rfl (by
        first | exact ⟨congrArg Value.bool (decide_eq_decide.2 (by omega)), rfl⟩ | exact ⟨congrArg Value.bool (decide_eq_false (by omega)).symm, rfl⟩) (pqZ)
theorem nan64_ok (a : Int) : Spec Try.prog 79 [.int .u64 a] [] (fun r H' => r = .bool false ∧ H' = []) := by
  refine Spec.of (E := [(0, .int .u64 a)]) Try.func79 rfl (by kernel_rfl) Try.ntmps79 rfl rfl (fun w => ?_)
  refine WC_seq ?_
  refine WC_region ?_
  refine WL_val rfl rfl rfl (R_assign rfl rfl) ?_
  refine WL_nil ?_
  refine WQ_code ?_
  refine WC_seq ?_
  refine WC_region ?_
  refine WL_val rfl rfl rfl (R_move rfl rfl) ?_
  refine WL_val rfl rfl rfl (R_move rfl rfl) ?_
  refine WL_val rfl rfl rfl (R_neq rfl rfl rfl) ?_
  refine WL_val rfl rfl rfl (R_assign rfl rfl) ?_
  refine WL_nil ?_
  refine WQ_code ?_
  refine WC_ret ?_
  refine WQ_ret rfl rfl (.cons (.tmp rfl) .nil) rfl (by
      exact ⟨congrArg Value.bool (by simp), rfl⟩) (pqZ)
theorem cmp64_ok (a b : Int) : Spec Try.prog 53 [.int .u64 a, .int .u64 b] [] (fun r H' => r = .int .i64 (cmpI a b) ∧ H' = []) := by
  refine Spec.of (E := [(0, .int .u64 a), (1, .int .u64 b)]) Try.func53 rfl (by kernel_rfl) Try.ntmps53 rfl rfl (fun w => ?_)
  refine WC_seq ?_
  refine WC_region ?_
  refine WL_val rfl rfl rfl (R_assign rfl rfl) ?_
  refine WL_nil ?_
  refine WQ_code ?_
  refine WC_seq ?_
  refine WC_region ?_
  refine WL_val rfl rfl rfl (R_move rfl rfl) ?_
  refine WL_do rfl rfl rfl (D_call (nan64_ok _) rfl rfl rfl rfl (pqZ)) ?_
  rintro _ _ ⟨_, ⟨rfl, rfl⟩, rfl⟩
  refine WL_val rfl rfl rfl (R_assign rfl rfl) ?_
  refine WL_nil ?_
  refine WQ_code ?_
  refine WC_seq ?_
  refine WC_region ?_
  refine WL_val rfl rfl rfl (R_move rfl rfl) ?_
  refine WL_do rfl rfl rfl (D_call (nan64_ok _) rfl rfl rfl rfl (pqZ)) ?_
  rintro _ _ ⟨_, ⟨rfl, rfl⟩, rfl⟩
  refine WL_val rfl rfl rfl (R_assign rfl rfl) ?_
  refine WL_nil ?_
  refine WQ_code ?_
  refine WC_seq ?_
  refine WC_seq ?_
  refine WC_region ?_
  refine WL_val rfl rfl rfl (R_move rfl rfl) ?_
  refine WL_nil ?_
  refine WQ_code ?_
  refine WC_F rfl ?_
  refine WC_skip ?_
  refine WQ_code ?_
  refine WC_seq ?_
  refine WC_seq ?_
  refine WC_region ?_
  refine WL_val rfl rfl rfl (R_move rfl rfl) ?_
  refine WL_nil ?_
  refine WQ_code ?_
  refine WC_F rfl ?_
  refine WC_skip ?_
  refine WQ_code ?_
  refine WC_seq ?_
  refine WC_seq ?_
  refine WC_region ?_
  refine WL_val rfl rfl rfl (R_move rfl rfl) ?_
  refine WL_val rfl rfl rfl (R_move rfl rfl) ?_
  refine WL_val rfl rfl rfl (R_lss rfl rfl rfl) ?_
  refine WL_nil ?_
  refine WQ_code ?_
  refine WC_dec rfl (fun c1 => ?_) (fun c1 => ?_)
  · refine WC_seq ?_
    refine WC_region ?_
    refine WL_val rfl rfl rfl (R_assign rfl rfl) ?_
    refine WL_nil ?_
    refine WQ_code ?_
    refine WC_ret ?_
    refine WQ_ret rfl rfl (.cons (.tmp rfl) .nil) rfl (by
        exact ⟨congrArg (Value.int .i64) (by unfold cmpI; (repeat split) <;> omega), rfl⟩) (pqZ)
  · refine WC_skip ?_
    refine WQ_code ?_
    refine WC_seq ?_
    refine WC_seq ?_
    refine WC_region ?_
    refine WL_val rfl rfl rfl (R_move rfl rfl) ?_
    refine WL_val rfl rfl rfl (R_move rfl rfl) ?_
    refine WL_val rfl rfl rfl (R_gtr rfl rfl rfl) ?_
    refine WL_nil ?_
    refine WQ_code ?_
    refine WC_dec rfl (fun c2 => ?_) (fun c2 => ?_)
    · refine WC_seq ?_
      refine WC_region ?_
      refine WL_val rfl rfl rfl (R_assign rfl rfl) ?_
      refine WL_nil ?_
      refine WQ_code ?_
      refine WC_ret ?_
      refine WQ_ret rfl rfl (.cons (.tmp rfl) .nil) rfl (by
          exact ⟨congrArg (Value.int .i64) (by unfold cmpI; (repeat split) <;> omega), rfl⟩) (pqZ)
    · refine WC_skip ?_
      refine WQ_code ?_
      refine WC_seq ?_
      refine WC_region ?_
      refine WL_val rfl rfl rfl (R_assign rfl rfl) ?_
      refine WL_nil ?_
      refine WQ_code ?_
      refine WC_ret ?_
      refine WQ_ret rfl rfl (.cons (.tmp rfl) .nil) rfl (by
          exact ⟨congrArg (Value.int .i64) (by unfold cmpI; (repeat split) <;> omega), rfl⟩) (pqZ)
theorem padv1_ok {m : PM} {s : PS} (h : PIs m s) (b2 b3 now : Nat) (a : Int) : Spec Try.prog 49 [.int .i64 a, .pointer (some ⟨b2, 0, none⟩), .pointer (some ⟨b3, 0, none⟩)] [⟨some b2, cl [ptrP m.p] 23⟩, ⟨some b3, cl [.int .u64 (now : Int)] 28⟩, poP m s, poW m] (fun r H' => r = .bool (keepW s.Q now a) ∧ [⟨some b2, cl [ptrP m.p] 23⟩, ⟨some b3, cl [.int .u64 (now : Int)] 28⟩, poP m s, poW m] = H') := by
  refine Spec.of (E := [(0, .int .i64 a), (1, .pointer (some ⟨b2, 0, none⟩)), (2, .pointer (some ⟨b3, 0, none⟩))]) Try.func49 rfl (by kernel_rfl) Try.ntmps49 rfl rfl (fun w => ?_)
  refine WC_seq ?_
  refine WC_region ?_
  refine WL_val rfl rfl rfl (R_assign rfl rfl) ?_
  refine WL_nil ?_
  refine WQ_code ?_
  refine WC_seq ?_
  refine WC_draw _ [(0, true), (1, true), (2, true), (3, true), (4, true), (5, true), (6, true), (7, true), (8, true), (9, true), (10, true)] followsMixed rfl rfl (by kernel_rfl) .all ?_
  refine WM_val rfl rfl rfl rfl (R_load rfl sc23 rfl (mmZ) rfl) ?_
  refine WM_val rfl rfl rfl rfl (R_nilCheck rfl rfl) ?_
  refine WM_val rfl rfl rfl rfl (R_fieldAddr rfl fa71_6 rfl) ?_
  refine WM_val rfl rfl rfl rfl (R_load (v := .map (some m.wm)) rfl sc69 rfl (mmZ) (pc_t h.cl rfl 1)) ?_
  refine WM_val rfl rfl rfl rfl (R_move rfl rfl) ?_
  refine WM_val rfl rfl rfl rfl (R_lookKT_ (k := a) (z := ((0, 0) : Nat × Nat)) rfl Try.underlying69 int_key rfl rfl mmZ h.wM (fun w => Try.zeroValue86 w)) ?_
  refine WM_val rfl rfl rfl rfl (R_field rfl Try.underlying86 rfl rfl sc28 rfl rfl) ?_
  refine WM_val rfl rfl rfl rfl (R_load rfl sc28 rfl (mmZ) rfl) ?_
  refine WM_call rfl (Spec.quiet (vpas_ok _ now)) rfl rfl rfl rfl rfl rfl rfl (pqZ) ?_
  refine WM_val rfl rfl rfl rfl (R_not rfl rfl) ?_
  refine WM_val rfl rfl rfl rfl (R_assign rfl rfl) ?_
  refine WM_nil ?_
  refine WQ_code ?_
  refine WC_ret ?_
  refine WQ_ret rfl rfl (.cons (.tmp rfl) .nil) rfl (by
      exact ⟨rfl, rfl⟩) (pqZ)
theorem padv2_ok {m : PM} {s : PS} (h : PIs m s) (b2 : Nat) (a b : Int) : Spec Try.prog 52 [.int .i64 a, .int .i64 b, .pointer (some ⟨b2, 0, none⟩)] [⟨some b2, cl [ptrP m.p] 23⟩, poP m s, poW m] (fun r H' => r = .int .i64 (lateC s.Q a b) ∧ H' = [⟨some b2, cl [ptrP m.p] 23⟩, poP m s, poW m]) := by
  refine Spec.of (E := [(0, .int .i64 a), (1, .int .i64 b), (2, .pointer (some ⟨b2, 0, none⟩))]) Try.func52 rfl (by kernel_rfl) Try.ntmps52 rfl rfl (fun w => ?_)
  refine WC_seq ?_
  refine WC_region ?_
  refine WL_val rfl rfl rfl (R_assign rfl rfl) ?_
  refine WL_nil ?_
  refine WQ_code ?_
  refine WC_seq ?_
  refine WC_drawB _ [(0, .q), (1, .q), (2, .q), (3, .q), (4, .q), (5, .q), (6, .q), (7, .q), (8, .q), (9, .q), (10, .q), (11, .q), (12, .b [13]), (13, .b []), (14, .n []), (15, .n [])] followsMixed rfl rfl (by kernel_rfl) .all ?_
  refine WB_val rfl rfl rfl rfl (R_load rfl sc23 rfl (mmZ) rfl) ?_
  refine WB_val rfl rfl rfl rfl (R_nilCheck rfl rfl) ?_
  refine WB_val rfl rfl rfl rfl (R_fieldAddr rfl fa71_6 rfl) ?_
  refine WB_val rfl rfl rfl rfl (R_load (v := .map (some m.wm)) rfl sc69 rfl (mmZ) (pc_t h.cl rfl 1)) ?_
  refine WB_val rfl rfl rfl rfl (R_move rfl rfl) ?_
  refine WB_val rfl rfl rfl rfl (R_lookKT_ (k := a) (z := ((0, 0) : Nat × Nat)) rfl Try.underlying69 int_key rfl rfl mmZ h.wM (fun w => Try.zeroValue86 w)) ?_
  refine WB_val rfl rfl rfl rfl (R_load rfl sc23 rfl (mmZ) rfl) ?_
  refine WB_val rfl rfl rfl rfl (R_nilCheck rfl rfl) ?_
  refine WB_val rfl rfl rfl rfl (R_fieldAddr rfl fa71_6 rfl) ?_
  refine WB_val rfl rfl rfl rfl (R_load (v := .map (some m.wm)) rfl sc69 rfl (mmZ) (pc_t h.cl rfl 1)) ?_
  refine WB_val rfl rfl rfl rfl (R_move rfl rfl) ?_
  refine WB_val rfl rfl rfl rfl (R_lookKT_ (k := b) (z := ((0, 0) : Nat × Nat)) rfl Try.underlying69 int_key rfl rfl mmZ h.wM (fun w => Try.zeroValue86 w)) ?_
  refine WB_birth rfl rfl rfl rfl (.cons rfl rfl (B_alloc rfl zv86) .nil) (B_alloc rfl zv86) (fun b1 => ?_)
  refine WB_birth rfl rfl rfl rfl .nil (B_alloc rfl zv86) (fun b2 => ?_)
  refine WB_do0 rfl rfl rfl .nil (fun _ => D_store (vs := [_, _]) rfl Try.sizeOf86 rfl rfl rfl rfl rfl (plZ) (by exact Nat.le_of_ble_eq_true rfl)) ?_
  rintro _ _ rfl
  refine ⟨⟨_, pqZ⟩, ?_⟩
  refine WB_do0 rfl rfl rfl .nil (fun _ => D_store (vs := [_, _]) rfl Try.sizeOf86 rfl rfl rfl rfl rfl (plZ) (by exact Nat.le_of_ble_eq_true rfl)) ?_
  rintro _ _ rfl
  refine ⟨⟨_, pqZ⟩, ?_⟩
  refine WB_nil ?_
  refine WQ_code ?_
  refine WC_seq ?_
  refine WC_draw _ [(0, true), (1, true), (2, true), (3, true), (4, true), (5, true), (6, true), (7, true), (8, true), (9, true), (10, false), (11, false), (12, true)] followsMixed rfl rfl (by kernel_rfl) .all ?_
  refine WM_val rfl rfl rfl rfl (R_fieldAddr rfl fa86_1 rfl) ?_
  refine WM_val rfl rfl rfl rfl (R_load rfl sc28 rfl (mmZ) rfl) ?_
  refine WM_val rfl rfl rfl rfl (R_fieldAddr rfl fa86_1 rfl) ?_
  refine WM_val rfl rfl rfl rfl (R_load rfl sc28 rfl (mmZ) rfl) ?_
  refine WM_call rfl (Spec.quiet (cmpt_ok _ _)) rfl rfl rfl rfl rfl rfl rfl (pqZ) ?_
  refine WM_val rfl rfl rfl rfl (R_fieldAddr rfl fa86_0 rfl) ?_
  refine WM_val rfl rfl rfl rfl (R_load rfl sc27 rfl (mmZ) rfl) ?_
  refine WM_val rfl rfl rfl rfl (R_fieldAddr rfl fa86_0 rfl) ?_
  refine WM_val rfl rfl rfl rfl (R_load rfl sc27 rfl (mmZ) rfl) ?_
  refine WM_call rfl (Spec.quiet (cmp64_ok _ _)) rfl rfl rfl rfl rfl rfl rfl (pqZ) ?_
  refine WM_do rfl rfl rfl rfl (D_buildSlice rfl si78 rfl rfl rfl) ?_
  rintro _ _ ⟨b3, rfl, rfl⟩
  refine ⟨⟨_, pqZ⟩, ?_⟩
  refine WM_do rfl rfl rfl rfl (D_call (cor_ok [cmpI ((plQ s.Q a).2 : Int) ((plQ s.Q b).2 : Int), cmpI ((plQ s.Q a).1 : Int) ((plQ s.Q b).1 : Int)] (Nat.le_of_ble_eq_true rfl) _ _ [] (own_litP _ _ (Nat.le_of_ble_eq_true rfl))) rfl rfl rfl rfl (pqZ)) ?_
  rintro _ _ ⟨_, ⟨rfl, rfl⟩, rfl⟩
  refine ⟨⟨_, pqZ⟩, ?_⟩
  refine WM_val rfl rfl rfl rfl (R_assign rfl rfl) ?_
  refine WM_nil ?_
  refine WQ_code ?_
  refine WC_ret ?_
  refine WQ_ret rfl rfl (.cons (.tmp rfl) .nil) rfl (by
      exact ⟨rfl, rfl⟩) (pqZ)
theorem padv3_ok {m : PM} {s : PS} (h : PIs m s) (b2 b3 now : Nat) (hn : s.now ≤ now) (hb : now ≤ 18446744073709551615) (a : Int) (ha : a ∈ allI 3 s.C) : Spec Try.prog 54 [.int .i64 a, .pointer (some ⟨b2, 0, none⟩), .pointer (some ⟨b3, 0, none⟩)] [⟨some b2, cl [ptrP m.p] 23⟩, ⟨some b3, cl [.int .u64 (now : Int)] 28⟩, poP m s] (fun r H' => r = .bool (young s now a) ∧ [⟨some b2, cl [ptrP m.p] 23⟩, ⟨some b3, cl [.int .u64 (now : Int)] 28⟩, poP m s] = H') := by
  obtain ⟨i, x, rfl, hx, _⟩ := allI_mem ha
  have hi := (List.getElem?_eq_some_iff.1 hx).1
  rw [h.cl] at hi
  have hsi := h.since x (List.mem_of_getElem? hx)
  have hkp := h.keep
  refine Spec.of (E := [(0, .int .i64 (i : Int)), (1, .pointer (some ⟨b2, 0, none⟩)), (2, .pointer (some ⟨b3, 0, none⟩))]) Try.func54 rfl (by kernel_rfl) Try.ntmps54 rfl rfl (fun w => ?_)
  refine WC_seq ?_
  refine WC_region ?_
  refine WL_val rfl rfl rfl (R_assign rfl rfl) ?_
  refine WL_nil ?_
  refine WQ_code ?_
  refine WC_seq ?_
  refine WC_draw _ [(0, true), (1, true), (2, true), (3, true), (4, true), (5, true), (6, true), (7, true), (8, true), (9, true), (10, true), (11, true), (12, true), (13, true), (14, true), (15, true), (16, true), (17, true), (18, true), (19, true), (20, true), (21, true)] followsMixed rfl rfl (by kernel_rfl) .all ?_
  refine WM_val rfl rfl rfl rfl (R_load rfl sc23 rfl (mmZ) rfl) ?_
  refine WM_val rfl rfl rfl rfl (R_nilCheck rfl rfl) ?_
  refine WM_val rfl rfl rfl rfl (R_fieldAddr rfl fa71_2 rfl) ?_
  refine WM_val rfl rfl rfl rfl (R_load rfl sc28 rfl (mmZ) rfl) ?_
  refine WM_val rfl rfl rfl rfl (R_eql rfl rfl rfl) ?_
  refine WM_val rfl rfl rfl rfl (R_move rfl rfl) ?_
  refine WM_splitD (s := 10) rfl (fun c1 => ?_) (fun c1 => ?_)
  · have hg := c1
    refine WM_skip rfl rfl rfl rfl ?_
    refine WM_skip rfl rfl rfl rfl ?_
    refine WM_skip rfl rfl rfl rfl ?_
    refine WM_skip rfl rfl rfl rfl ?_
    refine WM_skip rfl rfl rfl rfl ?_
    refine WM_skip rfl rfl rfl rfl ?_
    refine WM_skip rfl rfl rfl rfl ?_
    refine WM_skip rfl rfl rfl rfl ?_
    refine WM_skip rfl rfl rfl rfl ?_
    refine WM_skip rfl rfl rfl rfl ?_
    refine WM_skip rfl rfl rfl rfl ?_
    refine WM_skip rfl rfl rfl rfl ?_
    refine WM_skip rfl rfl rfl rfl ?_
    refine WM_skip rfl rfl rfl rfl ?_
    refine WM_val rfl rfl rfl rfl (R_pickT rfl rfl rfl) ?_
    refine WM_val rfl rfl rfl rfl (R_assign rfl rfl) ?_
    refine WM_nil ?_
    refine WQ_code ?_
    refine WC_ret ?_
    refine WQ_ret rfl rfl (.cons (.tmp rfl) .nil) rfl (by
        first | exact ⟨congrArg Value.bool (by unfold young; rw [since_at hx]; exact decide_eq_decide.2 (by omega)), rfl⟩ | exact ⟨congrArg Value.bool (by unfold young; rw [since_at hx]; exact (decide_eq_true (by omega)).symm), rfl⟩) (pqZ)
  · have hg := c1
    refine WM_val rfl rfl rfl rfl (R_load rfl sc28 rfl (mmZ) rfl) ?_
    refine WM_val rfl rfl rfl rfl (R_load rfl sc23 rfl (mmZ) rfl) ?_
    refine WM_val rfl rfl rfl rfl (R_move rfl rfl) ?_
    refine WM_val rfl rfl rfl rfl (R_nilCheck rfl rfl) ?_
    refine WM_val rfl rfl rfl rfl (R_fieldAddr rfl fa71_4 rfl) ?_
    refine WM_val rfl rfl rfl rfl (R_indexAddrAN rfl Try.underlying67 Try.sizeOf66 rfl rfl (by omega)) ?_
    refine WM_val rfl rfl rfl rfl (R_fieldAddr rfl fa66_2 rfl) ?_
    refine WM_val rfl rfl rfl rfl (R_load (v := .int .u64 (x.since : Int)) rfl sc28 rfl (mmZ) (pc_get (A := pcH s) rfl hx (j := 2) (by omega))) ?_
    refine WM_val rfl rfl rfl rfl (R_subR (r := ((now - x.since : Nat) : Int)) rfl rfl rfl (by rw [w64 ⟨by omega, by omega⟩]; omega)) ?_
    refine WM_val rfl rfl rfl rfl (R_load rfl sc23 rfl (mmZ) rfl) ?_
    refine WM_val rfl rfl rfl rfl (R_nilCheck rfl rfl) ?_
    refine WM_val rfl rfl rfl rfl (R_fieldAddr rfl fa71_2 rfl) ?_
    refine WM_val rfl rfl rfl rfl (R_load rfl sc28 rfl (mmZ) rfl) ?_
    refine WM_val rfl rfl rfl rfl (R_lss rfl rfl rfl) ?_
    refine WM_val rfl rfl rfl rfl (R_pickF rfl rfl rfl) ?_
    refine WM_val rfl rfl rfl rfl (R_assign rfl rfl) ?_
    refine WM_nil ?_
    refine WQ_code ?_
    refine WC_ret ?_
    refine WQ_ret rfl rfl (.cons (.tmp rfl) .nil) rfl (by
        first | exact ⟨congrArg Value.bool (by unfold young; rw [since_at hx]; exact decide_eq_decide.2 (by omega)), rfl⟩ | exact ⟨congrArg Value.bool (by unfold young; rw [since_at hx]; exact (decide_eq_true (by omega)).symm), rfl⟩) (pqZ)
theorem padv4_ok {m : PM} {s : PS} (h : PIs m s) (b2 : Nat) (a b : Int) (ha : a ∈ allI 3 s.C) (hb : b ∈ allI 3 s.C) : Spec Try.prog 56 [.int .i64 a, .int .i64 b, .pointer (some ⟨b2, 0, none⟩)] [⟨some b2, cl [ptrP m.p] 23⟩, poP m s] (fun r H' => r = .int .i64 (ageC s.C a b) ∧ [⟨some b2, cl [ptrP m.p] 23⟩, poP m s] = H') := by
  obtain ⟨i, x, rfl, hx, _⟩ := allI_mem ha
  obtain ⟨j, y, rfl, hy, _⟩ := allI_mem hb
  have hi := (List.getElem?_eq_some_iff.1 hx).1
  have hj := (List.getElem?_eq_some_iff.1 hy).1
  rw [h.cl] at hi hj
  refine Spec.of (E := [(0, .int .i64 (i : Int)), (1, .int .i64 (j : Int)), (2, .pointer (some ⟨b2, 0, none⟩))]) Try.func56 rfl (by kernel_rfl) Try.ntmps56 rfl rfl (fun w => ?_)
  refine WC_seq ?_
  refine WC_region ?_
  refine WL_val rfl rfl rfl (R_assign rfl rfl) ?_
  refine WL_nil ?_
  refine WQ_code ?_
  refine WC_seq ?_
  refine WC_draw _ [(0, true), (1, true), (2, true), (3, true), (4, true), (5, true), (6, true), (7, true), (8, true), (9, true), (10, true), (11, true), (12, true), (13, true), (14, true), (15, true)] followsMixed rfl rfl (by kernel_rfl) .all ?_
  refine WM_val rfl rfl rfl rfl (R_load rfl sc23 rfl (mmZ) rfl) ?_
  refine WM_val rfl rfl rfl rfl (R_move rfl rfl) ?_
  refine WM_val rfl rfl rfl rfl (R_nilCheck rfl rfl) ?_
  refine WM_val rfl rfl rfl rfl (R_fieldAddr rfl fa71_4 rfl) ?_
  refine WM_val rfl rfl rfl rfl (R_indexAddrAN rfl Try.underlying67 Try.sizeOf66 rfl rfl (by omega)) ?_
  refine WM_val rfl rfl rfl rfl (R_fieldAddr rfl fa66_2 rfl) ?_
  refine WM_val rfl rfl rfl rfl (R_load (v := .int .u64 (x.since : Int)) rfl sc28 rfl (mmZ) (pc_get (A := pcH s) rfl hx (j := 2) (by omega))) ?_
  refine WM_val rfl rfl rfl rfl (R_load rfl sc23 rfl (mmZ) rfl) ?_
  refine WM_val rfl rfl rfl rfl (R_move rfl rfl) ?_
  refine WM_val rfl rfl rfl rfl (R_nilCheck rfl rfl) ?_
  refine WM_val rfl rfl rfl rfl (R_fieldAddr rfl fa71_4 rfl) ?_
  refine WM_val rfl rfl rfl rfl (R_indexAddrAN rfl Try.underlying67 Try.sizeOf66 rfl rfl (by omega)) ?_
  refine WM_val rfl rfl rfl rfl (R_fieldAddr rfl fa66_2 rfl) ?_
  refine WM_val rfl rfl rfl rfl (R_load (v := .int .u64 (y.since : Int)) rfl sc28 rfl (mmZ) (pc_get (A := pcH s) rfl hy (j := 2) (by omega))) ?_
  refine WM_call rfl (Spec.quiet (cmpt_ok _ _)) rfl rfl rfl rfl rfl rfl rfl (pqZ) ?_
  refine WM_val rfl rfl rfl rfl (R_assign rfl rfl) ?_
  refine WM_nil ?_
  refine WQ_code ?_
  refine WC_ret ?_
  refine WQ_ret rfl rfl (.cons (.tmp rfl) .nil) rfl (by
      exact ⟨congrArg (Value.int .i64) (by unfold ageC; rw [since_at hx, since_at hy]), rfl⟩) (pqZ)

end Go.Proofs.Yteofigbgdbpjgaa
