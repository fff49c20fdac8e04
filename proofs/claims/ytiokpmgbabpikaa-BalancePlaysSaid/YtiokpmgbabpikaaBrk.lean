/-
  Chapter 48 (balance), part Brk: contracts of functions that the laws call, each for the heap it names.
-/
import Derived.Test.YtiokpmgbabpikaaRows
import Derived.Test.YtiokpmgbabpikaaZSLOpt
import Derived.Test.YtiokpmgbabpikaaTab
set_option linter.unusedVariables false
set_option maxRecDepth 20000
set_option maxHeartbeats 1000000
namespace Go.Proofs.Ytiokpmgbabpikaa


abbrev ptrB (p : Nat) : Value := .pointer (some ⟨p, 0, none⟩)
structure Br where
  limit : Int
  probes : Int
  opn : Nat
  last : Nat
  gen : Int
  st : Int
  opened : Nat
  failed : Int
  allowed : Int
  good : Int
def brV (b : Br) : List Value := [.int .i64 b.limit, .int .i64 b.probes, .int .u64 (b.opn : Int), .int .u64 (b.last : Int), .int .i64 b.gen, .int .i64 b.st, .int .u64 (b.opened : Int), .int .i64 b.failed, .int .i64 b.allowed, .int .i64 b.good]
def zeroB : Br := ⟨0, 0, 0, 0, 0, 0, 0, 0, 0, 0⟩
def mayE (b : Br) (now : Nat) : Int := if now < b.last ∨ now = 18446744073709551615 then 3 else 0
def stB (b : Br) (now : Nat) : Int := if b.st = 1 ∧ b.opn ≤ now - b.opened then 2 else b.st
abbrev rdB (b : Br) (now : Nat) : Prop := stB b now = 0 ∨ (stB b now = 2 ∧ (b.st = 1 ∨ b.allowed < b.probes))
def alB (b : Br) (now : Nat) : Br :=
  if stB b now = 2 then (if b.st = 1 then ⟨b.limit, b.probes, b.opn, now, b.gen + 1, 2, 0, 0, 0 + 1, 0⟩ else ⟨b.limit, b.probes, b.opn, now, b.gen, b.st, b.opened, b.failed, b.allowed + 1, b.good⟩) else ⟨b.limit, b.probes, b.opn, now, b.gen, b.st, b.opened, b.failed, b.allowed, b.good⟩
def dnB (b : Br) (now : Nat) (good : Bool) : Br :=
  if b.st = 0 then (if good = true then ⟨b.limit, b.probes, b.opn, now, b.gen, b.st, b.opened, 0, b.allowed, b.good⟩ else if b.limit ≤ b.failed + 1 then ⟨b.limit, b.probes, b.opn, now, b.gen + 1, 1, now, 0, 0, 0⟩ else ⟨b.limit, b.probes, b.opn, now, b.gen, b.st, b.opened, b.failed + 1, b.allowed, b.good⟩)
  else if b.st = 2 then (if good = true then (if b.probes ≤ b.good + 1 then ⟨b.limit, b.probes, b.opn, now, b.gen + 1, 0, 0, 0, 0, 0⟩ else ⟨b.limit, b.probes, b.opn, now, b.gen, b.st, b.opened, b.failed, b.allowed, b.good + 1⟩) else ⟨b.limit, b.probes, b.opn, now, b.gen + 1, 1, now, 0, 0, 0⟩) else ⟨b.limit, b.probes, b.opn, now, b.gen, b.st, b.opened, b.failed, b.allowed, b.good⟩
/-- The bounds of what is counted. -/
structure Fit (b : Br) : Prop where
  lim : 1 ≤ b.limit ∧ b.limit ≤ 1000
  prb : 1 ≤ b.probes ∧ b.probes ≤ 1000
  opn : 1 ≤ b.opn ∧ b.opn ≤ 4294967296
  tm : b.opened ≤ b.last ∧ b.last ≤ 18446744073709551614
  gen : 0 ≤ b.gen ∧ b.gen ≤ 1000000
  cl : b.st = 0 → 0 ≤ b.failed ∧ b.failed < b.limit ∧ b.allowed = 0 ∧ b.good = 0 ∧ b.opened = 0
  op : b.st = 1 → b.failed = 0 ∧ b.allowed = 0 ∧ b.good = 0
  hf : b.st = 2 → b.failed = 0 ∧ 0 ≤ b.allowed ∧ b.allowed ≤ b.probes ∧ 0 ≤ b.good ∧ b.good < b.probes ∧ b.opened = 0
  st : b.st = 0 ∨ b.st = 1 ∨ b.st = 2
theorem bk_may_nil (now : Nat) : Spec Try.prog 39 [.pointer none, .int .u64 (now : Int)] [] (fun r H' => r = .int .i64 1 ∧ H' = []) := by
  refine Spec.of (E := [(0, .pointer none), (1, .int .u64 (now : Int))]) Try.func39 rfl (by kernel_rfl) Try.ntmps39 rfl rfl (fun w => ?_)
  refine WC_seq ?_
  refine WC_region ?_
  refine WL_val rfl rfl rfl (R_assign rfl rfl) ?_
  refine WL_nil ?_
  refine WQ_code ?_
  refine WC_seq ?_
  refine WC_block ?_
  refine WC_seq ?_
  refine WC_region ?_
  refine WL_val rfl rfl rfl (R_move rfl rfl) ?_
  refine WL_val rfl rfl rfl (R_ptrEqNil rfl Try.underlying69 rfl) ?_
  refine WL_val rfl rfl rfl (R_move rfl rfl) ?_
  refine WL_skip rfl rfl rfl ?_
  refine WL_skip rfl rfl rfl ?_
  refine WL_skip rfl rfl rfl ?_
  refine WL_skip rfl rfl rfl ?_
  refine WL_skip rfl rfl rfl ?_
  refine WL_val rfl rfl rfl (R_pickT rfl rfl rfl) ?_
  refine WL_val rfl rfl rfl (R_assign rfl rfl) ?_
  refine WL_nil ?_
  refine WQ_code ?_
  refine WC_T rfl ?_
  refine WC_seq ?_
  refine WC_region ?_
  refine WL_val rfl rfl rfl (R_assign rfl rfl) ?_
  refine WL_nil ?_
  refine WQ_code ?_
  refine WC_ret ?_
  refine WQ_ret rfl rfl (.cons (.tmp rfl) .nil) rfl (by
      exact ⟨rfl, rfl⟩) (pqZ)
theorem bk_may_zero (now p : Nat) : Spec Try.prog 39 [ptrB p, .int .u64 (now : Int)] [⟨some p, cl (brV zeroB) 101⟩] (fun r H' => r = .int .i64 1 ∧ H' = [⟨some p, cl (brV zeroB) 101⟩]) := by
  refine Spec.of (E := [(0, ptrB p), (1, .int .u64 (now : Int))]) Try.func39 rfl (by kernel_rfl) Try.ntmps39 rfl rfl (fun w => ?_)
  refine WC_seq ?_
  refine WC_region ?_
  refine WL_val rfl rfl rfl (R_assign rfl rfl) ?_
  refine WL_nil ?_
  refine WQ_code ?_
  refine WC_seq ?_
  refine WC_block ?_
  refine WC_seq ?_
  refine WC_region ?_
  refine WL_val rfl rfl rfl (R_move rfl rfl) ?_
  refine WL_val rfl rfl rfl (R_ptrEqNil rfl Try.underlying69 rfl) ?_
  refine WL_val rfl rfl rfl (R_move rfl rfl) ?_
  refine WL_val rfl rfl rfl (R_move rfl rfl) ?_
  refine WL_val rfl rfl rfl (R_nilCheck rfl rfl) ?_
  refine WL_val rfl rfl rfl (R_fieldAddr rfl fa101_0 rfl) ?_
  refine WL_val rfl rfl rfl (R_load rfl sc3 rfl (mmZ) rfl) ?_
  refine WL_val rfl rfl rfl (R_eql rfl rfl rfl) ?_
  refine WL_val rfl rfl rfl (R_pickF rfl rfl rfl) ?_
  refine WL_val rfl rfl rfl (R_assign rfl rfl) ?_
  refine WL_nil ?_
  refine WQ_code ?_
  refine WC_dT rfl (by rfl) ?_
  refine WC_seq ?_
  refine WC_region ?_
  refine WL_val rfl rfl rfl (R_assign rfl rfl) ?_
  refine WL_nil ?_
  refine WQ_code ?_
  refine WC_ret ?_
  refine WQ_ret rfl rfl (.cons (.tmp rfl) .nil) rfl (by
      exact ⟨rfl, rfl⟩) (pqZ)
theorem bk_may_ok (b : Br) (hl : 1 ≤ b.limit) (now p : Nat) : Spec Try.prog 39 [ptrB p, .int .u64 (now : Int)] [⟨some p, cl (brV b) 101⟩] (fun r H' => r = .int .i64 (mayE b now) ∧ H' = [⟨some p, cl (brV b) 101⟩]) := by
  refine Spec.of (E := [(0, ptrB p), (1, .int .u64 (now : Int))]) Try.func39 rfl (by kernel_rfl) Try.ntmps39 rfl rfl (fun w => ?_)
  refine WC_seq ?_
  refine WC_region ?_
  refine WL_val rfl rfl rfl (R_assign rfl rfl) ?_
  refine WL_nil ?_
  refine WQ_code ?_
  refine WC_seq ?_
  refine WC_block ?_
  refine WC_seq ?_
  refine WC_region ?_
  refine WL_val rfl rfl rfl (R_move rfl rfl) ?_
  refine WL_val rfl rfl rfl (R_ptrEqNil rfl Try.underlying69 rfl) ?_
  refine WL_val rfl rfl rfl (R_move rfl rfl) ?_
  refine WL_val rfl rfl rfl (R_move rfl rfl) ?_
  refine WL_val rfl rfl rfl (R_nilCheck rfl rfl) ?_
  refine WL_val rfl rfl rfl (R_fieldAddr rfl fa101_0 rfl) ?_
  refine WL_val rfl rfl rfl (R_load rfl sc3 rfl (mmZ) rfl) ?_
  refine WL_val rfl rfl rfl (R_eql rfl rfl rfl) ?_
  refine WL_val rfl rfl rfl (R_pickF rfl rfl rfl) ?_
  refine WL_val rfl rfl rfl (R_assign rfl rfl) ?_
  refine WL_nil ?_
  refine WQ_code ?_
  refine WC_dF rfl (by omega) ?_
  refine WC_seq ?_
  refine WC_region ?_
  refine WL_val rfl rfl rfl (R_move rfl rfl) ?_
  refine WL_val rfl rfl rfl (R_move rfl rfl) ?_
  refine WL_val rfl rfl rfl (R_nilCheck rfl rfl) ?_
  refine WL_val rfl rfl rfl (R_fieldAddr rfl fa101_3 rfl) ?_
  refine WL_val rfl rfl rfl (R_load rfl sc30 rfl (mmZ) rfl) ?_
  refine WL_val rfl rfl rfl (R_lss rfl rfl rfl) ?_
  refine WL_val rfl rfl rfl (R_move rfl rfl) ?_
  refine WL_splitD (s := 22) rfl (fun c1 => ?_) (fun c1 => ?_)
  · refine WL_skip rfl rfl rfl ?_
    refine WL_skip rfl rfl rfl ?_
    refine WL_val rfl rfl rfl (R_pickT rfl rfl rfl) ?_
    refine WL_val rfl rfl rfl (R_assign rfl rfl) ?_
    refine WL_nil ?_
    refine WQ_code ?_
    refine WC_T rfl ?_
    refine WC_seq ?_
    refine WC_region ?_
    refine WL_val rfl rfl rfl (R_assign rfl rfl) ?_
    refine WL_nil ?_
    refine WQ_code ?_
    refine WC_ret ?_
    refine WQ_ret rfl rfl (.cons (.tmp rfl) .nil) rfl (by
        exact ⟨congrArg (Value.int .i64) (by rw [mayE]; split <;> omega), rfl⟩) (pqZ)
  · refine WL_val rfl rfl rfl (R_move rfl rfl) ?_
    refine WL_val rfl rfl rfl (R_eql rfl rfl rfl) ?_
    refine WL_val rfl rfl rfl (R_pickF rfl rfl rfl) ?_
    refine WL_val rfl rfl rfl (R_assign rfl rfl) ?_
    refine WL_nil ?_
    refine WQ_code ?_
    refine WC_dec rfl (fun c2 => ?_) (fun c2 => ?_)
    · refine WC_seq ?_
      refine WC_region ?_
      refine WL_val rfl rfl rfl (R_assign rfl rfl) ?_
      refine WL_nil ?_
      refine WQ_code ?_
      refine WC_ret ?_
      refine WQ_ret rfl rfl (.cons (.tmp rfl) .nil) rfl (by
          exact ⟨congrArg (Value.int .i64) (by rw [mayE]; split <;> omega), rfl⟩) (pqZ)
    · refine WC_skip ?_
      refine WQ_code ?_
      refine WC_seq ?_
      refine WC_region ?_
      refine WL_val rfl rfl rfl (R_assign rfl rfl) ?_
      refine WL_nil ?_
      refine WQ_code ?_
      refine WC_ret ?_
      refine WQ_ret rfl rfl (.cons (.tmp rfl) .nil) rfl (by
          exact ⟨congrArg (Value.int .i64) (by rw [mayE]; split <;> omega), rfl⟩) (pqZ)
theorem bk_state_ok (b : Br) (now p : Nat) (h : b.opened ≤ now) (hn : now ≤ 18446744073709551615) : Spec Try.prog 41 [ptrB p, .int .u64 (now : Int)] [⟨some p, cl (brV b) 101⟩] (fun r H' => r = .int .i64 (stB b now) ∧ H' = [⟨some p, cl (brV b) 101⟩]) := by
  refine Spec.of (E := [(0, ptrB p), (1, .int .u64 (now : Int))]) Try.func41 rfl (by kernel_rfl) Try.ntmps41 rfl rfl (fun w => ?_)
  refine WC_seq ?_
  refine WC_region ?_
  refine WL_val rfl rfl rfl (R_assign rfl rfl) ?_
  refine WL_nil ?_
  refine WQ_code ?_
  refine WC_seq ?_
  refine WC_seq ?_
  refine WC_draw _ [(0, true), (1, true), (2, true), (3, true), (4, true), (5, true), (6, true), (7, true), (8, true), (9, true), (10, true), (11, true), (12, true), (13, true), (14, true), (15, true), (16, true), (17, true), (18, true), (19, true)] followsMixed rfl rfl (by kernel_rfl) .all ?_
  refine WM_val rfl rfl rfl rfl (R_move rfl rfl) ?_
  refine WM_val rfl rfl rfl rfl (R_nilCheck rfl rfl) ?_
  refine WM_val rfl rfl rfl rfl (R_fieldAddr rfl fa101_5 rfl) ?_
  refine WM_val rfl rfl rfl rfl (R_fieldAddr rfl fa99_0 rfl) ?_
  refine WM_val rfl rfl rfl rfl (R_load rfl sc97 rfl (mmZ) rfl) ?_
  refine WM_val rfl rfl rfl rfl (R_eql rfl rfl rfl) ?_
  refine WM_val rfl rfl rfl rfl (R_move rfl rfl) ?_
  refine WM_splitD (s := 11) rfl (fun c1 => ?_) (fun c1 => ?_)
  · refine WM_val rfl rfl rfl rfl (R_move rfl rfl) ?_
    refine WM_val rfl rfl rfl rfl (R_move rfl rfl) ?_
    refine WM_val rfl rfl rfl rfl (R_nilCheck rfl rfl) ?_
    refine WM_val rfl rfl rfl rfl (R_fieldAddr rfl fa101_5 rfl) ?_
    refine WM_val rfl rfl rfl rfl (R_fieldAddr rfl fa99_1 rfl) ?_
    refine WM_val rfl rfl rfl rfl (R_load rfl sc30 rfl (mmZ) rfl) ?_
    refine WM_val rfl rfl rfl rfl (R_subR (r := ((now - b.opened : Nat) : Int)) rfl rfl rfl (by rw [w64 ⟨by omega, by omega⟩]; omega)) ?_
    refine WM_val rfl rfl rfl rfl (R_move rfl rfl) ?_
    refine WM_val rfl rfl rfl rfl (R_nilCheck rfl rfl) ?_
    refine WM_val rfl rfl rfl rfl (R_fieldAddr rfl fa101_2 rfl) ?_
    refine WM_val rfl rfl rfl rfl (R_load rfl sc30 rfl (mmZ) rfl) ?_
    refine WM_val rfl rfl rfl rfl (R_geq rfl rfl rfl) ?_
    refine WM_val rfl rfl rfl rfl (R_pickT rfl rfl rfl) ?_
    refine WM_nil ?_
    refine WQ_code ?_
    refine WC_dec rfl (fun c2 => ?_) (fun c2 => ?_)
    · refine WC_seq ?_
      refine WC_region ?_
      refine WL_val rfl rfl rfl (R_assign rfl rfl) ?_
      refine WL_nil ?_
      refine WQ_code ?_
      refine WC_ret ?_
      refine WQ_ret rfl rfl (.cons (.tmp rfl) .nil) rfl (by
          exact ⟨congrArg (Value.int .i64) (by rw [stB]; split <;> omega), rfl⟩) (pqZ)
    · refine WC_skip ?_
      refine WQ_code ?_
      refine WC_seq ?_
      refine WC_region ?_
      refine WL_val rfl rfl rfl (R_move rfl rfl) ?_
      refine WL_val rfl rfl rfl (R_nilCheck rfl rfl) ?_
      refine WL_val rfl rfl rfl (R_fieldAddr rfl fa101_5 rfl) ?_
      refine WL_val rfl rfl rfl (R_fieldAddr rfl fa99_0 rfl) ?_
      refine WL_val rfl rfl rfl (R_load rfl sc97 rfl (mmZ) rfl) ?_
      refine WL_val rfl rfl rfl (R_assign rfl rfl) ?_
      refine WL_nil ?_
      refine WQ_code ?_
      refine WC_ret ?_
      refine WQ_ret rfl rfl (.cons (.tmp rfl) .nil) rfl (by
          exact ⟨congrArg (Value.int .i64) (by rw [stB]; split <;> omega), rfl⟩) (pqZ)
  · refine WM_skip rfl rfl rfl rfl ?_
    refine WM_skip rfl rfl rfl rfl ?_
    refine WM_skip rfl rfl rfl rfl ?_
    refine WM_skip rfl rfl rfl rfl ?_
    refine WM_skip rfl rfl rfl rfl ?_
    refine WM_skip rfl rfl rfl rfl ?_
    refine WM_skip rfl rfl rfl rfl ?_
    refine WM_skip rfl rfl rfl rfl ?_
    refine WM_skip rfl rfl rfl rfl ?_
    refine WM_skip rfl rfl rfl rfl ?_
    refine WM_skip rfl rfl rfl rfl ?_
    refine WM_skip rfl rfl rfl rfl ?_
    refine WM_val rfl rfl rfl rfl (R_pickF rfl rfl rfl) ?_
    refine WM_nil ?_
    refine WQ_code ?_
    refine WC_F rfl ?_
    refine WC_skip ?_
    refine WQ_code ?_
    refine WC_seq ?_
    refine WC_region ?_
    refine WL_val rfl rfl rfl (R_move rfl rfl) ?_
    refine WL_val rfl rfl rfl (R_nilCheck rfl rfl) ?_
    refine WL_val rfl rfl rfl (R_fieldAddr rfl fa101_5 rfl) ?_
    refine WL_val rfl rfl rfl (R_fieldAddr rfl fa99_0 rfl) ?_
    refine WL_val rfl rfl rfl (R_load rfl sc97 rfl (mmZ) rfl) ?_
    refine WL_val rfl rfl rfl (R_assign rfl rfl) ?_
    refine WL_nil ?_
    refine WQ_code ?_
    refine WC_ret ?_
    refine WQ_ret rfl rfl (.cons (.tmp rfl) .nil) rfl (by
        exact ⟨congrArg (Value.int .i64) (by rw [stB]; split <;> omega), rfl⟩) (pqZ)
theorem bk_ready_ok (b : Br) (now p : Nat) (h : b.opened ≤ now) (hn : now ≤ 18446744073709551615) : Spec Try.prog 40 [ptrB p, .int .u64 (now : Int)] [⟨some p, cl (brV b) 101⟩] (fun r H' => r = .bool (decide (rdB b now)) ∧ H' = [⟨some p, cl (brV b) 101⟩]) := by
  refine Spec.of (E := [(0, ptrB p), (1, .int .u64 (now : Int))]) Try.func40 rfl (by kernel_rfl) Try.ntmps40 rfl rfl (fun w => ?_)
  refine WC_seq ?_
  refine WC_region ?_
  refine WL_val rfl rfl rfl (R_assign rfl rfl) ?_
  refine WL_nil ?_
  refine WQ_code ?_
  refine WC_seq ?_
  refine WC_seq ?_
  refine WC_region ?_
  refine WL_val rfl rfl rfl (R_move rfl rfl) ?_
  refine WL_val rfl rfl rfl (R_move rfl rfl) ?_
  refine WL_do rfl rfl rfl (D_call (bk_state_ok b now p h hn) rfl rfl rfl rfl (pqZ)) ?_
  rintro _ _ ⟨_, ⟨rfl, rfl⟩, rfl⟩
  refine WL_nil ?_
  refine WQ_code ?_
  refine WC_block ?_
  refine WC_seq ?_
  refine WC_region ?_
  refine WL_val rfl rfl rfl (R_eql rfl rfl rfl) ?_
  refine WL_val rfl rfl rfl (R_assign rfl rfl) ?_
  refine WL_nil ?_
  refine WQ_code ?_
  refine WC_dec rfl (fun c1 => ?_) (fun c1 => ?_)
  · refine WC_seq ?_
    refine WC_region ?_
    refine WL_val rfl rfl rfl (R_assign rfl rfl) ?_
    refine WL_nil ?_
    refine WQ_code ?_
    refine WC_ret ?_
    refine WQ_ret rfl rfl (.cons (.tmp rfl) .nil) rfl (by
        exact ⟨congrArg Value.bool (by rw [Bool.eq_iff_iff]; simp [rdB] <;> omega), rfl⟩) (pqZ)
  · refine WC_seq ?_
    refine WC_region ?_
    refine WL_val rfl rfl rfl (R_eql rfl rfl rfl) ?_
    refine WL_val rfl rfl rfl (R_assign rfl rfl) ?_
    refine WL_nil ?_
    refine WQ_code ?_
    refine WC_dec rfl (fun c2 => ?_) (fun c2 => ?_)
    · refine WC_seq ?_
      refine WC_draw _ [(0, true), (1, true), (2, true), (3, true), (4, true), (5, true), (6, true), (7, true), (8, true), (9, true), (10, true), (11, true), (12, true), (13, true), (14, true), (15, true), (16, true), (17, true), (18, true)] followsMixed rfl rfl (by kernel_rfl) .all ?_
      refine WM_val rfl rfl rfl rfl (R_move rfl rfl) ?_
      refine WM_val rfl rfl rfl rfl (R_nilCheck rfl rfl) ?_
      refine WM_val rfl rfl rfl rfl (R_fieldAddr rfl fa101_5 rfl) ?_
      refine WM_val rfl rfl rfl rfl (R_fieldAddr rfl fa99_0 rfl) ?_
      refine WM_val rfl rfl rfl rfl (R_load rfl sc97 rfl (mmZ) rfl) ?_
      refine WM_val rfl rfl rfl rfl (R_eql rfl rfl rfl) ?_
      refine WM_val rfl rfl rfl rfl (R_move rfl rfl) ?_
      refine WM_splitD (s := 18) rfl (fun c3 => ?_) (fun c3 => ?_)
      · refine WM_skip rfl rfl rfl rfl ?_
        refine WM_skip rfl rfl rfl rfl ?_
        refine WM_skip rfl rfl rfl rfl ?_
        refine WM_skip rfl rfl rfl rfl ?_
        refine WM_skip rfl rfl rfl rfl ?_
        refine WM_skip rfl rfl rfl rfl ?_
        refine WM_skip rfl rfl rfl rfl ?_
        refine WM_skip rfl rfl rfl rfl ?_
        refine WM_skip rfl rfl rfl rfl ?_
        refine WM_skip rfl rfl rfl rfl ?_
        refine WM_val rfl rfl rfl rfl (R_pickT rfl rfl rfl) ?_
        refine WM_val rfl rfl rfl rfl (R_assign rfl rfl) ?_
        refine WM_nil ?_
        refine WQ_code ?_
        refine WC_ret ?_
        refine WQ_ret rfl rfl (.cons (.tmp rfl) .nil) rfl (by
            exact ⟨congrArg Value.bool (by rw [Bool.eq_iff_iff]; simp [rdB] <;> omega), rfl⟩) (pqZ)
      · refine WM_val rfl rfl rfl rfl (R_move rfl rfl) ?_
        refine WM_val rfl rfl rfl rfl (R_nilCheck rfl rfl) ?_
        refine WM_val rfl rfl rfl rfl (R_fieldAddr rfl fa101_5 rfl) ?_
        refine WM_val rfl rfl rfl rfl (R_fieldAddr rfl fa99_3 rfl) ?_
        refine WM_val rfl rfl rfl rfl (R_load rfl sc3 rfl (mmZ) rfl) ?_
        refine WM_val rfl rfl rfl rfl (R_move rfl rfl) ?_
        refine WM_val rfl rfl rfl rfl (R_nilCheck rfl rfl) ?_
        refine WM_val rfl rfl rfl rfl (R_fieldAddr rfl fa101_1 rfl) ?_
        refine WM_val rfl rfl rfl rfl (R_load rfl sc3 rfl (mmZ) rfl) ?_
        refine WM_val rfl rfl rfl rfl (R_lss rfl rfl rfl) ?_
        refine WM_val rfl rfl rfl rfl (R_pickF rfl rfl rfl) ?_
        refine WM_val rfl rfl rfl rfl (R_assign rfl rfl) ?_
        refine WM_nil ?_
        refine WQ_code ?_
        refine WC_ret ?_
        refine WQ_ret rfl rfl (.cons (.tmp rfl) .nil) rfl (by
            exact ⟨congrArg Value.bool (by rw [Bool.eq_iff_iff]; simp [rdB] <;> omega), rfl⟩) (pqZ)
    · refine WC_skip ?_
      refine WQ_code ?_
      refine WC_seq ?_
      refine WC_region ?_
      refine WL_val rfl rfl rfl (R_assign rfl rfl) ?_
      refine WL_nil ?_
      refine WQ_code ?_
      refine WC_ret ?_
      refine WQ_ret rfl rfl (.cons (.tmp rfl) .nil) rfl (by
          exact ⟨congrArg Value.bool (by rw [Bool.eq_iff_iff]; simp [rdB] <;> omega), rfl⟩) (pqZ)
theorem bk_change_ok (b : Br) (hg : b.gen ≤ 1000000 ∧ 0 ≤ b.gen) (p : Nat) (s : Int) (o : Nat) (f a g : Int) : Spec Try.prog 42 [ptrB p, .agg #[.int .i64 s, .int .u64 (o : Int), .int .i64 f, .int .i64 a, .int .i64 g]] [⟨some p, cl (brV b) 101⟩]
    (fun r H' => H' = [⟨some p, cl (brV ⟨b.limit, b.probes, b.opn, b.last, b.gen + 1, s, o, f, a, g⟩) 101⟩]) := by
  refine Spec.of (E := [(0, ptrB p), (1, .agg #[.int .i64 s, .int .u64 (o : Int), .int .i64 f, .int .i64 a, .int .i64 g])]) Try.func42 rfl (by kernel_rfl) Try.ntmps42 rfl rfl (fun w => ?_)
  refine WC_seq ?_
  refine WC_region ?_
  refine WL_do rfl rfl rfl (D_box (cs := [_, _, _, _, _]) rfl rfl rfl) ?_
  rintro _ _ ⟨b1, rfl, rfl⟩
  refine WL_nil ?_
  refine WQ_code ?_
  refine WC_seq ?_
  refine WC_region ?_
  refine WL_val rfl rfl rfl (R_move rfl rfl) ?_
  refine WL_val rfl rfl rfl (R_loadA (vs := [_, _, _, _, _]) rfl ag99 rfl (mmZ) rfl (atZ)) ?_
  refine WL_val rfl rfl rfl (R_nilCheck rfl rfl) ?_
  refine WL_val rfl rfl rfl (R_fieldAddr rfl fa101_5 rfl) ?_
  refine WL_do0 rfl rfl (D_store (vs := [_, _, _, _, _]) rfl Try.sizeOf99 rfl rfl rfl rfl rfl (plZ) (by exact Nat.le_of_ble_eq_true rfl)) ?_
  rintro _ _ rfl
  refine WL_nil ?_
  refine WQ_code ?_
  refine WC_region ?_
  refine WL_val rfl rfl rfl (R_move rfl rfl) ?_
  refine WL_val rfl rfl rfl (R_nilCheck rfl rfl) ?_
  refine WL_val rfl rfl rfl (R_fieldAddr rfl fa101_4 rfl) ?_
  refine WL_val rfl rfl rfl (R_load rfl sc3 rfl (mmZ) rfl) ?_
  refine WL_val rfl rfl rfl (R_add rfl rfl rfl (by omega)) ?_
  refine WL_val rfl rfl rfl (R_nilCheck rfl rfl) ?_
  refine WL_val rfl rfl rfl (R_fieldAddr rfl fa101_4 rfl) ?_
  refine WL_do0 rfl rfl (D_store (vs := [_]) rfl Try.sizeOf3 rfl rfl rfl rfl rfl (plZ) (by exact Nat.le_of_ble_eq_true rfl)) ?_
  rintro _ _ rfl
  refine WL_nil ?_
  refine WQ_ret rfl rfl .nil rfl (by
      exact rfl) (pqZ)
theorem bk_allow_ok (b : Br) (hl : 1 ≤ b.limit) (hg : b.gen ≤ 1000000 ∧ 0 ≤ b.gen) (ha : 0 ≤ b.allowed ∧ b.allowed ≤ 1000) (ho : b.opened ≤ b.last) (now p : Nat) (hn : now ≤ 18446744073709551615) : Spec Try.prog 25 [ptrB p, .int .u64 (now : Int)] [⟨some p, cl (brV b) 101⟩]
    (fun r H' => ∃ b' n e, r = .tuple #[.int .i64 n, .int .i64 e] ∧ H' = [⟨some p, cl (brV b') 101⟩] ∧ ((mayE b now ≠ 0 ∧ n = 0 ∧ e = mayE b now ∧ b' = b) ∨ (mayE b now = 0 ∧ ¬ rdB b now ∧ n = 0 ∧ e = 11 ∧ b' = b) ∨ (mayE b now = 0 ∧ rdB b now ∧ n = b'.gen ∧ e = 0 ∧ b' = alB b now))) := by
  refine Spec.of (E := [(0, ptrB p), (1, .int .u64 (now : Int))]) Try.func25 rfl (by kernel_rfl) Try.ntmps25 rfl rfl (fun w => ?_)
  refine WC_seq ?_
  refine WC_region ?_
  refine WL_val rfl rfl rfl (R_assign rfl rfl) ?_
  refine WL_val rfl rfl rfl (R_assign rfl rfl) ?_
  refine WL_nil ?_
  refine WQ_code ?_
  refine WC_seq ?_
  refine WC_seq ?_
  refine WC_region ?_
  refine WL_val rfl rfl rfl (R_move rfl rfl) ?_
  refine WL_val rfl rfl rfl (R_move rfl rfl) ?_
  refine WL_do rfl rfl rfl (D_call (bk_may_ok b hl now p) rfl rfl rfl rfl (pqZ)) ?_
  rintro _ _ ⟨_, ⟨rfl, rfl⟩, rfl⟩
  refine WL_val rfl rfl rfl (R_assign rfl rfl) ?_
  refine WL_nil ?_
  refine WQ_code ?_
  refine WC_seq ?_
  refine WC_region ?_
  refine WL_val rfl rfl rfl (R_move rfl rfl) ?_
  refine WL_val rfl rfl rfl (R_neq rfl rfl rfl) ?_
  refine WL_nil ?_
  refine WQ_code ?_
  refine WC_dec rfl (fun c1 => ?_) (fun c1 => ?_)
  · have c_may : mayE b now ≠ 0 := c1
    refine WC_seq ?_
    refine WC_region ?_
    refine WL_val rfl rfl rfl (R_move rfl rfl) ?_
    refine WL_val rfl rfl rfl (R_assign rfl rfl) ?_
    refine WL_val rfl rfl rfl (R_assign rfl rfl) ?_
    refine WL_nil ?_
    refine WQ_code ?_
    refine WC_ret ?_
    refine WQ_ret rfl rfl (.cons (.tmp rfl) (.cons (.tmp rfl) .nil)) rfl (by
        exact ⟨b, _, _, rfl, rfl, .inl ⟨c_may, rfl, rfl, rfl⟩⟩) (pqZ)
  · have c_may : mayE b now = 0 := by omega
    have c_le : b.last ≤ now := by unfold mayE at c_may; split at c_may <;> omega
    refine WC_skip ?_
    refine WQ_code ?_
    refine WC_seq ?_
    refine WC_seq ?_
    refine WC_region ?_
    refine WL_val rfl rfl rfl (R_move rfl rfl) ?_
    refine WL_val rfl rfl rfl (R_move rfl rfl) ?_
    refine WL_do rfl rfl rfl (D_call (bk_ready_ok b now p (by omega) hn) rfl rfl rfl rfl (pqZ)) ?_
    rintro _ _ ⟨_, ⟨rfl, rfl⟩, rfl⟩
    refine WL_val rfl rfl rfl (R_notD rfl rfl) ?_
    refine WL_nil ?_
    refine WQ_code ?_
    refine WC_dec rfl (fun c2 => ?_) (fun c2 => ?_)
    · have c_rd : ¬ rdB b now := c2
      refine WC_seq ?_
      refine WC_region ?_
      refine WL_val rfl rfl rfl (R_assign rfl rfl) ?_
      refine WL_val rfl rfl rfl (R_assign rfl rfl) ?_
      refine WL_nil ?_
      refine WQ_code ?_
      refine WC_ret ?_
      refine WQ_ret rfl rfl (.cons (.tmp rfl) (.cons (.tmp rfl) .nil)) rfl (by
          exact ⟨b, _, _, rfl, rfl, .inr (.inl ⟨c_may, c_rd, rfl, rfl, rfl⟩)⟩) (pqZ)
    · have c_rd : rdB b now := Decidable.not_not.1 c2
      refine WC_skip ?_
      refine WQ_code ?_
      refine WC_seq ?_
      refine WC_region ?_
      refine WL_val rfl rfl rfl (R_move rfl rfl) ?_
      refine WL_val rfl rfl rfl (R_move rfl rfl) ?_
      refine WL_val rfl rfl rfl (R_nilCheck rfl rfl) ?_
      refine WL_val rfl rfl rfl (R_fieldAddr rfl fa101_3 rfl) ?_
      refine WL_do0 rfl rfl (D_store (vs := [_]) rfl Try.sizeOf30 rfl rfl rfl rfl rfl (plZ) (by exact Nat.le_of_ble_eq_true rfl)) ?_
      rintro _ _ rfl
      refine WL_nil ?_
      refine WQ_code ?_
      refine WC_seq ?_
      refine WC_seq ?_
      refine WC_region ?_
      refine WL_val rfl rfl rfl (R_move rfl rfl) ?_
      refine WL_val rfl rfl rfl (R_move rfl rfl) ?_
      refine WL_do rfl rfl rfl (D_call (bk_state_ok ⟨b.limit, b.probes, b.opn, now, b.gen, b.st, b.opened, b.failed, b.allowed, b.good⟩ now p (by (show b.opened ≤ now); omega) hn) rfl rfl rfl rfl (pqZ)) ?_
      rintro _ _ ⟨_, ⟨rfl, rfl⟩, rfl⟩
      refine WL_val rfl rfl rfl (R_eql rfl rfl rfl) ?_
      refine WL_nil ?_
      refine WQ_code ?_
      refine WC_dec rfl (fun c3 => ?_) (fun c3 => ?_)
      · have c_st : stB b now = 2 := c3
        refine WC_seq ?_
        refine WC_seq ?_
        refine WC_region ?_
        refine WL_val rfl rfl rfl (R_move rfl rfl) ?_
        refine WL_val rfl rfl rfl (R_nilCheck rfl rfl) ?_
        refine WL_val rfl rfl rfl (R_fieldAddr rfl fa101_5 rfl) ?_
        refine WL_val rfl rfl rfl (R_fieldAddr rfl fa99_0 rfl) ?_
        refine WL_val rfl rfl rfl (R_load rfl sc97 rfl (mmZ) rfl) ?_
        refine WL_val rfl rfl rfl (R_eql rfl rfl rfl) ?_
        refine WL_nil ?_
        refine WQ_code ?_
        refine WC_dec rfl (fun c4 => ?_) (fun c4 => ?_)
        · refine WC_region ?_
          refine WL_val rfl rfl rfl (R_move rfl rfl) ?_
          refine WL_val rfl rfl rfl (R_build rfl zv99 pl99 rfl rfl) ?_
          refine WL_do rfl rfl rfl (D_call (bk_change_ok ⟨b.limit, b.probes, b.opn, now, b.gen, b.st, b.opened, b.failed, b.allowed, b.good⟩ hg p 2 0 0 0 0) rfl rfl rfl rfl (pqZ)) ?_
          rintro _ _ ⟨_, rfl, rfl⟩
          refine WL_nil ?_
          refine WQ_code ?_
          refine WC_region ?_
          refine WL_val rfl rfl rfl (R_move rfl rfl) ?_
          refine WL_val rfl rfl rfl (R_nilCheck rfl rfl) ?_
          refine WL_val rfl rfl rfl (R_fieldAddr rfl fa101_5 rfl) ?_
          refine WL_val rfl rfl rfl (R_fieldAddr rfl fa99_3 rfl) ?_
          refine WL_val rfl rfl rfl (R_load rfl sc3 rfl (mmZ) rfl) ?_
          refine WL_val rfl rfl rfl (R_add rfl rfl rfl (by first | omega | (dsimp only; omega))) ?_
          refine WL_val rfl rfl rfl (R_nilCheck rfl rfl) ?_
          refine WL_val rfl rfl rfl (R_fieldAddr rfl fa101_5 rfl) ?_
          refine WL_val rfl rfl rfl (R_fieldAddr rfl fa99_3 rfl) ?_
          refine WL_do0 rfl rfl (D_store (vs := [_]) rfl Try.sizeOf3 rfl rfl rfl rfl rfl (plZ) (by exact Nat.le_of_ble_eq_true rfl)) ?_
          rintro _ _ rfl
          refine WL_nil ?_
          refine WQ_code ?_
          refine WC_seq ?_
          refine WC_region ?_
          refine WL_val rfl rfl rfl (R_move rfl rfl) ?_
          refine WL_val rfl rfl rfl (R_nilCheck rfl rfl) ?_
          refine WL_val rfl rfl rfl (R_fieldAddr rfl fa101_4 rfl) ?_
          refine WL_val rfl rfl rfl (R_load rfl sc3 rfl (mmZ) rfl) ?_
          refine WL_val rfl rfl rfl (R_assign rfl rfl) ?_
          refine WL_val rfl rfl rfl (R_assign rfl rfl) ?_
          refine WL_nil ?_
          refine WQ_code ?_
          refine WC_ret ?_
          refine WQ_ret rfl rfl (.cons (.tmp rfl) (.cons (.tmp rfl) .nil)) rfl (by
              exact ⟨⟨b.limit, b.probes, b.opn, now, b.gen + 1, 2, 0, 0, 0 + 1, 0⟩, _, _, rfl, rfl, .inr (.inr ⟨c_may, c_rd, rfl, rfl, by unfold alB; simp_all⟩)⟩) (pqZ)
        · refine WC_skip ?_
          refine WQ_code ?_
          refine WC_region ?_
          refine WL_val rfl rfl rfl (R_move rfl rfl) ?_
          refine WL_val rfl rfl rfl (R_nilCheck rfl rfl) ?_
          refine WL_val rfl rfl rfl (R_fieldAddr rfl fa101_5 rfl) ?_
          refine WL_val rfl rfl rfl (R_fieldAddr rfl fa99_3 rfl) ?_
          refine WL_val rfl rfl rfl (R_load rfl sc3 rfl (mmZ) rfl) ?_
          refine WL_val rfl rfl rfl (R_add rfl rfl rfl (by first | omega | (dsimp only; omega))) ?_
          refine WL_val rfl rfl rfl (R_nilCheck rfl rfl) ?_
          refine WL_val rfl rfl rfl (R_fieldAddr rfl fa101_5 rfl) ?_
          refine WL_val rfl rfl rfl (R_fieldAddr rfl fa99_3 rfl) ?_
          refine WL_do0 rfl rfl (D_store (vs := [_]) rfl Try.sizeOf3 rfl rfl rfl rfl rfl (plZ) (by exact Nat.le_of_ble_eq_true rfl)) ?_
          rintro _ _ rfl
          refine WL_nil ?_
          refine WQ_code ?_
          refine WC_seq ?_
          refine WC_region ?_
          refine WL_val rfl rfl rfl (R_move rfl rfl) ?_
          refine WL_val rfl rfl rfl (R_nilCheck rfl rfl) ?_
          refine WL_val rfl rfl rfl (R_fieldAddr rfl fa101_4 rfl) ?_
          refine WL_val rfl rfl rfl (R_load rfl sc3 rfl (mmZ) rfl) ?_
          refine WL_val rfl rfl rfl (R_assign rfl rfl) ?_
          refine WL_val rfl rfl rfl (R_assign rfl rfl) ?_
          refine WL_nil ?_
          refine WQ_code ?_
          refine WC_ret ?_
          refine WQ_ret rfl rfl (.cons (.tmp rfl) (.cons (.tmp rfl) .nil)) rfl (by
              exact ⟨⟨b.limit, b.probes, b.opn, now, b.gen, b.st, b.opened, b.failed, b.allowed + 1, b.good⟩, _, _, rfl, rfl, .inr (.inr ⟨c_may, c_rd, rfl, rfl, by unfold alB; simp_all⟩)⟩) (pqZ)
      · have c_st : ¬ stB b now = 2 := c3
        refine WC_skip ?_
        refine WQ_code ?_
        refine WC_seq ?_
        refine WC_region ?_
        refine WL_val rfl rfl rfl (R_move rfl rfl) ?_
        refine WL_val rfl rfl rfl (R_nilCheck rfl rfl) ?_
        refine WL_val rfl rfl rfl (R_fieldAddr rfl fa101_4 rfl) ?_
        refine WL_val rfl rfl rfl (R_load rfl sc3 rfl (mmZ) rfl) ?_
        refine WL_val rfl rfl rfl (R_assign rfl rfl) ?_
        refine WL_val rfl rfl rfl (R_assign rfl rfl) ?_
        refine WL_nil ?_
        refine WQ_code ?_
        refine WC_ret ?_
        refine WQ_ret rfl rfl (.cons (.tmp rfl) (.cons (.tmp rfl) .nil)) rfl (by
            exact ⟨⟨b.limit, b.probes, b.opn, now, b.gen, b.st, b.opened, b.failed, b.allowed, b.good⟩, _, _, rfl, rfl, .inr (.inr ⟨c_may, c_rd, rfl, rfl, by unfold alB; simp_all⟩)⟩) (pqZ)
theorem bk_done_ok (b : Br) (hl : 1 ≤ b.limit) (hg : b.gen ≤ 1000000 ∧ 0 ≤ b.gen) (hf : 0 ≤ b.failed ∧ b.failed ≤ 1000) (hgd : 0 ≤ b.good ∧ b.good ≤ 1000) (now p : Nat) (g : Int) (good : Bool) : Spec Try.prog 29 [ptrB p, .int .u64 (now : Int), .int .i64 g, .bool good] [⟨some p, cl (brV b) 101⟩]
    (fun r H' => ∃ b' e, r = .int .i64 e ∧ H' = [⟨some p, cl (brV b') 101⟩] ∧ ((mayE b now ≠ 0 ∧ e = mayE b now ∧ b' = b) ∨ (mayE b now = 0 ∧ (g < 0 ∨ b.gen < g) ∧ e = 9 ∧ b' = b) ∨ (mayE b now = 0 ∧ ¬ (g < 0 ∨ b.gen < g) ∧ g < b.gen ∧ e = 0 ∧ b' = ⟨b.limit, b.probes, b.opn, now, b.gen, b.st, b.opened, b.failed, b.allowed, b.good⟩) ∨ (mayE b now = 0 ∧ g = b.gen ∧ e = 0 ∧ b' = dnB b now good))) := by
  refine Spec.of (E := [(0, ptrB p), (1, .int .u64 (now : Int)), (2, .int .i64 g), (3, .bool good)]) Try.func29 rfl (by kernel_rfl) Try.ntmps29 rfl rfl (fun w => ?_)
  refine WC_seq ?_
  refine WC_region ?_
  refine WL_val rfl rfl rfl (R_assign rfl rfl) ?_
  refine WL_nil ?_
  refine WQ_code ?_
  refine WC_seq ?_
  refine WC_seq ?_
  refine WC_region ?_
  refine WL_val rfl rfl rfl (R_move rfl rfl) ?_
  refine WL_val rfl rfl rfl (R_move rfl rfl) ?_
  refine WL_do rfl rfl rfl (D_call (bk_may_ok b hl now p) rfl rfl rfl rfl (pqZ)) ?_
  rintro _ _ ⟨_, ⟨rfl, rfl⟩, rfl⟩
  refine WL_val rfl rfl rfl (R_assign rfl rfl) ?_
  refine WL_nil ?_
  refine WQ_code ?_
  refine WC_seq ?_
  refine WC_region ?_
  refine WL_val rfl rfl rfl (R_move rfl rfl) ?_
  refine WL_val rfl rfl rfl (R_neq rfl rfl rfl) ?_
  refine WL_nil ?_
  refine WQ_code ?_
  refine WC_dec rfl (fun c1 => ?_) (fun c1 => ?_)
  · have c_may : mayE b now ≠ 0 := c1
    refine WC_seq ?_
    refine WC_region ?_
    refine WL_val rfl rfl rfl (R_move rfl rfl) ?_
    refine WL_val rfl rfl rfl (R_assign rfl rfl) ?_
    refine WL_nil ?_
    refine WQ_code ?_
    refine WC_ret ?_
    refine WQ_ret rfl rfl (.cons (.tmp rfl) .nil) rfl (by
        exact ⟨b, _, rfl, rfl, .inl ⟨c_may, rfl, rfl⟩⟩) (pqZ)
  · have c_may : mayE b now = 0 := by omega
    refine WC_skip ?_
    refine WQ_code ?_
    refine WC_seq ?_
    refine WC_seq ?_
    refine WC_region ?_
    refine WL_val rfl rfl rfl (R_move rfl rfl) ?_
    refine WL_val rfl rfl rfl (R_lss rfl rfl rfl) ?_
    refine WL_val rfl rfl rfl (R_move rfl rfl) ?_
    refine WL_splitD (s := 19) rfl (fun c2 => ?_) (fun c2 => ?_)
    · refine WL_skip rfl rfl rfl ?_
      refine WL_skip rfl rfl rfl ?_
      refine WL_skip rfl rfl rfl ?_
      refine WL_skip rfl rfl rfl ?_
      refine WL_skip rfl rfl rfl ?_
      refine WL_skip rfl rfl rfl ?_
      refine WL_val rfl rfl rfl (R_pickT rfl rfl rfl) ?_
      refine WL_nil ?_
      refine WQ_code ?_
      refine WC_T rfl ?_
      refine WC_seq ?_
      refine WC_region ?_
      refine WL_val rfl rfl rfl (R_assign rfl rfl) ?_
      refine WL_nil ?_
      refine WQ_code ?_
      refine WC_ret ?_
      refine WQ_ret rfl rfl (.cons (.tmp rfl) .nil) rfl (by
          exact ⟨b, _, rfl, rfl, .inr (.inl ⟨c_may, by omega, rfl, rfl⟩)⟩) (pqZ)
    · refine WL_val rfl rfl rfl (R_move rfl rfl) ?_
      refine WL_val rfl rfl rfl (R_move rfl rfl) ?_
      refine WL_val rfl rfl rfl (R_nilCheck rfl rfl) ?_
      refine WL_val rfl rfl rfl (R_fieldAddr rfl fa101_4 rfl) ?_
      refine WL_val rfl rfl rfl (R_load rfl sc3 rfl (mmZ) rfl) ?_
      refine WL_val rfl rfl rfl (R_gtr rfl rfl rfl) ?_
      refine WL_val rfl rfl rfl (R_pickF rfl rfl rfl) ?_
      refine WL_nil ?_
      refine WQ_code ?_
      refine WC_dec rfl (fun c3 => ?_) (fun c3 => ?_)
      · have c_g : g < 0 ∨ b.gen < g := by omega
        refine WC_seq ?_
        refine WC_region ?_
        refine WL_val rfl rfl rfl (R_assign rfl rfl) ?_
        refine WL_nil ?_
        refine WQ_code ?_
        refine WC_ret ?_
        refine WQ_ret rfl rfl (.cons (.tmp rfl) .nil) rfl (by
            exact ⟨b, _, rfl, rfl, .inr (.inl ⟨c_may, by omega, rfl, rfl⟩)⟩) (pqZ)
      · have c_g : ¬ (g < 0 ∨ b.gen < g) := by omega
        refine WC_skip ?_
        refine WQ_code ?_
        refine WC_seq ?_
        refine WC_region ?_
        refine WL_val rfl rfl rfl (R_move rfl rfl) ?_
        refine WL_val rfl rfl rfl (R_move rfl rfl) ?_
        refine WL_val rfl rfl rfl (R_nilCheck rfl rfl) ?_
        refine WL_val rfl rfl rfl (R_fieldAddr rfl fa101_3 rfl) ?_
        refine WL_do0 rfl rfl (D_store (vs := [_]) rfl Try.sizeOf30 rfl rfl rfl rfl rfl (plZ) (by exact Nat.le_of_ble_eq_true rfl)) ?_
        rintro _ _ rfl
        refine WL_nil ?_
        refine WQ_code ?_
        refine WC_seq ?_
        refine WC_seq ?_
        refine WC_region ?_
        refine WL_val rfl rfl rfl (R_move rfl rfl) ?_
        refine WL_val rfl rfl rfl (R_move rfl rfl) ?_
        refine WL_val rfl rfl rfl (R_nilCheck rfl rfl) ?_
        refine WL_val rfl rfl rfl (R_fieldAddr rfl fa101_4 rfl) ?_
        refine WL_val rfl rfl rfl (R_load rfl sc3 rfl (mmZ) rfl) ?_
        refine WL_val rfl rfl rfl (R_lss rfl rfl rfl) ?_
        refine WL_nil ?_
        refine WQ_code ?_
        refine WC_dec rfl (fun c4 => ?_) (fun c4 => ?_)
        · have c_lt : g < b.gen := c4
          refine WC_seq ?_
          refine WC_region ?_
          refine WL_val rfl rfl rfl (R_assign rfl rfl) ?_
          refine WL_nil ?_
          refine WQ_code ?_
          refine WC_ret ?_
          refine WQ_ret rfl rfl (.cons (.tmp rfl) .nil) rfl (by
              exact ⟨⟨b.limit, b.probes, b.opn, now, b.gen, b.st, b.opened, b.failed, b.allowed, b.good⟩, _, rfl, rfl, .inr (.inr (.inl ⟨c_may, by omega, c_lt, rfl, rfl⟩))⟩) (pqZ)
        · refine WC_skip ?_
          refine WQ_code ?_
          refine WC_seq ?_
          refine WC_region ?_
          refine WL_val rfl rfl rfl (R_move rfl rfl) ?_
          refine WL_val rfl rfl rfl (R_nilCheck rfl rfl) ?_
          refine WL_val rfl rfl rfl (R_fieldAddr rfl fa101_5 rfl) ?_
          refine WL_val rfl rfl rfl (R_assign rfl rfl) ?_
          refine WL_nil ?_
          refine WQ_code ?_
          refine WC_seq ?_
          refine WC_block ?_
          refine WC_seq ?_
          refine WC_region ?_
          refine WL_val rfl rfl rfl (R_move rfl rfl) ?_
          refine WL_val rfl rfl rfl (R_nilCheck rfl rfl) ?_
          refine WL_val rfl rfl rfl (R_fieldAddr rfl fa99_0 rfl) ?_
          refine WL_val rfl rfl rfl (R_load rfl sc97 rfl (mmZ) rfl) ?_
          refine WL_val rfl rfl rfl (R_eql rfl rfl rfl) ?_
          refine WL_val rfl rfl rfl (R_move rfl rfl) ?_
          refine WL_splitD (s := 46) rfl (fun c5 => ?_) (fun c5 => ?_)
          · refine WL_val rfl rfl rfl (R_move rfl rfl) ?_
            refine WL_val rfl rfl rfl (R_pickT rfl rfl rfl) ?_
            refine WL_val rfl rfl rfl (R_assign rfl rfl) ?_
            refine WL_nil ?_
            refine WQ_code ?_
            refine WC_if rfl (fun c6 => ?_) (fun c6 => ?_)
            · refine WC_region ?_
              refine WL_val rfl rfl rfl (R_move rfl rfl) ?_
              refine WL_val rfl rfl rfl (R_nilCheck rfl rfl) ?_
              refine WL_val rfl rfl rfl (R_fieldAddr rfl fa99_2 rfl) ?_
              refine WL_do0 rfl rfl (D_store (vs := [_]) rfl Try.sizeOf3 rfl rfl rfl rfl rfl (plZ) (by exact Nat.le_of_ble_eq_true rfl)) ?_
              rintro _ _ rfl
              refine WL_nil ?_
              refine WQ_code ?_
              refine WC_seq ?_
              refine WC_region ?_
              refine WL_val rfl rfl rfl (R_assign rfl rfl) ?_
              refine WL_nil ?_
              refine WQ_code ?_
              refine WC_ret ?_
              refine WQ_ret rfl rfl (.cons (.tmp rfl) .nil) rfl (by
                  exact ⟨⟨b.limit, b.probes, b.opn, now, b.gen, b.st, b.opened, 0, b.allowed, b.good⟩, _, rfl, rfl, .inr (.inr (.inr ⟨c_may, by omega, rfl, by unfold dnB; simp_all⟩))⟩) (pqZ)
            · refine WC_seq ?_
              refine WC_region ?_
              refine WL_val rfl rfl rfl (R_move rfl rfl) ?_
              refine WL_val rfl rfl rfl (R_nilCheck rfl rfl) ?_
              refine WL_val rfl rfl rfl (R_fieldAddr rfl fa99_0 rfl) ?_
              refine WL_val rfl rfl rfl (R_load rfl sc97 rfl (mmZ) rfl) ?_
              refine WL_val rfl rfl rfl (R_eql rfl rfl rfl) ?_
              refine WL_val rfl rfl rfl (R_assign rfl rfl) ?_
              refine WL_nil ?_
              refine WQ_code ?_
              refine WC_dec rfl (fun c7 => ?_) (fun c7 => ?_)
              · refine WC_seq ?_
                refine WC_region ?_
                refine WL_val rfl rfl rfl (R_move rfl rfl) ?_
                refine WL_val rfl rfl rfl (R_nilCheck rfl rfl) ?_
                refine WL_val rfl rfl rfl (R_fieldAddr rfl fa99_2 rfl) ?_
                refine WL_val rfl rfl rfl (R_load rfl sc3 rfl (mmZ) rfl) ?_
                refine WL_val rfl rfl rfl (R_add rfl rfl rfl (by omega)) ?_
                refine WL_val rfl rfl rfl (R_nilCheck rfl rfl) ?_
                refine WL_val rfl rfl rfl (R_fieldAddr rfl fa99_2 rfl) ?_
                refine WL_do0 rfl rfl (D_store (vs := [_]) rfl Try.sizeOf3 rfl rfl rfl rfl rfl (plZ) (by exact Nat.le_of_ble_eq_true rfl)) ?_
                rintro _ _ rfl
                refine WL_nil ?_
                refine WQ_code ?_
                refine WC_seq ?_
                refine WC_draw _ [(0, true), (1, true), (2, true), (3, true), (4, true), (5, true), (6, true), (7, true), (8, true)] followsMixed rfl rfl (by kernel_rfl) .all ?_
                refine WM_val rfl rfl rfl rfl (R_move rfl rfl) ?_
                refine WM_val rfl rfl rfl rfl (R_nilCheck rfl rfl) ?_
                refine WM_val rfl rfl rfl rfl (R_fieldAddr rfl fa99_2 rfl) ?_
                refine WM_val rfl rfl rfl rfl (R_load rfl sc3 rfl (mmZ) rfl) ?_
                refine WM_val rfl rfl rfl rfl (R_move rfl rfl) ?_
                refine WM_val rfl rfl rfl rfl (R_nilCheck rfl rfl) ?_
                refine WM_val rfl rfl rfl rfl (R_fieldAddr rfl fa101_0 rfl) ?_
                refine WM_val rfl rfl rfl rfl (R_load rfl sc3 rfl (mmZ) rfl) ?_
                refine WM_val rfl rfl rfl rfl (R_geq rfl rfl rfl) ?_
                refine WM_nil ?_
                refine WQ_code ?_
                refine WC_dec rfl (fun c8 => ?_) (fun c8 => ?_)
                · refine WC_region ?_
                  refine WL_val rfl rfl rfl (R_move rfl rfl) ?_
                  refine WL_val rfl rfl rfl (R_move rfl rfl) ?_
                  refine WL_val rfl rfl rfl (R_build rfl zv99 pl99 rfl rfl) ?_
                  refine WL_do rfl rfl rfl (D_call (bk_change_ok ⟨b.limit, b.probes, b.opn, now, b.gen, b.st, b.opened, b.failed + 1, b.allowed, b.good⟩ hg p 1 now 0 0 0) rfl rfl rfl rfl (pqZ)) ?_
                  rintro _ _ ⟨_, rfl, rfl⟩
                  refine WL_nil ?_
                  refine WQ_code ?_
                  refine WC_seq ?_
                  refine WC_region ?_
                  refine WL_val rfl rfl rfl (R_assign rfl rfl) ?_
                  refine WL_nil ?_
                  refine WQ_code ?_
                  refine WC_ret ?_
                  refine WQ_ret rfl rfl (.cons (.tmp rfl) .nil) rfl (by
                      exact ⟨⟨b.limit, b.probes, b.opn, now, b.gen + 1, 1, now, 0, 0, 0⟩, _, rfl, rfl, .inr (.inr (.inr ⟨c_may, by omega, rfl, by unfold dnB; simp_all⟩))⟩) (pqZ)
                · refine WC_skip ?_
                  refine WQ_code ?_
                  refine WC_seq ?_
                  refine WC_region ?_
                  refine WL_val rfl rfl rfl (R_assign rfl rfl) ?_
                  refine WL_nil ?_
                  refine WQ_code ?_
                  refine WC_ret ?_
                  refine WQ_ret rfl rfl (.cons (.tmp rfl) .nil) rfl (by
                      exact ⟨⟨b.limit, b.probes, b.opn, now, b.gen, b.st, b.opened, b.failed + 1, b.allowed, b.good⟩, _, rfl, rfl, .inr (.inr (.inr ⟨c_may, by omega, rfl, by unfold dnB; simp_all⟩))⟩) (pqZ)
              · refine WC_seq ?_
                refine WC_region ?_
                refine WL_val rfl rfl rfl (R_move rfl rfl) ?_
                refine WL_val rfl rfl rfl (R_nilCheck rfl rfl) ?_
                refine WL_val rfl rfl rfl (R_fieldAddr rfl fa99_0 rfl) ?_
                refine WL_val rfl rfl rfl (R_load rfl sc97 rfl (mmZ) rfl) ?_
                refine WL_val rfl rfl rfl (R_eql rfl rfl rfl) ?_
                refine WL_val rfl rfl rfl (R_move rfl rfl) ?_
                refine WL_splitD (s := 84) rfl (fun c9 => ?_) (fun c9 => ?_)
                · refine WL_val rfl rfl rfl (R_move rfl rfl) ?_
                  refine WL_val rfl rfl rfl (R_pickT rfl rfl rfl) ?_
                  refine WL_val rfl rfl rfl (R_assign rfl rfl) ?_
                  refine WL_nil ?_
                  refine WQ_code ?_
                  refine WC_if rfl (fun c10 => ?_) (fun c10 => ?_)
                  · refine WC_seq ?_
                    refine WC_region ?_
                    refine WL_val rfl rfl rfl (R_move rfl rfl) ?_
                    refine WL_val rfl rfl rfl (R_nilCheck rfl rfl) ?_
                    refine WL_val rfl rfl rfl (R_fieldAddr rfl fa99_4 rfl) ?_
                    refine WL_val rfl rfl rfl (R_load rfl sc3 rfl (mmZ) rfl) ?_
                    refine WL_val rfl rfl rfl (R_add rfl rfl rfl (by omega)) ?_
                    refine WL_val rfl rfl rfl (R_nilCheck rfl rfl) ?_
                    refine WL_val rfl rfl rfl (R_fieldAddr rfl fa99_4 rfl) ?_
                    refine WL_do0 rfl rfl (D_store (vs := [_]) rfl Try.sizeOf3 rfl rfl rfl rfl rfl (plZ) (by exact Nat.le_of_ble_eq_true rfl)) ?_
                    rintro _ _ rfl
                    refine WL_nil ?_
                    refine WQ_code ?_
                    refine WC_seq ?_
                    refine WC_draw _ [(0, true), (1, true), (2, true), (3, true), (4, true), (5, true), (6, true), (7, true), (8, true)] followsMixed rfl rfl (by kernel_rfl) .all ?_
                    refine WM_val rfl rfl rfl rfl (R_move rfl rfl) ?_
                    refine WM_val rfl rfl rfl rfl (R_nilCheck rfl rfl) ?_
                    refine WM_val rfl rfl rfl rfl (R_fieldAddr rfl fa99_4 rfl) ?_
                    refine WM_val rfl rfl rfl rfl (R_load rfl sc3 rfl (mmZ) rfl) ?_
                    refine WM_val rfl rfl rfl rfl (R_move rfl rfl) ?_
                    refine WM_val rfl rfl rfl rfl (R_nilCheck rfl rfl) ?_
                    refine WM_val rfl rfl rfl rfl (R_fieldAddr rfl fa101_1 rfl) ?_
                    refine WM_val rfl rfl rfl rfl (R_load rfl sc3 rfl (mmZ) rfl) ?_
                    refine WM_val rfl rfl rfl rfl (R_geq rfl rfl rfl) ?_
                    refine WM_nil ?_
                    refine WQ_code ?_
                    refine WC_dec rfl (fun c11 => ?_) (fun c11 => ?_)
                    · refine WC_region ?_
                      refine WL_val rfl rfl rfl (R_move rfl rfl) ?_
                      refine WL_val rfl rfl rfl (R_build rfl zv99 pl99 rfl rfl) ?_
                      refine WL_do rfl rfl rfl (D_call (bk_change_ok ⟨b.limit, b.probes, b.opn, now, b.gen, b.st, b.opened, b.failed, b.allowed, b.good + 1⟩ hg p 0 0 0 0 0) rfl rfl rfl rfl (pqZ)) ?_
                      rintro _ _ ⟨_, rfl, rfl⟩
                      refine WL_nil ?_
                      refine WQ_code ?_
                      refine WC_seq ?_
                      refine WC_region ?_
                      refine WL_val rfl rfl rfl (R_assign rfl rfl) ?_
                      refine WL_nil ?_
                      refine WQ_code ?_
                      refine WC_ret ?_
                      refine WQ_ret rfl rfl (.cons (.tmp rfl) .nil) rfl (by
                          exact ⟨⟨b.limit, b.probes, b.opn, now, b.gen + 1, 0, 0, 0, 0, 0⟩, _, rfl, rfl, .inr (.inr (.inr ⟨c_may, by omega, rfl, by unfold dnB; simp_all⟩))⟩) (pqZ)
                    · refine WC_skip ?_
                      refine WQ_code ?_
                      refine WC_seq ?_
                      refine WC_region ?_
                      refine WL_val rfl rfl rfl (R_assign rfl rfl) ?_
                      refine WL_nil ?_
                      refine WQ_code ?_
                      refine WC_ret ?_
                      refine WQ_ret rfl rfl (.cons (.tmp rfl) .nil) rfl (by
                          exact ⟨⟨b.limit, b.probes, b.opn, now, b.gen, b.st, b.opened, b.failed, b.allowed, b.good + 1⟩, _, rfl, rfl, .inr (.inr (.inr ⟨c_may, by omega, rfl, by unfold dnB; simp_all⟩))⟩) (pqZ)
                  · refine WC_seq ?_
                    refine WC_region ?_
                    refine WL_val rfl rfl rfl (R_move rfl rfl) ?_
                    refine WL_val rfl rfl rfl (R_nilCheck rfl rfl) ?_
                    refine WL_val rfl rfl rfl (R_fieldAddr rfl fa99_0 rfl) ?_
                    refine WL_val rfl rfl rfl (R_load rfl sc97 rfl (mmZ) rfl) ?_
                    refine WL_val rfl rfl rfl (R_eql rfl rfl rfl) ?_
                    refine WL_val rfl rfl rfl (R_assign rfl rfl) ?_
                    refine WL_nil ?_
                    refine WQ_code ?_
                    refine WC_dec rfl (fun c12 => ?_) (fun c12 => ?_)
                    · refine WC_region ?_
                      refine WL_val rfl rfl rfl (R_move rfl rfl) ?_
                      refine WL_val rfl rfl rfl (R_move rfl rfl) ?_
                      refine WL_val rfl rfl rfl (R_build rfl zv99 pl99 rfl rfl) ?_
                      refine WL_do rfl rfl rfl (D_call (bk_change_ok ⟨b.limit, b.probes, b.opn, now, b.gen, b.st, b.opened, b.failed, b.allowed, b.good⟩ hg p 1 now 0 0 0) rfl rfl rfl rfl (pqZ)) ?_
                      rintro _ _ ⟨_, rfl, rfl⟩
                      refine WL_nil ?_
                      refine WQ_code ?_
                      refine WC_seq ?_
                      refine WC_region ?_
                      refine WL_val rfl rfl rfl (R_assign rfl rfl) ?_
                      refine WL_nil ?_
                      refine WQ_code ?_
                      refine WC_ret ?_
                      refine WQ_ret rfl rfl (.cons (.tmp rfl) .nil) rfl (by
                          exact ⟨⟨b.limit, b.probes, b.opn, now, b.gen + 1, 1, now, 0, 0, 0⟩, _, rfl, rfl, .inr (.inr (.inr ⟨c_may, by omega, rfl, by unfold dnB; simp_all⟩))⟩) (pqZ)
                    · refine WC_skip ?_
                      refine WQ_code ?_
                      refine WC_seq ?_
                      refine WC_region ?_
                      refine WL_val rfl rfl rfl (R_assign rfl rfl) ?_
                      refine WL_nil ?_
                      refine WQ_code ?_
                      refine WC_ret ?_
                      refine WQ_ret rfl rfl (.cons (.tmp rfl) .nil) rfl (by
                          exact ⟨⟨b.limit, b.probes, b.opn, now, b.gen, b.st, b.opened, b.failed, b.allowed, b.good⟩, _, rfl, rfl, .inr (.inr (.inr ⟨c_may, by omega, rfl, by unfold dnB; simp_all⟩))⟩) (pqZ)
                · refine WL_skip rfl rfl rfl ?_
                  refine WL_val rfl rfl rfl (R_pickF rfl rfl rfl) ?_
                  refine WL_val rfl rfl rfl (R_assign rfl rfl) ?_
                  refine WL_nil ?_
                  refine WQ_code ?_
                  refine WC_F rfl ?_
                  refine WC_seq ?_
                  refine WC_region ?_
                  refine WL_val rfl rfl rfl (R_move rfl rfl) ?_
                  refine WL_val rfl rfl rfl (R_nilCheck rfl rfl) ?_
                  refine WL_val rfl rfl rfl (R_fieldAddr rfl fa99_0 rfl) ?_
                  refine WL_val rfl rfl rfl (R_load rfl sc97 rfl (mmZ) rfl) ?_
                  refine WL_val rfl rfl rfl (R_eql rfl rfl rfl) ?_
                  refine WL_val rfl rfl rfl (R_assign rfl rfl) ?_
                  refine WL_nil ?_
                  refine WQ_code ?_
                  refine WC_dec rfl (fun c13 => ?_) (fun c13 => ?_)
                  · refine WC_region ?_
                    refine WL_val rfl rfl rfl (R_move rfl rfl) ?_
                    refine WL_val rfl rfl rfl (R_move rfl rfl) ?_
                    refine WL_val rfl rfl rfl (R_build rfl zv99 pl99 rfl rfl) ?_
                    refine WL_do rfl rfl rfl (D_call (bk_change_ok ⟨b.limit, b.probes, b.opn, now, b.gen, b.st, b.opened, b.failed, b.allowed, b.good⟩ hg p 1 now 0 0 0) rfl rfl rfl rfl (pqZ)) ?_
                    rintro _ _ ⟨_, rfl, rfl⟩
                    refine WL_nil ?_
                    refine WQ_code ?_
                    refine WC_seq ?_
                    refine WC_region ?_
                    refine WL_val rfl rfl rfl (R_assign rfl rfl) ?_
                    refine WL_nil ?_
                    refine WQ_code ?_
                    refine WC_ret ?_
                    refine WQ_ret rfl rfl (.cons (.tmp rfl) .nil) rfl (by
                        exact ⟨⟨b.limit, b.probes, b.opn, now, b.gen + 1, 1, now, 0, 0, 0⟩, _, rfl, rfl, .inr (.inr (.inr ⟨c_may, by omega, rfl, by unfold dnB; simp_all⟩))⟩) (pqZ)
                  · refine WC_skip ?_
                    refine WQ_code ?_
                    refine WC_seq ?_
                    refine WC_region ?_
                    refine WL_val rfl rfl rfl (R_assign rfl rfl) ?_
                    refine WL_nil ?_
                    refine WQ_code ?_
                    refine WC_ret ?_
                    refine WQ_ret rfl rfl (.cons (.tmp rfl) .nil) rfl (by
                        exact ⟨⟨b.limit, b.probes, b.opn, now, b.gen, b.st, b.opened, b.failed, b.allowed, b.good⟩, _, rfl, rfl, .inr (.inr (.inr ⟨c_may, by omega, rfl, by unfold dnB; simp_all⟩))⟩) (pqZ)
          · refine WL_skip rfl rfl rfl ?_
            refine WL_val rfl rfl rfl (R_pickF rfl rfl rfl) ?_
            refine WL_val rfl rfl rfl (R_assign rfl rfl) ?_
            refine WL_nil ?_
            refine WQ_code ?_
            refine WC_F rfl ?_
            refine WC_seq ?_
            refine WC_region ?_
            refine WL_val rfl rfl rfl (R_move rfl rfl) ?_
            refine WL_val rfl rfl rfl (R_nilCheck rfl rfl) ?_
            refine WL_val rfl rfl rfl (R_fieldAddr rfl fa99_0 rfl) ?_
            refine WL_val rfl rfl rfl (R_load rfl sc97 rfl (mmZ) rfl) ?_
            refine WL_val rfl rfl rfl (R_eql rfl rfl rfl) ?_
            refine WL_val rfl rfl rfl (R_assign rfl rfl) ?_
            refine WL_nil ?_
            refine WQ_code ?_
            refine WC_dec rfl (fun c14 => ?_) (fun c14 => ?_)
            · refine WC_seq ?_
              refine WC_region ?_
              refine WL_val rfl rfl rfl (R_move rfl rfl) ?_
              refine WL_val rfl rfl rfl (R_nilCheck rfl rfl) ?_
              refine WL_val rfl rfl rfl (R_fieldAddr rfl fa99_2 rfl) ?_
              refine WL_val rfl rfl rfl (R_load rfl sc3 rfl (mmZ) rfl) ?_
              refine WL_val rfl rfl rfl (R_add rfl rfl rfl (by omega)) ?_
              refine WL_val rfl rfl rfl (R_nilCheck rfl rfl) ?_
              refine WL_val rfl rfl rfl (R_fieldAddr rfl fa99_2 rfl) ?_
              refine WL_do0 rfl rfl (D_store (vs := [_]) rfl Try.sizeOf3 rfl rfl rfl rfl rfl (plZ) (by exact Nat.le_of_ble_eq_true rfl)) ?_
              rintro _ _ rfl
              refine WL_nil ?_
              refine WQ_code ?_
              refine WC_seq ?_
              refine WC_draw _ [(0, true), (1, true), (2, true), (3, true), (4, true), (5, true), (6, true), (7, true), (8, true)] followsMixed rfl rfl (by kernel_rfl) .all ?_
              refine WM_val rfl rfl rfl rfl (R_move rfl rfl) ?_
              refine WM_val rfl rfl rfl rfl (R_nilCheck rfl rfl) ?_
              refine WM_val rfl rfl rfl rfl (R_fieldAddr rfl fa99_2 rfl) ?_
              refine WM_val rfl rfl rfl rfl (R_load rfl sc3 rfl (mmZ) rfl) ?_
              refine WM_val rfl rfl rfl rfl (R_move rfl rfl) ?_
              refine WM_val rfl rfl rfl rfl (R_nilCheck rfl rfl) ?_
              refine WM_val rfl rfl rfl rfl (R_fieldAddr rfl fa101_0 rfl) ?_
              refine WM_val rfl rfl rfl rfl (R_load rfl sc3 rfl (mmZ) rfl) ?_
              refine WM_val rfl rfl rfl rfl (R_geq rfl rfl rfl) ?_
              refine WM_nil ?_
              refine WQ_code ?_
              refine WC_dec rfl (fun c15 => ?_) (fun c15 => ?_)
              · refine WC_region ?_
                refine WL_val rfl rfl rfl (R_move rfl rfl) ?_
                refine WL_val rfl rfl rfl (R_move rfl rfl) ?_
                refine WL_val rfl rfl rfl (R_build rfl zv99 pl99 rfl rfl) ?_
                refine WL_do rfl rfl rfl (D_call (bk_change_ok ⟨b.limit, b.probes, b.opn, now, b.gen, b.st, b.opened, b.failed + 1, b.allowed, b.good⟩ hg p 1 now 0 0 0) rfl rfl rfl rfl (pqZ)) ?_
                rintro _ _ ⟨_, rfl, rfl⟩
                refine WL_nil ?_
                refine WQ_code ?_
                refine WC_seq ?_
                refine WC_region ?_
                refine WL_val rfl rfl rfl (R_assign rfl rfl) ?_
                refine WL_nil ?_
                refine WQ_code ?_
                refine WC_ret ?_
                refine WQ_ret rfl rfl (.cons (.tmp rfl) .nil) rfl (by
                    exact ⟨⟨b.limit, b.probes, b.opn, now, b.gen + 1, 1, now, 0, 0, 0⟩, _, rfl, rfl, .inr (.inr (.inr ⟨c_may, by omega, rfl, by unfold dnB; simp_all⟩))⟩) (pqZ)
              · refine WC_skip ?_
                refine WQ_code ?_
                refine WC_seq ?_
                refine WC_region ?_
                refine WL_val rfl rfl rfl (R_assign rfl rfl) ?_
                refine WL_nil ?_
                refine WQ_code ?_
                refine WC_ret ?_
                refine WQ_ret rfl rfl (.cons (.tmp rfl) .nil) rfl (by
                    exact ⟨⟨b.limit, b.probes, b.opn, now, b.gen, b.st, b.opened, b.failed + 1, b.allowed, b.good⟩, _, rfl, rfl, .inr (.inr (.inr ⟨c_may, by omega, rfl, by unfold dnB; simp_all⟩))⟩) (pqZ)
            · refine WC_seq ?_
              refine WC_region ?_
              refine WL_val rfl rfl rfl (R_move rfl rfl) ?_
              refine WL_val rfl rfl rfl (R_nilCheck rfl rfl) ?_
              refine WL_val rfl rfl rfl (R_fieldAddr rfl fa99_0 rfl) ?_
              refine WL_val rfl rfl rfl (R_load rfl sc97 rfl (mmZ) rfl) ?_
              refine WL_val rfl rfl rfl (R_eql rfl rfl rfl) ?_
              refine WL_val rfl rfl rfl (R_move rfl rfl) ?_
              refine WL_splitD (s := 84) rfl (fun c16 => ?_) (fun c16 => ?_)
              · refine WL_val rfl rfl rfl (R_move rfl rfl) ?_
                refine WL_val rfl rfl rfl (R_pickT rfl rfl rfl) ?_
                refine WL_val rfl rfl rfl (R_assign rfl rfl) ?_
                refine WL_nil ?_
                refine WQ_code ?_
                refine WC_if rfl (fun c17 => ?_) (fun c17 => ?_)
                · refine WC_seq ?_
                  refine WC_region ?_
                  refine WL_val rfl rfl rfl (R_move rfl rfl) ?_
                  refine WL_val rfl rfl rfl (R_nilCheck rfl rfl) ?_
                  refine WL_val rfl rfl rfl (R_fieldAddr rfl fa99_4 rfl) ?_
                  refine WL_val rfl rfl rfl (R_load rfl sc3 rfl (mmZ) rfl) ?_
                  refine WL_val rfl rfl rfl (R_add rfl rfl rfl (by omega)) ?_
                  refine WL_val rfl rfl rfl (R_nilCheck rfl rfl) ?_
                  refine WL_val rfl rfl rfl (R_fieldAddr rfl fa99_4 rfl) ?_
                  refine WL_do0 rfl rfl (D_store (vs := [_]) rfl Try.sizeOf3 rfl rfl rfl rfl rfl (plZ) (by exact Nat.le_of_ble_eq_true rfl)) ?_
                  rintro _ _ rfl
                  refine WL_nil ?_
                  refine WQ_code ?_
                  refine WC_seq ?_
                  refine WC_draw _ [(0, true), (1, true), (2, true), (3, true), (4, true), (5, true), (6, true), (7, true), (8, true)] followsMixed rfl rfl (by kernel_rfl) .all ?_
                  refine WM_val rfl rfl rfl rfl (R_move rfl rfl) ?_
                  refine WM_val rfl rfl rfl rfl (R_nilCheck rfl rfl) ?_
                  refine WM_val rfl rfl rfl rfl (R_fieldAddr rfl fa99_4 rfl) ?_
                  refine WM_val rfl rfl rfl rfl (R_load rfl sc3 rfl (mmZ) rfl) ?_
                  refine WM_val rfl rfl rfl rfl (R_move rfl rfl) ?_
                  refine WM_val rfl rfl rfl rfl (R_nilCheck rfl rfl) ?_
                  refine WM_val rfl rfl rfl rfl (R_fieldAddr rfl fa101_1 rfl) ?_
                  refine WM_val rfl rfl rfl rfl (R_load rfl sc3 rfl (mmZ) rfl) ?_
                  refine WM_val rfl rfl rfl rfl (R_geq rfl rfl rfl) ?_
                  refine WM_nil ?_
                  refine WQ_code ?_
                  refine WC_dec rfl (fun c18 => ?_) (fun c18 => ?_)
                  · refine WC_region ?_
                    refine WL_val rfl rfl rfl (R_move rfl rfl) ?_
                    refine WL_val rfl rfl rfl (R_build rfl zv99 pl99 rfl rfl) ?_
                    refine WL_do rfl rfl rfl (D_call (bk_change_ok ⟨b.limit, b.probes, b.opn, now, b.gen, b.st, b.opened, b.failed, b.allowed, b.good + 1⟩ hg p 0 0 0 0 0) rfl rfl rfl rfl (pqZ)) ?_
                    rintro _ _ ⟨_, rfl, rfl⟩
                    refine WL_nil ?_
                    refine WQ_code ?_
                    refine WC_seq ?_
                    refine WC_region ?_
                    refine WL_val rfl rfl rfl (R_assign rfl rfl) ?_
                    refine WL_nil ?_
                    refine WQ_code ?_
                    refine WC_ret ?_
                    refine WQ_ret rfl rfl (.cons (.tmp rfl) .nil) rfl (by
                        exact ⟨⟨b.limit, b.probes, b.opn, now, b.gen + 1, 0, 0, 0, 0, 0⟩, _, rfl, rfl, .inr (.inr (.inr ⟨c_may, by omega, rfl, by unfold dnB; simp_all⟩))⟩) (pqZ)
                  · refine WC_skip ?_
                    refine WQ_code ?_
                    refine WC_seq ?_
                    refine WC_region ?_
                    refine WL_val rfl rfl rfl (R_assign rfl rfl) ?_
                    refine WL_nil ?_
                    refine WQ_code ?_
                    refine WC_ret ?_
                    refine WQ_ret rfl rfl (.cons (.tmp rfl) .nil) rfl (by
                        exact ⟨⟨b.limit, b.probes, b.opn, now, b.gen, b.st, b.opened, b.failed, b.allowed, b.good + 1⟩, _, rfl, rfl, .inr (.inr (.inr ⟨c_may, by omega, rfl, by unfold dnB; simp_all⟩))⟩) (pqZ)
                · refine WC_seq ?_
                  refine WC_region ?_
                  refine WL_val rfl rfl rfl (R_move rfl rfl) ?_
                  refine WL_val rfl rfl rfl (R_nilCheck rfl rfl) ?_
                  refine WL_val rfl rfl rfl (R_fieldAddr rfl fa99_0 rfl) ?_
                  refine WL_val rfl rfl rfl (R_load rfl sc97 rfl (mmZ) rfl) ?_
                  refine WL_val rfl rfl rfl (R_eql rfl rfl rfl) ?_
                  refine WL_val rfl rfl rfl (R_assign rfl rfl) ?_
                  refine WL_nil ?_
                  refine WQ_code ?_
                  refine WC_dec rfl (fun c19 => ?_) (fun c19 => ?_)
                  · refine WC_region ?_
                    refine WL_val rfl rfl rfl (R_move rfl rfl) ?_
                    refine WL_val rfl rfl rfl (R_move rfl rfl) ?_
                    refine WL_val rfl rfl rfl (R_build rfl zv99 pl99 rfl rfl) ?_
                    refine WL_do rfl rfl rfl (D_call (bk_change_ok ⟨b.limit, b.probes, b.opn, now, b.gen, b.st, b.opened, b.failed, b.allowed, b.good⟩ hg p 1 now 0 0 0) rfl rfl rfl rfl (pqZ)) ?_
                    rintro _ _ ⟨_, rfl, rfl⟩
                    refine WL_nil ?_
                    refine WQ_code ?_
                    refine WC_seq ?_
                    refine WC_region ?_
                    refine WL_val rfl rfl rfl (R_assign rfl rfl) ?_
                    refine WL_nil ?_
                    refine WQ_code ?_
                    refine WC_ret ?_
                    refine WQ_ret rfl rfl (.cons (.tmp rfl) .nil) rfl (by
                        exact ⟨⟨b.limit, b.probes, b.opn, now, b.gen + 1, 1, now, 0, 0, 0⟩, _, rfl, rfl, .inr (.inr (.inr ⟨c_may, by omega, rfl, by unfold dnB; simp_all⟩))⟩) (pqZ)
                  · refine WC_skip ?_
                    refine WQ_code ?_
                    refine WC_seq ?_
                    refine WC_region ?_
                    refine WL_val rfl rfl rfl (R_assign rfl rfl) ?_
                    refine WL_nil ?_
                    refine WQ_code ?_
                    refine WC_ret ?_
                    refine WQ_ret rfl rfl (.cons (.tmp rfl) .nil) rfl (by
                        exact ⟨⟨b.limit, b.probes, b.opn, now, b.gen, b.st, b.opened, b.failed, b.allowed, b.good⟩, _, rfl, rfl, .inr (.inr (.inr ⟨c_may, by omega, rfl, by unfold dnB; simp_all⟩))⟩) (pqZ)
              · refine WL_skip rfl rfl rfl ?_
                refine WL_val rfl rfl rfl (R_pickF rfl rfl rfl) ?_
                refine WL_val rfl rfl rfl (R_assign rfl rfl) ?_
                refine WL_nil ?_
                refine WQ_code ?_
                refine WC_F rfl ?_
                refine WC_seq ?_
                refine WC_region ?_
                refine WL_val rfl rfl rfl (R_move rfl rfl) ?_
                refine WL_val rfl rfl rfl (R_nilCheck rfl rfl) ?_
                refine WL_val rfl rfl rfl (R_fieldAddr rfl fa99_0 rfl) ?_
                refine WL_val rfl rfl rfl (R_load rfl sc97 rfl (mmZ) rfl) ?_
                refine WL_val rfl rfl rfl (R_eql rfl rfl rfl) ?_
                refine WL_val rfl rfl rfl (R_assign rfl rfl) ?_
                refine WL_nil ?_
                refine WQ_code ?_
                refine WC_dec rfl (fun c20 => ?_) (fun c20 => ?_)
                · refine WC_region ?_
                  refine WL_val rfl rfl rfl (R_move rfl rfl) ?_
                  refine WL_val rfl rfl rfl (R_move rfl rfl) ?_
                  refine WL_val rfl rfl rfl (R_build rfl zv99 pl99 rfl rfl) ?_
                  refine WL_do rfl rfl rfl (D_call (bk_change_ok ⟨b.limit, b.probes, b.opn, now, b.gen, b.st, b.opened, b.failed, b.allowed, b.good⟩ hg p 1 now 0 0 0) rfl rfl rfl rfl (pqZ)) ?_
                  rintro _ _ ⟨_, rfl, rfl⟩
                  refine WL_nil ?_
                  refine WQ_code ?_
                  refine WC_seq ?_
                  refine WC_region ?_
                  refine WL_val rfl rfl rfl (R_assign rfl rfl) ?_
                  refine WL_nil ?_
                  refine WQ_code ?_
                  refine WC_ret ?_
                  refine WQ_ret rfl rfl (.cons (.tmp rfl) .nil) rfl (by
                      exact ⟨⟨b.limit, b.probes, b.opn, now, b.gen + 1, 1, now, 0, 0, 0⟩, _, rfl, rfl, .inr (.inr (.inr ⟨c_may, by omega, rfl, by unfold dnB; simp_all⟩))⟩) (pqZ)
                · refine WC_skip ?_
                  refine WQ_code ?_
                  refine WC_seq ?_
                  refine WC_region ?_
                  refine WL_val rfl rfl rfl (R_assign rfl rfl) ?_
                  refine WL_nil ?_
                  refine WQ_code ?_
                  refine WC_ret ?_
                  refine WQ_ret rfl rfl (.cons (.tmp rfl) .nil) rfl (by
                      exact ⟨⟨b.limit, b.probes, b.opn, now, b.gen, b.st, b.opened, b.failed, b.allowed, b.good⟩, _, rfl, rfl, .inr (.inr (.inr ⟨c_may, by omega, rfl, by unfold dnB; simp_all⟩))⟩) (pqZ)

end Go.Proofs.Ytiokpmgbabpikaa
