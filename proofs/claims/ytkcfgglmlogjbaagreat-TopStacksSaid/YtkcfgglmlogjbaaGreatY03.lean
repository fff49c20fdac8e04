/-
  Top (TopStacks), part RsE: contracts of functions that the laws call, each for the heap it names.
-/
import Derived.Test.YtkcfgglmlogjbaaGreatY02
import Derived.Test.YtkcfgglmlogjbaaGreatRows
import Derived.Lib.SlBytesConst
section
set_option linter.unusedVariables false
set_option maxRecDepth 20000
set_option maxHeartbeats 4000000
namespace Go.Proofs.YtkcfgglmlogjbaaGreat
def CPostE (p : Nat) (P : PC × Int × Int) (ent : Ent) (r : Value) (H' : Heap) : Prop := ∃ m' x', m'.p = p ∧ ClIs m' x' ∧ x'.v = P.1 ∧ r = .tuple #[.int .i64 P.2.1, .int .i64 P.2.2] ∧ H' = clH m' x' ++ [ent]
theorem call_arg {m : ClM} {x : Cl} (h : ClIs m x) (hb : ClB x) {body : Bs} {oa : Option Addr} {ent : Ent} {c : Nat} (hr : RdB oa ent body) (dl : Nat) (hdl : dl ≤ 18446744073709551615) (hd : dl ≤ x.now) : Spec Tryz.prog 10 [ptrC m.p, .slice oa body.length c, .int .u64 (dl : Int)] (clH m x ++ [ent]) (CPostE m.p (x.v, 0, 2) ent) := by
  refine Spec.of (E := [(0, ptrC m.p), (1, .slice oa body.length c), (2, .int .u64 (dl : Int))]) Tryz.func10 rfl (by kernel_rfl) Tryz.ntmps10 rfl rfl (fun w => ?_)
  refine WC_seq ?_
  refine WC_region ?_
  refine WL_val rfl rfl rfl (R_assign rfl rfl) ?_
  refine WL_val rfl rfl rfl (R_assign rfl rfl) ?_
  refine WL_nil ?_
  refine WQ_code ?_
  refine WC_seq ?_
  refine WC_block ?_
  refine WC_seq ?_
  refine WC_region ?_
  refine WL_val rfl rfl rfl (R_move rfl rfl) ?_
  refine WL_val rfl rfl rfl (R_ptrEqNil rfl Tryz.underlying30 rfl) ?_
  refine WL_val rfl rfl rfl (R_assign rfl rfl) ?_
  refine WL_nil ?_
  refine WQ_code ?_
  refine WC_F rfl ?_
  refine WC_seq ?_
  refine WC_region ?_
  refine WL_val rfl rfl rfl (R_move rfl rfl) ?_
  refine WL_val rfl rfl rfl (R_move rfl rfl) ?_
  refine WL_val rfl rfl rfl (R_nilCheck rfl rfl) ?_
  refine WL_val rfl rfl rfl (R_fieldAddr rfl fa40_1 rfl) ?_
  refine WL_val rfl rfl rfl (R_load rfl sc36 rfl (mmD) rfl) ?_
  refine WL_val rfl rfl rfl (R_leq rfl rfl rfl) ?_
  refine WL_val rfl rfl rfl (R_assign rfl rfl) ?_
  refine WL_nil ?_
  refine WQ_code ?_
  refine WC_dT rfl (by omega) ?_
  refine WC_seq ?_
  refine WC_region ?_
  refine WL_val rfl rfl rfl (R_assign rfl rfl) ?_
  refine WL_val rfl rfl rfl (R_assign rfl rfl) ?_
  refine WL_nil ?_
  refine WQ_code ?_
  refine WC_ret ?_
  refine WQ_ret rfl rfl (.cons (.tmp rfl) (.cons (.tmp rfl) .nil)) rfl (by
      exact ⟨m, x, rfl, h, rfl, rfl, rfl⟩) (pqD)
theorem call_state {m : ClM} {x : Cl} (h : ClIs m x) (hb : ClB x) {body : Bs} {oa : Option Addr} {ent : Ent} {c : Nat} (hr : RdB oa ent body) (dl : Nat) (hdl : dl ≤ 18446744073709551615) (hd : x.now < dl) (hst : x.closed = true ∨ x.s.br ≠ 0) : Spec Tryz.prog 10 [ptrC m.p, .slice oa body.length c, .int .u64 (dl : Int)] (clH m x ++ [ent]) (CPostE m.p (x.v, 0, 8) ent) := by
  rcases Bool.eq_false_or_eq_true x.closed with hcl | hcl
  · refine Spec.of (E := [(0, ptrC m.p), (1, .slice oa body.length c), (2, .int .u64 (dl : Int))]) Tryz.func10 rfl (by kernel_rfl) Tryz.ntmps10 rfl rfl (fun w => ?_)
    refine WC_seq ?_
    refine WC_region ?_
    refine WL_val rfl rfl rfl (R_assign rfl rfl) ?_
    refine WL_val rfl rfl rfl (R_assign rfl rfl) ?_
    refine WL_nil ?_
    refine WQ_code ?_
    refine WC_seq ?_
    refine WC_block ?_
    refine WC_seq ?_
    refine WC_region ?_
    refine WL_val rfl rfl rfl (R_move rfl rfl) ?_
    refine WL_val rfl rfl rfl (R_ptrEqNil rfl Tryz.underlying30 rfl) ?_
    refine WL_val rfl rfl rfl (R_assign rfl rfl) ?_
    refine WL_nil ?_
    refine WQ_code ?_
    refine WC_F rfl ?_
    refine WC_seq ?_
    refine WC_region ?_
    refine WL_val rfl rfl rfl (R_move rfl rfl) ?_
    refine WL_val rfl rfl rfl (R_move rfl rfl) ?_
    refine WL_val rfl rfl rfl (R_nilCheck rfl rfl) ?_
    refine WL_val rfl rfl rfl (R_fieldAddr rfl fa40_1 rfl) ?_
    refine WL_val rfl rfl rfl (R_load rfl sc36 rfl (mmD) rfl) ?_
    refine WL_val rfl rfl rfl (R_leq rfl rfl rfl) ?_
    refine WL_val rfl rfl rfl (R_assign rfl rfl) ?_
    refine WL_nil ?_
    refine WQ_code ?_
    refine WC_dF rfl (by omega) ?_
    refine WC_seq ?_
    refine WC_region ?_
    refine WL_val rfl rfl rfl (R_move rfl rfl) ?_
    refine WL_val rfl rfl rfl (R_nilCheck rfl rfl) ?_
    refine WL_val rfl rfl rfl (R_fieldAddr rfl fa40_4 rfl) ?_
    refine WL_val rfl rfl rfl (R_load rfl sc4 rfl (mmD) rfl) ?_
    refine WL_set (s := 22) (v := .bool true) rfl (by rw [hcl]) ?_
    refine WL_val rfl rfl rfl (R_move rfl rfl) ?_
    refine WL_skip rfl rfl rfl ?_
    refine WL_skip rfl rfl rfl ?_
    refine WL_skip rfl rfl rfl ?_
    refine WL_skip rfl rfl rfl ?_
    refine WL_skip rfl rfl rfl ?_
    refine WL_skip rfl rfl rfl ?_
    refine WL_val rfl rfl rfl (R_pickT rfl rfl rfl) ?_
    refine WL_val rfl rfl rfl (R_assign rfl rfl) ?_
    refine WL_nil ?_
    refine WQ_code ?_
    refine WC_T rfl ?_
    refine WC_seq ?_
    refine WC_region ?_
    refine WL_val rfl rfl rfl (R_assign rfl rfl) ?_
    refine WL_val rfl rfl rfl (R_assign rfl rfl) ?_
    refine WL_nil ?_
    refine WQ_code ?_
    refine WC_ret ?_
    refine WQ_ret rfl rfl (.cons (.tmp rfl) (.cons (.tmp rfl) .nil)) rfl (by
        exact ⟨m, x, rfl, h, rfl, rfl, rfl⟩) (pqD)
  · have hbr2 : x.s.br ≠ 0 := by rcases hst with e | e; rw [hcl] at e; cases e; exact e
    refine Spec.of (E := [(0, ptrC m.p), (1, .slice oa body.length c), (2, .int .u64 (dl : Int))]) Tryz.func10 rfl (by kernel_rfl) Tryz.ntmps10 rfl rfl (fun w => ?_)
    refine WC_seq ?_
    refine WC_region ?_
    refine WL_val rfl rfl rfl (R_assign rfl rfl) ?_
    refine WL_val rfl rfl rfl (R_assign rfl rfl) ?_
    refine WL_nil ?_
    refine WQ_code ?_
    refine WC_seq ?_
    refine WC_block ?_
    refine WC_seq ?_
    refine WC_region ?_
    refine WL_val rfl rfl rfl (R_move rfl rfl) ?_
    refine WL_val rfl rfl rfl (R_ptrEqNil rfl Tryz.underlying30 rfl) ?_
    refine WL_val rfl rfl rfl (R_assign rfl rfl) ?_
    refine WL_nil ?_
    refine WQ_code ?_
    refine WC_F rfl ?_
    refine WC_seq ?_
    refine WC_region ?_
    refine WL_val rfl rfl rfl (R_move rfl rfl) ?_
    refine WL_val rfl rfl rfl (R_move rfl rfl) ?_
    refine WL_val rfl rfl rfl (R_nilCheck rfl rfl) ?_
    refine WL_val rfl rfl rfl (R_fieldAddr rfl fa40_1 rfl) ?_
    refine WL_val rfl rfl rfl (R_load rfl sc36 rfl (mmD) rfl) ?_
    refine WL_val rfl rfl rfl (R_leq rfl rfl rfl) ?_
    refine WL_val rfl rfl rfl (R_assign rfl rfl) ?_
    refine WL_nil ?_
    refine WQ_code ?_
    refine WC_dF rfl (by omega) ?_
    refine WC_seq ?_
    refine WC_region ?_
    refine WL_val rfl rfl rfl (R_move rfl rfl) ?_
    refine WL_val rfl rfl rfl (R_nilCheck rfl rfl) ?_
    refine WL_val rfl rfl rfl (R_fieldAddr rfl fa40_4 rfl) ?_
    refine WL_val rfl rfl rfl (R_load rfl sc4 rfl (mmD) rfl) ?_
    refine WL_set (s := 22) (v := .bool false) rfl (by rw [hcl]) ?_
    refine WL_val rfl rfl rfl (R_move rfl rfl) ?_
    refine WL_val rfl rfl rfl (R_move rfl rfl) ?_
    refine WL_val rfl rfl rfl (R_nilCheck rfl rfl) ?_
    refine WL_val rfl rfl rfl (R_fieldAddr rfl fa40_0 rfl) ?_
    refine WL_val rfl rfl rfl (R_fieldAddr rfl fa34_3 rfl) ?_
    refine WL_val rfl rfl rfl (R_load rfl sc27 rfl (mmD) rfl) ?_
    refine WL_val rfl rfl rfl (R_neq rfl rfl rfl) ?_
    refine WL_set (s := 29) (v := .bool true) rfl (by exact congrArg Value.bool (decide_eq_true hbr2)) ?_
    refine WL_val rfl rfl rfl (R_pickF rfl rfl rfl) ?_
    refine WL_val rfl rfl rfl (R_assign rfl rfl) ?_
    refine WL_nil ?_
    refine WQ_code ?_
    refine WC_T rfl ?_
    refine WC_seq ?_
    refine WC_region ?_
    refine WL_val rfl rfl rfl (R_assign rfl rfl) ?_
    refine WL_val rfl rfl rfl (R_assign rfl rfl) ?_
    refine WL_nil ?_
    refine WQ_code ?_
    refine WC_ret ?_
    refine WQ_ret rfl rfl (.cons (.tmp rfl) (.cons (.tmp rfl) .nil)) rfl (by
        exact ⟨m, x, rfl, h, rfl, rfl, rfl⟩) (pqD)
theorem call_long {m : ClM} {x : Cl} (h : ClIs m x) (hb : ClB x) {body : Bs} {oa : Option Addr} {ent : Ent} {c : Nat} (hr : RdB oa ent body) (dl : Nat) (hdl : dl ≤ 18446744073709551615) (hd : x.now < dl) (hcl : x.closed = false) (hbr : x.s.br = 0) (hl : 1012 < body.length) : Spec Tryz.prog 10 [ptrC m.p, .slice oa body.length c, .int .u64 (dl : Int)] (clH m x ++ [ent]) (CPostE m.p (x.v, 0, 5) ent) := by
  refine Spec.of (E := [(0, ptrC m.p), (1, .slice oa body.length c), (2, .int .u64 (dl : Int))]) Tryz.func10 rfl (by kernel_rfl) Tryz.ntmps10 rfl rfl (fun w => ?_)
  refine WC_seq ?_
  refine WC_region ?_
  refine WL_val rfl rfl rfl (R_assign rfl rfl) ?_
  refine WL_val rfl rfl rfl (R_assign rfl rfl) ?_
  refine WL_nil ?_
  refine WQ_code ?_
  refine WC_seq ?_
  refine WC_block ?_
  refine WC_seq ?_
  refine WC_region ?_
  refine WL_val rfl rfl rfl (R_move rfl rfl) ?_
  refine WL_val rfl rfl rfl (R_ptrEqNil rfl Tryz.underlying30 rfl) ?_
  refine WL_val rfl rfl rfl (R_assign rfl rfl) ?_
  refine WL_nil ?_
  refine WQ_code ?_
  refine WC_F rfl ?_
  refine WC_seq ?_
  refine WC_region ?_
  refine WL_val rfl rfl rfl (R_move rfl rfl) ?_
  refine WL_val rfl rfl rfl (R_move rfl rfl) ?_
  refine WL_val rfl rfl rfl (R_nilCheck rfl rfl) ?_
  refine WL_val rfl rfl rfl (R_fieldAddr rfl fa40_1 rfl) ?_
  refine WL_val rfl rfl rfl (R_load rfl sc36 rfl (mmD) rfl) ?_
  refine WL_val rfl rfl rfl (R_leq rfl rfl rfl) ?_
  refine WL_val rfl rfl rfl (R_assign rfl rfl) ?_
  refine WL_nil ?_
  refine WQ_code ?_
  refine WC_dF rfl (by omega) ?_
  refine WC_seq ?_
  refine WC_region ?_
  refine WL_val rfl rfl rfl (R_move rfl rfl) ?_
  refine WL_val rfl rfl rfl (R_nilCheck rfl rfl) ?_
  refine WL_val rfl rfl rfl (R_fieldAddr rfl fa40_4 rfl) ?_
  refine WL_val rfl rfl rfl (R_load rfl sc4 rfl (mmD) rfl) ?_
  refine WL_set (s := 22) (v := .bool false) rfl (by rw [hcl]) ?_
  refine WL_val rfl rfl rfl (R_move rfl rfl) ?_
  refine WL_val rfl rfl rfl (R_move rfl rfl) ?_
  refine WL_val rfl rfl rfl (R_nilCheck rfl rfl) ?_
  refine WL_val rfl rfl rfl (R_fieldAddr rfl fa40_0 rfl) ?_
  refine WL_val rfl rfl rfl (R_fieldAddr rfl fa34_3 rfl) ?_
  refine WL_val rfl rfl rfl (R_load rfl sc27 rfl (mmD) rfl) ?_
  refine WL_val rfl rfl rfl (R_neq rfl rfl rfl) ?_
  refine WL_set (s := 29) (v := .bool false) rfl (by rw [hbr]; rfl) ?_
  refine WL_val rfl rfl rfl (R_pickF rfl rfl rfl) ?_
  refine WL_val rfl rfl rfl (R_assign rfl rfl) ?_
  refine WL_nil ?_
  refine WQ_code ?_
  refine WC_F rfl ?_
  refine WC_seq ?_
  refine WC_region ?_
  refine WL_val rfl rfl rfl (R_move rfl rfl) ?_
  refine WL_val rfl rfl rfl (R_len rfl Tryz.underlying23 rfl) ?_
  refine WL_val rfl rfl rfl (R_gtr rfl rfl rfl) ?_
  refine WL_val rfl rfl rfl (R_assign rfl rfl) ?_
  refine WL_nil ?_
  refine WQ_code ?_
  refine WC_dT rfl (by omega) ?_
  refine WC_seq ?_
  refine WC_region ?_
  refine WL_val rfl rfl rfl (R_assign rfl rfl) ?_
  refine WL_val rfl rfl rfl (R_assign rfl rfl) ?_
  refine WL_nil ?_
  refine WQ_code ?_
  refine WC_ret ?_
  refine WQ_ret rfl rfl (.cons (.tmp rfl) (.cons (.tmp rfl) .nil)) rfl (by
      exact ⟨m, x, rfl, h, rfl, rfl, rfl⟩) (pqD)
theorem call_full {m : ClM} {x : Cl} (h : ClIs m x) (hb : ClB x) {body : Bs} {oa : Option Addr} {ent : Ent} {c : Nat} (hr : RdB oa ent body) (dl : Nat) (hdl : dl ≤ 18446744073709551615) (hd : x.now < dl) (hcl : x.closed = false) (hbr : x.s.br = 0) (hl : body.length ≤ 1012) (hf : 32 ≤ x.calls.length ∨ 65536 < x.s.out.length) : Spec Tryz.prog 10 [ptrC m.p, .slice oa body.length c, .int .u64 (dl : Int)] (clH m x ++ [ent]) (CPostE m.p (x.v, 0, 7) ent) := by
  refine Spec.of (E := [(0, ptrC m.p), (1, .slice oa body.length c), (2, .int .u64 (dl : Int))]) Tryz.func10 rfl (by kernel_rfl) Tryz.ntmps10 rfl rfl (fun w => ?_)
  refine WC_seq ?_
  refine WC_region ?_
  refine WL_val rfl rfl rfl (R_assign rfl rfl) ?_
  refine WL_val rfl rfl rfl (R_assign rfl rfl) ?_
  refine WL_nil ?_
  refine WQ_code ?_
  refine WC_seq ?_
  refine WC_block ?_
  refine WC_seq ?_
  refine WC_region ?_
  refine WL_val rfl rfl rfl (R_move rfl rfl) ?_
  refine WL_val rfl rfl rfl (R_ptrEqNil rfl Tryz.underlying30 rfl) ?_
  refine WL_val rfl rfl rfl (R_assign rfl rfl) ?_
  refine WL_nil ?_
  refine WQ_code ?_
  refine WC_F rfl ?_
  refine WC_seq ?_
  refine WC_region ?_
  refine WL_val rfl rfl rfl (R_move rfl rfl) ?_
  refine WL_val rfl rfl rfl (R_move rfl rfl) ?_
  refine WL_val rfl rfl rfl (R_nilCheck rfl rfl) ?_
  refine WL_val rfl rfl rfl (R_fieldAddr rfl fa40_1 rfl) ?_
  refine WL_val rfl rfl rfl (R_load rfl sc36 rfl (mmD) rfl) ?_
  refine WL_val rfl rfl rfl (R_leq rfl rfl rfl) ?_
  refine WL_val rfl rfl rfl (R_assign rfl rfl) ?_
  refine WL_nil ?_
  refine WQ_code ?_
  refine WC_dF rfl (by omega) ?_
  refine WC_seq ?_
  refine WC_region ?_
  refine WL_val rfl rfl rfl (R_move rfl rfl) ?_
  refine WL_val rfl rfl rfl (R_nilCheck rfl rfl) ?_
  refine WL_val rfl rfl rfl (R_fieldAddr rfl fa40_4 rfl) ?_
  refine WL_val rfl rfl rfl (R_load rfl sc4 rfl (mmD) rfl) ?_
  refine WL_set (s := 22) (v := .bool false) rfl (by rw [hcl]) ?_
  refine WL_val rfl rfl rfl (R_move rfl rfl) ?_
  refine WL_val rfl rfl rfl (R_move rfl rfl) ?_
  refine WL_val rfl rfl rfl (R_nilCheck rfl rfl) ?_
  refine WL_val rfl rfl rfl (R_fieldAddr rfl fa40_0 rfl) ?_
  refine WL_val rfl rfl rfl (R_fieldAddr rfl fa34_3 rfl) ?_
  refine WL_val rfl rfl rfl (R_load rfl sc27 rfl (mmD) rfl) ?_
  refine WL_val rfl rfl rfl (R_neq rfl rfl rfl) ?_
  refine WL_set (s := 29) (v := .bool false) rfl (by rw [hbr]; rfl) ?_
  refine WL_val rfl rfl rfl (R_pickF rfl rfl rfl) ?_
  refine WL_val rfl rfl rfl (R_assign rfl rfl) ?_
  refine WL_nil ?_
  refine WQ_code ?_
  refine WC_F rfl ?_
  refine WC_seq ?_
  refine WC_region ?_
  refine WL_val rfl rfl rfl (R_move rfl rfl) ?_
  refine WL_val rfl rfl rfl (R_len rfl Tryz.underlying23 rfl) ?_
  refine WL_val rfl rfl rfl (R_gtr rfl rfl rfl) ?_
  refine WL_val rfl rfl rfl (R_assign rfl rfl) ?_
  refine WL_nil ?_
  refine WQ_code ?_
  refine WC_dF rfl (by omega) ?_
  refine WC_seq ?_
  refine WC_region ?_
  refine WL_val rfl rfl rfl (R_move rfl rfl) ?_
  refine WL_val rfl rfl rfl (R_nilCheck rfl rfl) ?_
  refine WL_val rfl rfl rfl (R_fieldAddr rfl fa40_2 rfl) ?_
  refine WL_val rfl rfl rfl (R_load rfl sc37 rfl (mmD) rfl) ?_
  refine WL_val rfl rfl rfl (R_len rfl Tryz.underlying37 rfl) ?_
  refine WL_val rfl rfl rfl (R_geq rfl rfl rfl) ?_
  refine WL_val rfl rfl rfl (R_move rfl rfl) ?_
  refine WL_splitD (s := 42) rfl (fun c1 => ?_) (fun c1 => ?_)
  · have hc := c1
    refine WL_skip rfl rfl rfl ?_
    refine WL_skip rfl rfl rfl ?_
    refine WL_skip rfl rfl rfl ?_
    refine WL_skip rfl rfl rfl ?_
    refine WL_skip rfl rfl rfl ?_
    refine WL_skip rfl rfl rfl ?_
    refine WL_skip rfl rfl rfl ?_
    refine WL_val rfl rfl rfl (R_pickT rfl rfl rfl) ?_
    refine WL_val rfl rfl rfl (R_assign rfl rfl) ?_
    refine WL_nil ?_
    refine WQ_code ?_
    refine WC_T rfl ?_
    refine WC_seq ?_
    refine WC_region ?_
    refine WL_val rfl rfl rfl (R_assign rfl rfl) ?_
    refine WL_val rfl rfl rfl (R_assign rfl rfl) ?_
    refine WL_nil ?_
    refine WQ_code ?_
    refine WC_ret ?_
    refine WQ_ret rfl rfl (.cons (.tmp rfl) (.cons (.tmp rfl) .nil)) rfl (by
        exact ⟨m, x, rfl, h, rfl, rfl, rfl⟩) (pqD)
  · have hc := c1
    refine WL_val rfl rfl rfl (R_move rfl rfl) ?_
    refine WL_val rfl rfl rfl (R_nilCheck rfl rfl) ?_
    refine WL_val rfl rfl rfl (R_fieldAddr rfl fa40_0 rfl) ?_
    refine WL_val rfl rfl rfl (R_fieldAddr rfl fa34_0 rfl) ?_
    refine WL_val rfl rfl rfl (R_load rfl sc23 rfl (mmD) rfl) ?_
    refine WL_val rfl rfl rfl (R_len rfl Tryz.underlying23 rfl) ?_
    refine WL_val rfl rfl rfl (R_gtr rfl rfl rfl) ?_
    refine WL_val rfl rfl rfl (R_pickF rfl rfl rfl) ?_
    refine WL_val rfl rfl rfl (R_assign rfl rfl) ?_
    refine WL_nil ?_
    refine WQ_code ?_
    refine WC_dT rfl (by omega) ?_
    refine WC_seq ?_
    refine WC_region ?_
    refine WL_val rfl rfl rfl (R_assign rfl rfl) ?_
    refine WL_val rfl rfl rfl (R_assign rfl rfl) ?_
    refine WL_nil ?_
    refine WQ_code ?_
    refine WC_ret ?_
    refine WQ_ret rfl rfl (.cons (.tmp rfl) (.cons (.tmp rfl) .nil)) rfl (by
        exact ⟨m, x, rfl, h, rfl, rfl, rfl⟩) (pqD)
theorem call_do {m : ClM} {x : Cl} (h : ClIs m x) (hb : ClB x) {body : Bs} {oa : Option Addr} {ent : Ent} {c : Nat} (hr : RdB oa ent body) (dl : Nat) (hdl : dl ≤ 18446744073709551615) (hd : x.now < dl) (hcl : x.closed = false) (hbr : x.s.br = 0) (hl : body.length ≤ 1012) (hf : x.calls.length < 32) (ho : x.s.out.length ≤ 65536) : Spec Tryz.prog 10 [ptrC m.p, .slice oa body.length c, .int .u64 (dl : Int)] (clH m x ++ [ent]) (CPostE m.p ({ x.v with last := x.v.last + 1, calls := x.v.calls ++ [⟨x.v.last + 1, dl⟩], out := x.v.out ++ encF 16 (bigB (x.v.last + 1) 4 ++ (bigB dl 8 ++ body)) }, ((x.v.last + 1 : Nat) : Int), 0) ent) := by
  have hlast := hb.last
  have hsO := h.sd.oO
  refine Spec.of (E := [(0, ptrC m.p), (1, .slice oa body.length c), (2, .int .u64 (dl : Int))]) Tryz.func10 rfl (by kernel_rfl) Tryz.ntmps10 rfl rfl (fun w => ?_)
  refine WC_seq ?_
  refine WC_region ?_
  refine WL_val rfl rfl rfl (R_assign rfl rfl) ?_
  refine WL_val rfl rfl rfl (R_assign rfl rfl) ?_
  refine WL_nil ?_
  refine WQ_code ?_
  refine WC_seq ?_
  refine WC_block ?_
  refine WC_seq ?_
  refine WC_region ?_
  refine WL_val rfl rfl rfl (R_move rfl rfl) ?_
  refine WL_val rfl rfl rfl (R_ptrEqNil rfl Tryz.underlying30 rfl) ?_
  refine WL_val rfl rfl rfl (R_assign rfl rfl) ?_
  refine WL_nil ?_
  refine WQ_code ?_
  refine WC_F rfl ?_
  refine WC_seq ?_
  refine WC_region ?_
  refine WL_val rfl rfl rfl (R_move rfl rfl) ?_
  refine WL_val rfl rfl rfl (R_move rfl rfl) ?_
  refine WL_val rfl rfl rfl (R_nilCheck rfl rfl) ?_
  refine WL_val rfl rfl rfl (R_fieldAddr rfl fa40_1 rfl) ?_
  refine WL_val rfl rfl rfl (R_load rfl sc36 rfl (mmD) rfl) ?_
  refine WL_val rfl rfl rfl (R_leq rfl rfl rfl) ?_
  refine WL_val rfl rfl rfl (R_assign rfl rfl) ?_
  refine WL_nil ?_
  refine WQ_code ?_
  refine WC_dF rfl (by omega) ?_
  refine WC_seq ?_
  refine WC_region ?_
  refine WL_val rfl rfl rfl (R_move rfl rfl) ?_
  refine WL_val rfl rfl rfl (R_nilCheck rfl rfl) ?_
  refine WL_val rfl rfl rfl (R_fieldAddr rfl fa40_4 rfl) ?_
  refine WL_val rfl rfl rfl (R_load rfl sc4 rfl (mmD) rfl) ?_
  refine WL_set (s := 22) (v := .bool false) rfl (by rw [hcl]) ?_
  refine WL_val rfl rfl rfl (R_move rfl rfl) ?_
  refine WL_val rfl rfl rfl (R_move rfl rfl) ?_
  refine WL_val rfl rfl rfl (R_nilCheck rfl rfl) ?_
  refine WL_val rfl rfl rfl (R_fieldAddr rfl fa40_0 rfl) ?_
  refine WL_val rfl rfl rfl (R_fieldAddr rfl fa34_3 rfl) ?_
  refine WL_val rfl rfl rfl (R_load rfl sc27 rfl (mmD) rfl) ?_
  refine WL_val rfl rfl rfl (R_neq rfl rfl rfl) ?_
  refine WL_set (s := 29) (v := .bool false) rfl (by rw [hbr]; rfl) ?_
  refine WL_val rfl rfl rfl (R_pickF rfl rfl rfl) ?_
  refine WL_val rfl rfl rfl (R_assign rfl rfl) ?_
  refine WL_nil ?_
  refine WQ_code ?_
  refine WC_F rfl ?_
  refine WC_seq ?_
  refine WC_region ?_
  refine WL_val rfl rfl rfl (R_move rfl rfl) ?_
  refine WL_val rfl rfl rfl (R_len rfl Tryz.underlying23 rfl) ?_
  refine WL_val rfl rfl rfl (R_gtr rfl rfl rfl) ?_
  refine WL_val rfl rfl rfl (R_assign rfl rfl) ?_
  refine WL_nil ?_
  refine WQ_code ?_
  refine WC_dF rfl (by omega) ?_
  refine WC_seq ?_
  refine WC_region ?_
  refine WL_val rfl rfl rfl (R_move rfl rfl) ?_
  refine WL_val rfl rfl rfl (R_nilCheck rfl rfl) ?_
  refine WL_val rfl rfl rfl (R_fieldAddr rfl fa40_2 rfl) ?_
  refine WL_val rfl rfl rfl (R_load rfl sc37 rfl (mmD) rfl) ?_
  refine WL_val rfl rfl rfl (R_len rfl Tryz.underlying37 rfl) ?_
  refine WL_val rfl rfl rfl (R_geq rfl rfl rfl) ?_
  refine WL_val rfl rfl rfl (R_move rfl rfl) ?_
  refine WL_set (s := 42) (v := .bool false) rfl (by exact congrArg Value.bool (decide_eq_false (by omega))) ?_
  refine WL_val rfl rfl rfl (R_move rfl rfl) ?_
  refine WL_val rfl rfl rfl (R_nilCheck rfl rfl) ?_
  refine WL_val rfl rfl rfl (R_fieldAddr rfl fa40_0 rfl) ?_
  refine WL_val rfl rfl rfl (R_fieldAddr rfl fa34_0 rfl) ?_
  refine WL_val rfl rfl rfl (R_load rfl sc23 rfl (mmD) rfl) ?_
  refine WL_val rfl rfl rfl (R_len rfl Tryz.underlying23 rfl) ?_
  refine WL_val rfl rfl rfl (R_gtr rfl rfl rfl) ?_
  refine WL_val rfl rfl rfl (R_pickF rfl rfl rfl) ?_
  refine WL_val rfl rfl rfl (R_assign rfl rfl) ?_
  refine WL_nil ?_
  refine WQ_code ?_
  refine WC_dF rfl (by omega) ?_
  refine WC_skip ?_
  refine WQ_code ?_
  refine WC_seq ?_
  refine WC_region ?_
  refine WL_val rfl rfl rfl (R_move rfl rfl) ?_
  refine WL_val rfl rfl rfl (R_nilCheck rfl rfl) ?_
  refine WL_val rfl rfl rfl (R_fieldAddr rfl fa40_0 rfl) ?_
  refine WL_val rfl rfl rfl (R_fieldAddr rfl fa34_2 rfl) ?_
  refine WL_val rfl rfl rfl (R_load rfl sc3 rfl (mmD) rfl) ?_
  refine WL_val rfl rfl rfl (R_addR (r := ((x.s.last + 1 : Nat) : Int)) rfl rfl rfl (by rw [wrap64_in (by omega) (by omega)]; omega)) ?_
  refine WL_val rfl rfl rfl (R_nilCheck rfl rfl) ?_
  refine WL_val rfl rfl rfl (R_fieldAddr rfl fa40_0 rfl) ?_
  refine WL_val rfl rfl rfl (R_fieldAddr rfl fa34_2 rfl) ?_
  refine WL_do0 rfl rfl (D_store (vs := [_]) rfl Tryz.sizeOf3 rfl rfl rfl rfl rfl (plD) (by exact Nat.le_of_ble_eq_true rfl)) ?_
  rintro _ _ rfl
  refine WL_nil ?_
  refine WQ_code ?_
  refine WC_seq ?_
  refine WC_drawY (⟨some m.p, _⟩ :: [⟨m.cb, _⟩]) [(m.p, 6, slV m.cb x.calls.length m.cc), (m.p, 3, .int .i64 ((x.s.last + 1 : Nat) : Int))] [16] [(0, false), (1, false), (2, false), (3, false), (4, true), (5, false), (6, false), (7, false), (8, false), (9, true)] [(10, true), (11, true), (12, false), (13, false), (14, true), (15, true), (16, false)] followsMixed rfl rfl (by kernel_rfl) (pqD) (.cons (mmD) rfl (.cons (mmD) rfl .nil)) ?_
  refine WYE_val rfl rfl rfl rfl (R_move rfl rfl) ?_
  refine WYE_val rfl rfl rfl rfl (R_move rfl rfl) ?_
  refine WYE_val rfl rfl rfl rfl (R_nilCheck rfl rfl) ?_
  refine WYE_val rfl rfl rfl rfl (R_fieldAddr rfl fa40_2 rfl) ?_
  refine WYE_early rfl rfl rfl rfl rfl sc37 rfl (by repeat (first | exact List.Mem.head _ | refine List.Mem.tail _ ?_)) ?_
  refine WYE_val rfl rfl rfl rfl (R_move rfl rfl) ?_
  refine WYE_val rfl rfl rfl rfl (R_nilCheck rfl rfl) ?_
  refine WYE_val rfl rfl rfl rfl (R_fieldAddr rfl fa40_0 rfl) ?_
  refine WYE_val rfl rfl rfl rfl (R_fieldAddr rfl fa34_2 rfl) ?_
  refine WYE_early rfl rfl rfl rfl rfl sc3 rfl (by repeat (first | exact List.Mem.head _ | refine List.Mem.tail _ ?_)) ?_
  refine WYE_rest ?_
  refine WY_val rfl rfl rfl rfl (R_move rfl rfl) ?_
  refine WY_val rfl rfl rfl rfl (R_build rfl zv76 pl76 rfl rfl) ?_
  refine WY_do rfl rfl rfl rfl (D_buildSlice rfl si37 rfl rfl rfl) ?_
  rintro _ _ ⟨b1, rfl, rfl⟩
  refine ⟨⟨_, pqD⟩, .inr (.cons (mmD) rfl (.cons (mmD) rfl .nil)), ?_⟩
  refine WY_do rfl rfl rfl rfl (D_append rfl si37 rfl (h.cO) (plD) rfl (mmD) ((atZ : At _ 0 [_, _])) (rfl) (rfl) (by omega) (by omega)) ?_
  rintro _ _ ⟨ob2, cap2, tl2, rfl, own2, rfl⟩
  refine ⟨⟨_, pqD⟩, .inr (.cons (mmD) rfl (.cons (mmD) rfl .nil)), ?_⟩
  rw [show x.calls.flatMap encC ++ [Value.int .i64 ((x.s.last + 1 : Nat) : Int), .int .u64 (dl : Int)] = (x.calls ++ [(⟨x.s.last + 1, dl⟩ : Ca)]).flatMap encC from by simp, show x.calls.length + 1 = (x.calls ++ [(⟨x.s.last + 1, dl⟩ : Ca)]).length from by simp] at own2 ⊢
  refine WY_val rfl rfl rfl rfl (R_nilCheck rfl rfl) ?_
  refine WY_val rfl rfl rfl rfl (R_fieldAddr rfl fa40_2 rfl) ?_
  refine WY_do0 rfl rfl rfl (D_store (vs := [_]) rfl Tryz.sizeOf37 rfl rfl rfl rfl rfl (plD) (by exact Nat.le_of_ble_eq_true rfl)) ?_
  rintro _ _ rfl
  refine ⟨⟨_, pqD⟩, .inl rfl, ?_⟩
  refine WY_nil ?_
  refine WQ_code ?_
  refine WC_seq ?_
  refine WC_drawY (⟨some m.p, _⟩ :: [⟨m.sd.ob, _⟩]) [(m.p, 3, .int .i64 ((x.s.last + 1 : Nat) : Int))] [13] [(0, false), (1, false), (2, false), (3, false), (4, false), (5, false), (6, false), (7, true)] [(9, true), (11, true), (8, false), (10, false), (12, false), (13, false)] followsMixed rfl rfl (by kernel_rfl) (pqD) (.cons (mmD) rfl .nil) ?_
  refine WYE_val rfl rfl rfl rfl (R_move rfl rfl) ?_
  refine WYE_val rfl rfl rfl rfl (R_nilCheck rfl rfl) ?_
  refine WYE_val rfl rfl rfl rfl (R_fieldAddr rfl fa40_0 rfl) ?_
  refine WYE_val rfl rfl rfl rfl (R_move rfl rfl) ?_
  refine WYE_val rfl rfl rfl rfl (R_nilCheck rfl rfl) ?_
  refine WYE_val rfl rfl rfl rfl (R_fieldAddr rfl fa40_0 rfl) ?_
  refine WYE_val rfl rfl rfl rfl (R_fieldAddr rfl fa34_2 rfl) ?_
  refine WYE_early rfl rfl rfl rfl rfl sc3 rfl (by repeat (first | exact List.Mem.head _ | refine List.Mem.tail _ ?_)) ?_
  refine WYE_rest ?_
  refine WY_val rfl rfl rfl rfl (R_move rfl rfl) ?_
  refine WY_val rfl rfl rfl rfl (R_move rfl rfl) ?_
  refine WY_do rfl rfl rfl rfl (D_call (four_ok (x.s.last + 1) (by omega)) rfl rfl rfl rfl (pqD)) ?_
  rintro _ _ ⟨_, ⟨b4, rfl, rfl⟩, rfl⟩
  refine ⟨⟨_, pqD⟩, .inr (.cons (mmD) rfl .nil), ?_⟩
  refine WY_do rfl rfl rfl rfl (D_call (big_ok dl 8 (by omega) (by decide)) rfl rfl rfl rfl (pqD)) ?_
  rintro _ _ ⟨_, ⟨b8, rfl, rfl⟩, rfl⟩
  refine ⟨⟨_, pqD⟩, .inr (.cons (mmD) rfl .nil), ?_⟩
  refine WY_do rfl rfl rfl rfl (D_buildSlice rfl si22 rfl rfl rfl) ?_
  rintro _ _ ⟨b3, rfl, rfl⟩
  refine ⟨⟨_, pqD⟩, .inr (.cons (mmD) rfl .nil), ?_⟩
  refine WY_do rfl rfl rfl rfl (D_call (send_ok m.p 40 _ hsO 16 b3 [⟨some ⟨b4, 0, none⟩, 4, bigB (x.s.last + 1) 4⟩, ⟨some ⟨b8, 0, none⟩, 8, bigB dl 8⟩, ⟨oa, c, body⟩] [⟨some b4, cl (bvs (bigB (x.s.last + 1) 4)) 5⟩, ⟨some b8, cl (bvs (bigB dl 8)) 5⟩, ent] (by simp) (by simp) (parts3 (RdB.blk b4 _) (RdB.blk b8 _) hr) (short2 (by simp [bigB_len]) (by simp [bigB_len]) (by show body.length ≤ _; omega)) (by simp [joinL, bigB_len]; omega) (by omega)) rfl rfl rfl rfl (pqD)) ?_
  rintro _ _ ⟨_, ⟨ob3, k3, c3, pre3, tl3, rfl, rfl, own3⟩, rfl⟩
  refine ⟨⟨_, pqD⟩, .inl rfl, ?_⟩
  rw [show joinL [⟨some ⟨b4, 0, none⟩, 4, bigB (x.s.last + 1) 4⟩, ⟨some ⟨b8, 0, none⟩, 8, bigB dl 8⟩, ⟨oa, c, body⟩] = bigB (x.s.last + 1) 4 ++ (bigB dl 8 ++ body) from by simp [joinL]] at own3 ⊢
  refine WY_nil ?_
  refine WQ_code ?_
  refine WC_seq ?_
  refine WC_region ?_
  refine WL_val rfl rfl rfl (R_move rfl rfl) ?_
  refine WL_val rfl rfl rfl (R_nilCheck rfl rfl) ?_
  refine WL_val rfl rfl rfl (R_fieldAddr rfl fa40_0 rfl) ?_
  refine WL_val rfl rfl rfl (R_fieldAddr rfl fa34_2 rfl) ?_
  refine WL_val rfl rfl rfl (R_load rfl sc3 rfl (mmD) rfl) ?_
  refine WL_val rfl rfl rfl (R_assign rfl rfl) ?_
  refine WL_val rfl rfl rfl (R_assign rfl rfl) ?_
  refine WL_nil ?_
  refine WQ_code ?_
  refine WC_ret ?_
  refine WQ_ret rfl rfl (.cons (.tmp rfl) (.cons (.tmp rfl) .nil)) rfl (by
      exact ⟨{ m with sd := { m.sd with ob := ob3, ok := k3, oc := c3, op := pre3, ot := tl3 }, cb := ob2, cc := cap2, ctl := tl2 }, { x with s := { x.s with last := x.s.last + 1, out := x.s.out ++ encF 16 (bigB (x.s.last + 1) 4 ++ (bigB dl 8 ++ body)) }, calls := x.calls ++ [⟨x.s.last + 1, dl⟩] }, rfl, ⟨⟨own3, h.sd.iO⟩, own2, h.eO, h.rO⟩, rfl, rfl, rfl⟩) (pqD)
theorem call_ok {m : ClM} {x : Cl} (h : ClIs m x) (hb : ClB x) {body : Bs} {oa : Option Addr} {ent : Ent} {c : Nat} (hr : RdB oa ent body) (dl : Nat) (hdl : dl ≤ 18446744073709551615) : Spec Tryz.prog 10 [ptrC m.p, .slice oa body.length c, .int .u64 (dl : Int)] (clH m x ++ [ent]) (CPostE m.p (x.v.call body dl) ent) := by
  unfold PC.call
  by_cases h1 : dl ≤ x.now
  · rw [if_pos (show dl ≤ x.v.now from h1)]; exact call_arg h hb hr dl hdl h1
  rw [if_neg (show ¬ dl ≤ x.v.now from h1)]
  by_cases h2 : x.closed = true ∨ x.s.br ≠ 0
  · rw [if_pos (show x.v.closed = true ∨ x.v.br ≠ 0 from h2)]; exact call_state h hb hr dl hdl (by omega) h2
  rw [if_neg (show ¬ (x.v.closed = true ∨ x.v.br ≠ 0) from h2)]
  obtain ⟨hcl, hbr⟩ := bad_of h2
  by_cases h3 : 1012 < body.length
  · rw [if_pos h3]; exact call_long h hb hr dl hdl (by omega) hcl hbr h3
  rw [if_neg h3]
  by_cases h4 : 32 ≤ x.calls.length ∨ 65536 < x.s.out.length
  · rw [if_pos (show 32 ≤ x.v.calls.length ∨ 65536 < x.v.out.length from h4)]; exact call_full h hb hr dl hdl (by omega) hcl hbr (by omega) h4
  rw [if_neg (show ¬ (32 ≤ x.v.calls.length ∨ 65536 < x.v.out.length) from h4)]
  exact call_do h hb hr dl hdl (by omega) hcl hbr (by omega) (by omega) (by omega)
end Go.Proofs.YtkcfgglmlogjbaaGreat
end
section
set_option linter.unusedVariables false
set_option maxRecDepth 20000
set_option maxHeartbeats 4000000
namespace Go.Proofs.YtkcfgglmlogjbaaGreat
theorem feed_full (p ty : Nat) (a0 : Value) (Z : List Value) {bs : Bs} {ob : Option Nat} {k c : Nat} {pre tl : List Value} (hO : OwnS ob k bs.length c 1 pre (bvs bs) tl) {l : Bs} {oa : Option Addr} {c2 : Nat} (hl : l.length ≤ 1000000) (hbl : bs.length ≤ 65536) (hfull : 65536 < bs.length + l.length) : Spec Tryz.prog 50 [.pointer (some ⟨p, 1, none⟩), .slice oa l.length c2] [⟨some p, cl (a0 :: sVal ob k bs.length c :: .int .i64 0 :: Z) ty⟩]
    (fun r H' => r = .int .i64 7 ∧ H' = [⟨some p, cl (a0 :: sVal ob k bs.length c :: .int .i64 0 :: Z) ty⟩]) := by
  refine Spec.of (E := [(0, .pointer (some ⟨p, 1, none⟩)), (1, .slice oa l.length c2)]) Tryz.func50 rfl (by kernel_rfl) Tryz.ntmps50 rfl rfl (fun w => ?_)
  refine WC_seq ?_
  refine WC_region ?_
  refine WL_val rfl rfl rfl (R_assign rfl rfl) ?_
  refine WL_nil ?_
  refine WQ_code ?_
  refine WC_seq ?_
  refine WC_block ?_
  refine WC_seq ?_
  refine WC_region ?_
  refine WL_val rfl rfl rfl (R_move rfl rfl) ?_
  refine WL_val rfl rfl rfl (R_ptrEqNil rfl Tryz.underlying68 rfl) ?_
  refine WL_val rfl rfl rfl (R_assign rfl rfl) ?_
  refine WL_nil ?_
  refine WQ_code ?_
  refine WC_F rfl ?_
  refine WC_seq ?_
  refine WC_region ?_
  refine WL_val rfl rfl rfl (R_move rfl rfl) ?_
  refine WL_val rfl rfl rfl (R_nilCheck rfl rfl) ?_
  refine WL_val rfl rfl rfl (R_fieldAddr rfl fa32_1 rfl) ?_
  refine WL_val rfl rfl rfl (R_load rfl sc27 rfl (mmD) rfl) ?_
  refine WL_val rfl rfl rfl (R_neq rfl rfl rfl) ?_
  refine WL_val rfl rfl rfl (R_assign rfl rfl) ?_
  refine WL_nil ?_
  refine WQ_code ?_
  refine WC_dF rfl (by decide) ?_
  refine WC_seq ?_
  refine WC_region ?_
  refine WL_val rfl rfl rfl (R_move rfl rfl) ?_
  refine WL_val rfl rfl rfl (R_len rfl Tryz.underlying23 rfl) ?_
  refine WL_val rfl rfl rfl (R_move rfl rfl) ?_
  refine WL_val rfl rfl rfl (R_nilCheck rfl rfl) ?_
  refine WL_val rfl rfl rfl (R_fieldAddr rfl fa32_0 rfl) ?_
  refine WL_val rfl rfl rfl (R_load rfl sc23 rfl (mmD) rfl) ?_
  refine WL_val rfl rfl rfl (R_len rfl Tryz.underlying23 rfl) ?_
  refine WL_val rfl rfl rfl (R_subR (r := (65536 - (bs.length : Int))) rfl rfl rfl (by rw [wrap64_in (by omega) (by omega)])) ?_
  refine WL_val rfl rfl rfl (R_gtr rfl rfl rfl) ?_
  refine WL_val rfl rfl rfl (R_assign rfl rfl) ?_
  refine WL_nil ?_
  refine WQ_code ?_
  refine WC_dT rfl (by omega) ?_
  refine WC_seq ?_
  refine WC_region ?_
  refine WL_val rfl rfl rfl (R_assign rfl rfl) ?_
  refine WL_nil ?_
  refine WQ_code ?_
  refine WC_ret ?_
  refine WQ_ret rfl rfl (.cons (.tmp rfl) .nil) rfl (by
      exact ⟨rfl, rfl⟩) (pqD)
theorem rcv_broken (p ty : Nat) (a v l3 : Value) (rb br : Int) (Z : List Value) (hbr : br ≠ 0) {l : Bs} {oa : Option Addr} {c0 hf : Nat} {hfi hca : List Value} : Spec Tryz.prog 36 [.pointer (some ⟨p, 0, none⟩), .slice oa l.length c0, .func (.func hf) hfi.toArray hca.toArray] [⟨some p, cl (a :: v :: .int .i64 rb :: l3 :: .int .i64 br :: Z) ty⟩] (fun r H' => r = .int .i64 8 ∧ H' = [⟨some p, cl (a :: v :: .int .i64 rb :: l3 :: .int .i64 br :: Z) ty⟩]) := by
  refine Spec.ofD (E := [(0, .pointer (some ⟨p, 0, none⟩)), (1, .slice oa l.length c0), (2, .func (.func hf) hfi.toArray hca.toArray)]) Tryz.func36 rfl (by kernel_rfl) Tryz.ntmps36 rfl rfl (fun w => ?_)
  refine WC_seq ?_
  refine WC_region ?_
  refine WL_do rfl rfl rfl (D_box (cs := [_]) rfl rfl rfl) ?_
  rintro _ _ ⟨b1, rfl, rfl⟩
  refine WL_do rfl rfl rfl (D_alloc rfl zv27) ?_
  rintro _ _ ⟨b2, rfl, rfl⟩
  refine WL_nil ?_
  refine WQ_code ?_
  refine WC_seq ?_
  refine WC_seq ?_
  refine WC_region ?_
  refine WL_val rfl rfl rfl (R_load rfl sc103 rfl (mmD) rfl) ?_
  refine WL_val rfl rfl rfl (R_nilCheck rfl rfl) ?_
  refine WL_val rfl rfl rfl (R_fieldAddr rfl fa34_3 rfl) ?_
  refine WL_val rfl rfl rfl (R_load rfl sc27 rfl (mmD) rfl) ?_
  refine WL_val rfl rfl rfl (R_neq rfl rfl rfl) ?_
  refine WL_nil ?_
  refine WQ_code ?_
  refine WC_dT rfl (by exact hbr) ?_
  refine WC_seq ?_
  refine WC_region ?_
  refine WL_do0 rfl rfl (D_store (vs := [_]) rfl Tryz.sizeOf27 rfl rfl rfl rfl rfl (plD) (by exact Nat.le_of_ble_eq_true rfl)) ?_
  rintro _ _ rfl
  rw [put_b0]
  refine WL_nil ?_
  refine WQ_code ?_
  refine WC_ret ?_
  refine WQ_retD0 rfl rfl (.cons (.cell1 rfl sc27 (mmD) rfl) .nil) rfl (by
      exact ⟨rfl, rfl⟩) (pqD)
theorem rcv_full (p ty : Nat) (a l3 : Value) (Z : List Value) {bs : Bs} {ob : Option Nat} {k c : Nat} {pre tl : List Value} (hO : OwnS ob k bs.length c 1 pre (bvs bs) tl) {l : Bs} {oa : Option Addr} {c0 hf : Nat} {hfi hca : List Value} (hl : l.length ≤ 1000000) (hbl : bs.length ≤ 65536) (hfull : 65536 < bs.length + l.length) :
    Spec Tryz.prog 36 [.pointer (some ⟨p, 0, none⟩), .slice oa l.length c0, .func (.func hf) hfi.toArray hca.toArray] [⟨some p, cl (a :: sVal ob k bs.length c :: .int .i64 0 :: l3 :: .int .i64 0 :: Z) ty⟩] (fun r H' => r = .int .i64 7 ∧ H' = [⟨some p, cl (a :: sVal ob k bs.length c :: .int .i64 0 :: l3 :: .int .i64 0 :: Z) ty⟩]) := by
  refine Spec.ofD (E := [(0, .pointer (some ⟨p, 0, none⟩)), (1, .slice oa l.length c0), (2, .func (.func hf) hfi.toArray hca.toArray)]) Tryz.func36 rfl (by kernel_rfl) Tryz.ntmps36 rfl rfl (fun w => ?_)
  refine WC_seq ?_
  refine WC_region ?_
  refine WL_do rfl rfl rfl (D_box (cs := [_]) rfl rfl rfl) ?_
  rintro _ _ ⟨b1, rfl, rfl⟩
  refine WL_do rfl rfl rfl (D_alloc rfl zv27) ?_
  rintro _ _ ⟨b2, rfl, rfl⟩
  refine WL_nil ?_
  refine WQ_code ?_
  refine WC_seq ?_
  refine WC_seq ?_
  refine WC_region ?_
  refine WL_val rfl rfl rfl (R_load rfl sc103 rfl (mmD) rfl) ?_
  refine WL_val rfl rfl rfl (R_nilCheck rfl rfl) ?_
  refine WL_val rfl rfl rfl (R_fieldAddr rfl fa34_3 rfl) ?_
  refine WL_val rfl rfl rfl (R_load rfl sc27 rfl (mmD) rfl) ?_
  refine WL_val rfl rfl rfl (R_neq rfl rfl rfl) ?_
  refine WL_set (s := 15) (v := .bool false) rfl (by rfl) ?_
  refine WL_nil ?_
  refine WQ_code ?_
  refine WC_F rfl ?_
  refine WC_skip ?_
  refine WQ_code ?_
  refine WC_seq ?_
  refine WC_seq ?_
  refine WC_region ?_
  refine WL_val rfl rfl rfl (R_load rfl sc103 rfl (mmD) rfl) ?_
  refine WL_val rfl rfl rfl (R_nilCheck rfl rfl) ?_
  refine WL_val rfl rfl rfl (R_fieldAddr rfl fa34_1 rfl) ?_
  refine WL_val rfl rfl rfl (R_move rfl rfl) ?_
  refine WL_do rfl rfl rfl (D_call (feed_full p ty a (l3 :: .int .i64 0 :: Z) hO hl hbl hfull) rfl rfl rfl rfl (pqD)) ?_
  rintro _ _ ⟨_, ⟨rfl, rfl⟩, rfl⟩
  refine WL_val rfl rfl rfl (R_assign rfl rfl) ?_
  refine WL_nil ?_
  refine WQ_code ?_
  refine WC_seq ?_
  refine WC_region ?_
  refine WL_val rfl rfl rfl (R_move rfl rfl) ?_
  refine WL_val rfl rfl rfl (R_neq rfl rfl rfl) ?_
  refine WL_nil ?_
  refine WQ_code ?_
  refine WC_dT rfl (by decide) ?_
  refine WC_seq ?_
  refine WC_region ?_
  refine WL_val rfl rfl rfl (R_move rfl rfl) ?_
  refine WL_do0 rfl rfl (D_store (vs := [_]) rfl Tryz.sizeOf27 rfl rfl rfl rfl rfl (plD) (by exact Nat.le_of_ble_eq_true rfl)) ?_
  rintro _ _ rfl
  rw [put_b0]
  refine WL_nil ?_
  refine WQ_code ?_
  refine WC_ret ?_
  refine WQ_retD0 rfl rfl (.cons (.cell1 rfl sc27 (mmD) rfl) .nil) rfl (by
      exact ⟨rfl, rfl⟩) (pqD)
theorem val2_lt (l : Bs) : valB (l.take 2) < 65536 := by
  have h := foldV_lt (l.take 2) 0
  have h2 : (l.take 2).length ≤ 2 := by simp; omega
  have h3 : 256 ^ (l.take 2).length ≤ 256 ^ 2 := Nat.pow_le_pow_right (by decide) h2
  have h4 : (256 : Nat) ^ 2 = 65536 := by decide
  unfold valB
  omega
theorem rd_from {b m c : Nat} {cs : List Value} {e : TypeId} {fr : Nat × Nat} {l : Bs} (hat : At cs 0 (bvs l)) (hlc : l.length ≤ c) : RdB (some ⟨b, if c = m then 0 else 0 + m * 1, none⟩) ⟨some b, .cells (List.toArray cs) e fr⟩ (l.drop m) := by
  by_cases hc : c = m
  · rw [List.drop_eq_nil_of_le (by omega)]; exact RdB.nil _ _
  · rw [if_neg hc, Nat.mul_one]
    have := rd_sub (b := b) (i := m) (n := l.length) (e := e) (fr := fr) hat
    rwa [List.take_of_length_le (by simp)] at this
theorem step_ok {x : PC} {k : UInt8} {body : Bs} (h : (x.step k body).2 = 0) : (k = 17 ∧ 6 ≤ body.length) ∧ (0 < (valB (body.take 4)) ∧ (valB (body.take 4)) ≤ x.last) ∧ x.step k body = (x.endW (isId ((valB (body.take 4)) : Int)) (valB ((body.drop 4).take 2) : Int) (body.drop 6), 0) := by
  unfold PC.step at *
  split at h
  · cases h
  · rename_i h1
    rw [if_neg h1]
    split at h
    · cases h
    · rename_i h2
      rw [if_neg h2]
      exact ⟨Decidable.not_not.1 h1, Decidable.not_not.1 h2, rfl⟩
theorem step_bad {x : PC} {k : UInt8} {body : Bs} (h : (x.step k body).2 ≠ 0) : (¬ (k = 17 ∧ 6 ≤ body.length) ∧ x.step k body = (x, 6)) ∨ ((k = 17 ∧ 6 ≤ body.length) ∧ ¬ (0 < (valB (body.take 4)) ∧ (valB (body.take 4)) ≤ x.last) ∧ x.step k body = (x, 10)) := by
  unfold PC.step at *
  split at h
  · rename_i h1; rw [if_pos h1]; exact .inl ⟨h1, rfl⟩
  · rename_i h1
    rw [if_neg h1]
    split at h
    · rename_i h2; rw [if_pos h2]; exact .inr ⟨Decidable.not_not.1 h1, h2, rfl⟩
    · exact absurd rfl h
theorem hnd_ok (hsort : CSortOk) {m : ClM} {x : Cl} (p bx : Nat) (h : ClIs m x) (hbc : x.calls.length ≤ 32) (hbr : x.res.length ≤ 100000) (hlast : x.s.last ≤ 1000000) (k : UInt8) (body : Bs) (h4 : 4 ≤ body.length) (hbl : body.length ≤ 1024) (v : Value) (o : Option Nat) (c2 : Nat) (tl : List Value) (own : Own o body.length c2 1 (bvs body) tl) (hstep : (x.v.step k body).2 = 0) : Spec Tryz.prog 38 [.agg #[.int .u8 (k.toNat : Int), slV o body.length c2], ptrC bx] ([⟨some p, cl [sVal m.sd.ob m.sd.ok x.s.out.length m.sd.oc, v, .int .i64 0, .int .i64 (x.s.last : Int), .int .i64 0, .int .u64 (x.now : Int), slV m.cb x.calls.length m.cc, sVal m.eb m.ek x.res.length m.ec, .bool x.closed] 40⟩] ++ ([⟨some bx, cl [ptrC p] 30⟩, oE m.sd x.s, caE m x, reE m x] ++ rsH x.res) ++ [⟨o, cl (bvs body ++ tl) 5⟩])
    (fun r H' => ∃ m' x', ClIs m' x' ∧ x'.v = (x.v.step k body).1 ∧ r = .tuple #[] ∧ H' = [⟨some p, cl [sVal m'.sd.ob m'.sd.ok x'.s.out.length m'.sd.oc, v, .int .i64 0, .int .i64 (x'.s.last : Int), .int .i64 0, .int .u64 (x'.now : Int), slV m'.cb x'.calls.length m'.cc, sVal m'.eb m'.ek x'.res.length m'.ec, .bool x'.closed] 40⟩] ++ ([⟨some bx, cl [ptrC p] 30⟩, oE m'.sd x'.s, caE m' x', reE m' x'] ++ rsH x'.res)) := by
  obtain ⟨hk, ⟨hn1, hn2⟩, hse⟩ := step_ok hstep
  have hn2 : (valB (body.take 4)) ≤ x.s.last := hn2
  have hv4 := val4_lt body
  rw [hse]
  refine Spec.of (E := [(0, .agg #[.int .u8 (k.toNat : Int), slV o body.length c2]), (1, ptrC bx)]) Tryz.func38 rfl (by kernel_rfl) Tryz.ntmps38 rfl rfl (fun w => ?_)
  refine WC_seq ?_
  refine WC_region ?_
  refine WL_do rfl rfl rfl (D_box (cs := [_, _]) rfl rfl rfl) ?_
  rintro _ _ ⟨b1, rfl, rfl⟩
  refine WL_nil ?_
  refine WQ_code ?_
  refine WC_seq ?_
  refine WC_region ?_
  refine WL_val rfl rfl rfl (R_fieldAddr rfl fa84_0 rfl) ?_
  refine WL_val rfl rfl rfl (R_load rfl sc5 rfl (mmD) rfl) ?_
  refine WL_val rfl rfl rfl (R_eql rfl rfl rfl) ?_
  refine WL_set (s := 6) (v := .bool true) rfl (by exact congrArg Value.bool (decide_eq_true (by rw [hk.1]; rfl))) ?_
  refine WL_val rfl rfl rfl (R_move rfl rfl) ?_
  refine WL_val rfl rfl rfl (R_fieldAddr rfl fa84_1 rfl) ?_
  refine WL_val rfl rfl rfl (R_load rfl sc23 rfl (mmD) rfl) ?_
  refine WL_val rfl rfl rfl (R_len rfl Tryz.underlying23 rfl) ?_
  refine WL_val rfl rfl rfl (R_geq rfl rfl rfl) ?_
  refine WL_set (s := 11) (v := .bool true) rfl (by exact congrArg Value.bool (decide_eq_true (by have := hk.2; omega))) ?_
  refine WL_val rfl rfl rfl (R_pickT rfl rfl rfl) ?_
  refine WL_do rfl rfl rfl (D_call (must_ok _) rfl rfl rfl rfl (pqD)) ?_
  rintro _ _ ⟨_, ⟨rfl, rfl⟩, rfl⟩
  refine WL_nil ?_
  refine WQ_code ?_
  refine WC_seq ?_
  refine WC_region ?_
  refine WL_val rfl rfl rfl (R_fieldAddr rfl fa84_1 rfl) ?_
  refine WL_val rfl rfl rfl (R_load rfl sc23 rfl (mmD) rfl) ?_
  refine WL_do rfl rfl rfl (D_call (number_ok (RdB.own own) h4 (by omega) own.le) rfl rfl rfl rfl (pqD)) ?_
  rintro _ _ ⟨_, ⟨rfl, rfl⟩, rfl⟩
  refine WL_do rfl rfl rfl (D_alloc rfl zv3) ?_
  rintro _ _ ⟨b2, rfl, rfl⟩
  refine WL_do0 rfl rfl (D_store (vs := [_]) rfl Tryz.sizeOf3 rfl rfl rfl rfl rfl (plD) (by exact Nat.le_of_ble_eq_true rfl)) ?_
  rintro _ _ rfl
  refine WL_nil ?_
  refine WQ_code ?_
  refine WC_seq ?_
  refine WC_draw _ [(0, true), (1, true), (2, true), (3, true), (4, true), (5, true), (6, true), (7, true), (8, true), (9, true), (10, true), (11, true)] followsMixed rfl rfl (by kernel_rfl) .all ?_
  refine WM_val rfl rfl rfl rfl (R_load rfl sc3 rfl (mmD) rfl) ?_
  refine WM_val rfl rfl rfl rfl (R_gtr rfl rfl rfl) ?_
  refine WM_set (s := 18) (v := .bool true) rfl (by exact congrArg Value.bool (decide_eq_true (by omega))) ?_
  refine WM_val rfl rfl rfl rfl (R_move rfl rfl) ?_
  refine WM_val rfl rfl rfl rfl (R_load rfl sc3 rfl (mmD) rfl) ?_
  refine WM_val rfl rfl rfl rfl (R_load rfl sc30 rfl (mmD) rfl) ?_
  refine WM_val rfl rfl rfl rfl (R_nilCheck rfl rfl) ?_
  refine WM_val rfl rfl rfl rfl (R_fieldAddr rfl fa40_0 rfl) ?_
  refine WM_val rfl rfl rfl rfl (R_fieldAddr rfl fa34_2 rfl) ?_
  refine WM_val rfl rfl rfl rfl (R_load rfl sc3 rfl (mmD) rfl) ?_
  refine WM_val rfl rfl rfl rfl (R_leq rfl rfl rfl) ?_
  refine WM_set (s := 26) (v := .bool true) rfl (by exact congrArg Value.bool (decide_eq_true (by omega))) ?_
  refine WM_val rfl rfl rfl rfl (R_pickT rfl rfl rfl) ?_
  refine WM_call rfl (Spec.quiet (must_ok _)) rfl rfl rfl rfl rfl rfl rfl (pqD) ?_
  refine WM_nil ?_
  refine WQ_code ?_
  refine WC_drawR (⟨some p, _⟩ :: [⟨m.cb, _⟩, ⟨m.eb, _⟩]) [(0, true), (1, true), (2, true), (3, true), (4, true), (5, true), (6, true), (7, true), (8, true), (9, true), (10, false)] followsMixed rfl rfl (by kernel_rfl) (pqD) ?_
  obtain ⟨wb, rfl⟩ := own.some_of (by omega)
  have hat : At (bvs body ++ tl) 0 (bvs body) := fun j v hj => by rw [Nat.zero_add, List.getElem?_append_left (List.getElem?_eq_some_iff.1 hj).1]; exact hj
  refine WM_none 5 ?_
  refine WM_val rfl rfl rfl rfl (R_load rfl sc30 rfl (mmD) rfl) ?_
  refine WM_val rfl rfl rfl rfl (R_fieldAddr rfl fa84_1 rfl) ?_
  refine WM_val rfl rfl rfl rfl (R_load rfl sc23 rfl (mmD) rfl) ?_
  refine WM_val rfl rfl rfl rfl (R_sliceLH (m := 4) (h := 6) rfl Tryz.underlying23 Tryz.sizeOf5 rfl rfl rfl (by omega) (by have := own.le; omega)) ?_
  rw [if_neg (show ¬ c2 = 4 by have := own.le; have := hk.2; omega), show 6 - 4 = ((body.drop 4).take 2).length from by have := hk.2; simp; omega]
  refine WM_call rfl (Spec.quiet (value_ok (rd_sub (i := 4) (n := 2) hat) (by simp; omega))) rfl rfl rfl rfl rfl rfl rfl (pqD) ?_
  refine WM_val rfl rfl rfl rfl (R_conv (r := (valB ((body.drop 4).take 2) : Int)) rfl Tryz.underlying35 Tryz.underlying27 rfl (by have := val2_lt (body.drop 4); rw [wrap64_in (by omega) (by omega)])) ?_
  refine WM_val rfl rfl rfl rfl (R_fieldAddr rfl fa84_1 rfl) ?_
  refine WM_val rfl rfl rfl rfl (R_load rfl sc23 rfl (mmD) rfl) ?_
  refine WM_val rfl rfl rfl rfl (R_sliceFromK (m := 6) rfl Tryz.underlying23 Tryz.sizeOf5 rfl rfl (by have := hk.2; omega)) ?_
  refine WM_set (s := 37) (v := .slice (some ⟨wb, if c2 = 6 then 0 else 0 + 6 * 1, none⟩) (body.drop 6).length (c2 - 6)) rfl (by rw [List.length_drop]) ?_
  refine WM_val rfl rfl rfl rfl (R_makeFunc rfl rfl rfl) ?_
  refine WM_do rfl rfl rfl rfl (D_call (endA_ok hsort p _ _ _ _ _ _ _ h.cO h.eO hbc hbr _ (rd_from (m := 6) hat own.le) (fun e => by cases e) (by simp; omega) (isId ((valB (body.take 4)) : Int)) 43 [ptrC b2] [⟨some b2, cl [.int .i64 ((valB (body.take 4)) : Int)] 3⟩] (fun c => cid3_ok c b2 _)) rfl rfl rfl rfl (pqD)) ?_
  rintro _ _ ⟨_, ⟨cb9, cc9, ctl9, eb9, ek9, ec9, epre9, etl9, ns, wo, wc, wtl, W, hW, rfl, hWo, hns, hrs, hC9, hE9, rfl⟩, rfl⟩
  refine ⟨⟨_, pqD⟩, ?_⟩
  refine WM_nil ?_
  refine WQshp (A := rsH x.res ++ rsH ns) (A' := rsH (x.res ++ ns)) pqD (by rw [rsH_app]) ?_
  refine WQ_ret rfl rfl .nil rfl (by
      exact ⟨{ m with cb := cb9, cc := cc9, ctl := ctl9, eb := eb9, ek := ek9, ec := ec9, epre := epre9, etl := etl9 }, { x with calls := x.calls.filter (nq (isId ((valB (body.take 4)) : Int))), res := x.res ++ ns }, ⟨h.sd, hC9, hE9, rs_both h.rO hrs⟩, by simp only [Cl.v, PC.endW, List.map_append, hns, hW], rfl, rfl⟩) (pqD)
theorem hnd_bad {m : ClM} {x : Cl} (p bx : Nat) (h : ClIs m x) (hbc : x.calls.length ≤ 32) (hbr : x.res.length ≤ 100000) (hlast : x.s.last ≤ 1000000) (k : UInt8) (body : Bs) (h4 : 4 ≤ body.length) (hbl : body.length ≤ 1024) (v : Value) (o : Option Nat) (c2 : Nat) (tl : List Value) (own : Own o body.length c2 1 (bvs body) tl) (hstep : (x.v.step k body).2 ≠ 0) : PSpec Tryz.prog 38 [.agg #[.int .u8 (k.toNat : Int), slV o body.length c2], ptrC bx] ([⟨some p, cl [sVal m.sd.ob m.sd.ok x.s.out.length m.sd.oc, v, .int .i64 0, .int .i64 (x.s.last : Int), .int .i64 0, .int .u64 (x.now : Int), slV m.cb x.calls.length m.cc, sVal m.eb m.ek x.res.length m.ec, .bool x.closed] 40⟩] ++ ([⟨some bx, cl [ptrC p] 30⟩, oE m.sd x.s, caE m x, reE m x] ++ rsH x.res) ++ [⟨o, cl (bvs body ++ tl) 5⟩]) (errV (x.v.step k body).2)
    (fun H' => ∃ m' x', ClIs m' x' ∧ x'.v = (x.v.step k body).1 ∧ H' = [⟨some p, cl [sVal m'.sd.ob m'.sd.ok x'.s.out.length m'.sd.oc, v, .int .i64 0, .int .i64 (x'.s.last : Int), .int .i64 0, .int .u64 (x'.now : Int), slV m'.cb x'.calls.length m'.cc, sVal m'.eb m'.ek x'.res.length m'.ec, .bool x'.closed] 40⟩] ++ ([⟨some bx, cl [ptrC p] 30⟩, oE m'.sd x'.s, caE m' x', reE m' x'] ++ rsH x'.res)) := by
  rcases step_bad hstep with ⟨hk, hse⟩ | ⟨hk, hn, hse⟩
  · rw [hse]
    refine PSpec.of (E := [(0, .agg #[.int .u8 (k.toNat : Int), slV o body.length c2]), (1, ptrC bx)]) Tryz.func38 rfl (by kernel_rfl) Tryz.ntmps38 rfl rfl (fun w => ?_)
    refine WC_seq ?_
    refine WC_region ?_
    refine WL_do rfl rfl rfl (D_box (cs := [_, _]) rfl rfl rfl) ?_
    rintro _ _ ⟨b1, rfl, rfl⟩
    refine WL_nil ?_
    refine WQ_code ?_
    refine WC_seq ?_
    refine WC_region ?_
    refine WL_val rfl rfl rfl (R_fieldAddr rfl fa84_0 rfl) ?_
    by_cases hk1 : k = 17
    · refine WL_val rfl rfl rfl (R_load rfl sc5 rfl (mmD) rfl) ?_
      refine WL_val rfl rfl rfl (R_eql rfl rfl rfl) ?_
      refine WL_set (s := 6) (v := .bool true) rfl (by exact congrArg Value.bool (decide_eq_true (by rw [hk1]; rfl))) ?_
      refine WL_val rfl rfl rfl (R_move rfl rfl) ?_
      refine WL_val rfl rfl rfl (R_fieldAddr rfl fa84_1 rfl) ?_
      refine WL_val rfl rfl rfl (R_load rfl sc23 rfl (mmD) rfl) ?_
      refine WL_val rfl rfl rfl (R_len rfl Tryz.underlying23 rfl) ?_
      refine WL_val rfl rfl rfl (R_geq rfl rfl rfl) ?_
      refine WL_set (s := 11) (v := .bool false) rfl (by exact congrArg Value.bool (decide_eq_false (fun e => hk ⟨hk1, by omega⟩))) ?_
      refine WL_val rfl rfl rfl (R_pickT rfl rfl rfl) ?_
      refine WL_pcall rfl (must_bad _) rfl rfl rfl rfl (pqD) ?_
      rintro _ rfl
      refine WQ_pan rfl (by
          exact ⟨m, x, h, rfl, rfl⟩) (pqD)
    · refine WL_val rfl rfl rfl (R_load rfl sc5 rfl (mmD) rfl) ?_
      refine WL_val rfl rfl rfl (R_eql rfl rfl rfl) ?_
      refine WL_set (s := 6) (v := .bool false) rfl (by exact congrArg Value.bool (decide_eq_false (fun e => hk1 (u8_eq (b := 17) (by simpa using e))))) ?_
      refine WL_val rfl rfl rfl (R_move rfl rfl) ?_
      refine WL_skip rfl rfl rfl ?_
      refine WL_skip rfl rfl rfl ?_
      refine WL_skip rfl rfl rfl ?_
      refine WL_skip rfl rfl rfl ?_
      refine WL_val rfl rfl rfl (R_pickF rfl rfl rfl) ?_
      refine WL_pcall rfl (must_bad _) rfl rfl rfl rfl (pqD) ?_
      rintro _ rfl
      refine WQ_pan rfl (by
          exact ⟨m, x, h, rfl, rfl⟩) (pqD)
  · have hn : ¬ (0 < (valB (body.take 4)) ∧ (valB (body.take 4)) ≤ x.s.last) := hn
    have hv4 := val4_lt body
    rw [hse]
    refine PSpec.of (E := [(0, .agg #[.int .u8 (k.toNat : Int), slV o body.length c2]), (1, ptrC bx)]) Tryz.func38 rfl (by kernel_rfl) Tryz.ntmps38 rfl rfl (fun w => ?_)
    refine WC_seq ?_
    refine WC_region ?_
    refine WL_do rfl rfl rfl (D_box (cs := [_, _]) rfl rfl rfl) ?_
    rintro _ _ ⟨b1, rfl, rfl⟩
    refine WL_nil ?_
    refine WQ_code ?_
    refine WC_seq ?_
    refine WC_region ?_
    refine WL_val rfl rfl rfl (R_fieldAddr rfl fa84_0 rfl) ?_
    refine WL_val rfl rfl rfl (R_load rfl sc5 rfl (mmD) rfl) ?_
    refine WL_val rfl rfl rfl (R_eql rfl rfl rfl) ?_
    refine WL_set (s := 6) (v := .bool true) rfl (by exact congrArg Value.bool (decide_eq_true (by rw [hk.1]; rfl))) ?_
    refine WL_val rfl rfl rfl (R_move rfl rfl) ?_
    refine WL_val rfl rfl rfl (R_fieldAddr rfl fa84_1 rfl) ?_
    refine WL_val rfl rfl rfl (R_load rfl sc23 rfl (mmD) rfl) ?_
    refine WL_val rfl rfl rfl (R_len rfl Tryz.underlying23 rfl) ?_
    refine WL_val rfl rfl rfl (R_geq rfl rfl rfl) ?_
    refine WL_set (s := 11) (v := .bool true) rfl (by exact congrArg Value.bool (decide_eq_true (by have := hk.2; omega))) ?_
    refine WL_val rfl rfl rfl (R_pickT rfl rfl rfl) ?_
    refine WL_do rfl rfl rfl (D_call (must_ok _) rfl rfl rfl rfl (pqD)) ?_
    rintro _ _ ⟨_, ⟨rfl, rfl⟩, rfl⟩
    refine WL_nil ?_
    refine WQ_code ?_
    refine WC_seq ?_
    refine WC_region ?_
    refine WL_val rfl rfl rfl (R_fieldAddr rfl fa84_1 rfl) ?_
    refine WL_val rfl rfl rfl (R_load rfl sc23 rfl (mmD) rfl) ?_
    refine WL_do rfl rfl rfl (D_call (number_ok (RdB.own own) h4 (by omega) own.le) rfl rfl rfl rfl (pqD)) ?_
    rintro _ _ ⟨_, ⟨rfl, rfl⟩, rfl⟩
    refine WL_do rfl rfl rfl (D_alloc rfl zv3) ?_
    rintro _ _ ⟨b2, rfl, rfl⟩
    refine WL_do0 rfl rfl (D_store (vs := [_]) rfl Tryz.sizeOf3 rfl rfl rfl rfl rfl (plD) (by exact Nat.le_of_ble_eq_true rfl)) ?_
    rintro _ _ rfl
    refine WL_nil ?_
    refine WQ_code ?_
    refine WC_seq ?_
    refine WC_draw _ [(0, true), (1, true), (2, true), (3, true), (4, true), (5, true), (6, true), (7, true), (8, true), (9, true), (10, true), (11, false)] followsMixed rfl rfl (by kernel_rfl) .all ?_
    by_cases hn1 : 0 < (valB (body.take 4))
    · refine WM_val rfl rfl rfl rfl (R_load rfl sc3 rfl (mmD) rfl) ?_
      refine WM_val rfl rfl rfl rfl (R_gtr rfl rfl rfl) ?_
      refine WM_set (s := 18) (v := .bool true) rfl (by exact congrArg Value.bool (decide_eq_true (by omega))) ?_
      refine WM_val rfl rfl rfl rfl (R_move rfl rfl) ?_
      refine WM_val rfl rfl rfl rfl (R_load rfl sc3 rfl (mmD) rfl) ?_
      refine WM_val rfl rfl rfl rfl (R_load rfl sc30 rfl (mmD) rfl) ?_
      refine WM_val rfl rfl rfl rfl (R_nilCheck rfl rfl) ?_
      refine WM_val rfl rfl rfl rfl (R_fieldAddr rfl fa40_0 rfl) ?_
      refine WM_val rfl rfl rfl rfl (R_fieldAddr rfl fa34_2 rfl) ?_
      refine WM_val rfl rfl rfl rfl (R_load rfl sc3 rfl (mmD) rfl) ?_
      refine WM_val rfl rfl rfl rfl (R_leq rfl rfl rfl) ?_
      refine WM_set (s := 26) (v := .bool false) rfl (by exact congrArg Value.bool (decide_eq_false (fun e => hn ⟨hn1, by omega⟩))) ?_
      refine WM_val rfl rfl rfl rfl (R_pickT rfl rfl rfl) ?_
      refine WM_pcall rfl rfl (must_bad _) rfl rfl rfl rfl (pqD) ?_
      rintro _ rfl
      refine WQ_pan rfl (by
          exact ⟨m, x, h, rfl, rfl⟩) (pqD)
    · refine WM_val rfl rfl rfl rfl (R_load rfl sc3 rfl (mmD) rfl) ?_
      refine WM_val rfl rfl rfl rfl (R_gtr rfl rfl rfl) ?_
      refine WM_set (s := 18) (v := .bool false) rfl (by exact congrArg Value.bool (decide_eq_false (by omega))) ?_
      refine WM_val rfl rfl rfl rfl (R_move rfl rfl) ?_
      refine WM_skip rfl rfl rfl rfl ?_
      refine WM_skip rfl rfl rfl rfl ?_
      refine WM_skip rfl rfl rfl rfl ?_
      refine WM_skip rfl rfl rfl rfl ?_
      refine WM_skip rfl rfl rfl rfl ?_
      refine WM_skip rfl rfl rfl rfl ?_
      refine WM_skip rfl rfl rfl rfl ?_
      refine WM_val rfl rfl rfl rfl (R_pickF rfl rfl rfl) ?_
      refine WM_pcall rfl rfl (must_bad _) rfl rfl rfl rfl (pqD) ?_
      rintro _ rfl
      refine WQ_pan rfl (by
          exact ⟨m, x, h, rfl, rfl⟩) (pqD)
end Go.Proofs.YtkcfgglmlogjbaaGreat
end
section
set_option linter.unusedVariables false
set_option maxRecDepth 20000
set_option maxHeartbeats 4000000
namespace Go.Proofs.YtkcfgglmlogjbaaGreat
def PI (q : PC) : Prop := q.calls.length ≤ 32 ∧ q.calls.length + q.res.length ≤ 100000 ∧ q.last ≤ 1000000
theorem flt_part (q : Ca → Bool) : ∀ l : List Ca, (l.filter q).length + (l.filter (nq q)).length = l.length
  | [] => rfl
  | c :: r => by
    have ih := flt_part q r
    by_cases hq : q c = true
    · rw [List.filter_cons_of_pos hq, List.filter_cons_of_neg (by simp [nq, hq]), List.length_cons, List.length_cons]; omega
    · rw [List.filter_cons_of_neg hq, List.filter_cons_of_pos (by simp [nq, hq]), List.length_cons, List.length_cons]; omega
theorem endW_tot (x : PC) (q : Ca → Bool) (code : Int) (body : Bs) : (x.endW q code body).calls.length ≤ x.calls.length ∧ (x.endW q code body).calls.length + (x.endW q code body).res.length = x.calls.length + x.res.length := by
  have h := flt_part q x.calls
  have h2 := (overC_perm q code x.calls).length_eq
  unfold PC.endW
  simp only [List.length_append, List.length_map]
  omega
theorem PI.step {x : PC} (h : PI x) (k : UInt8) (body : Bs) : PI (x.step k body).1 := by
  unfold PC.step
  split
  · exact h
  · split
    · exact h
    · obtain ⟨h1, h2⟩ := endW_tot x (isId ((valB (body.take 4)) : Int)) (valB ((body.drop 4).take 2) : Int) (body.drop 6)
      exact ⟨Nat.le_trans h1 h.1, by show _ + _ ≤ _; rw [h2]; exact h.2.1, h.2.2⟩
structure CG where
  m : ClM
  x : Cl
theorem rcvC_ok (hsort : CSortOk) {m : ClM} {x : Cl} (p bx : Nat) (h : ClIs m x) (hI : PI x.v) {l : Bs} {oa : Option Addr} {ent : Ent} {c0 : Nat} (hr : RdB oa ent l) (hl : l.length ≤ 65536) {bs : Bs} {ob : Option Nat} {k c : Nat} {pre tl : List Value} (hO : OwnS ob k bs.length c 1 pre (bvs bs) tl) (hfit : bs.length + l.length ≤ 65536) :
    Spec Tryz.prog 36 [ptrC p, .slice oa l.length c0, .func (.func 38) #[] #[ptrC bx]] ([⟨some p, cl [sVal m.sd.ob m.sd.ok x.s.out.length m.sd.oc, (sVal ob k bs.length c), .int .i64 0, .int .i64 (x.s.last : Int), .int .i64 0, .int .u64 (x.now : Int), slV m.cb x.calls.length m.cc, sVal m.eb m.ek x.res.length m.ec, .bool x.closed] 40⟩] ++ [⟨ob, cl (pre ++ (bvs bs ++ tl)) 5⟩] ++ ([⟨some bx, cl [ptrC p] 30⟩, oE m.sd x.s, caE m x, reE m x] ++ rsH x.res) ++ [ent])
      (fun r H' => ∃ m' x' ob' k' c' pre' tl', ClIs m' x' ∧ PI x'.v ∧ x'.v = (rcvN PC.step (bs.length + l.length + 1) x.v (bs ++ l)).1 ∧ r = .int .i64 (rcvN PC.step (bs.length + l.length + 1) x.v (bs ++ l)).2.2.2 ∧ OwnS ob' k' (rcvN PC.step (bs.length + l.length + 1) x.v (bs ++ l)).2.1.length c' 1 pre' (bvs (rcvN PC.step (bs.length + l.length + 1) x.v (bs ++ l)).2.1) tl' ∧
        H' = [⟨some p, cl [sVal m'.sd.ob m'.sd.ok x'.s.out.length m'.sd.oc, (sVal ob' k' (rcvN PC.step (bs.length + l.length + 1) x.v (bs ++ l)).2.1.length c'), .int .i64 (rcvN PC.step (bs.length + l.length + 1) x.v (bs ++ l)).2.2.1, .int .i64 (x'.s.last : Int), .int .i64 (rcvN PC.step (bs.length + l.length + 1) x.v (bs ++ l)).2.2.2, .int .u64 (x'.now : Int), slV m'.cb x'.calls.length m'.cc, sVal m'.eb m'.ek x'.res.length m'.ec, .bool x'.closed] 40⟩] ++ [⟨ob', cl (pre' ++ (bvs (rcvN PC.step (bs.length + l.length + 1) x.v (bs ++ l)).2.1 ++ tl')) 5⟩] ++ ([⟨some bx, cl [ptrC p] 30⟩, oE m'.sd x'.s, caE m' x', reE m' x'] ++ rsH x'.res) ++ [ent]) := by
  refine (receive_ok (S := CG) (Q := PC) p 40 (fun s => sVal s.m.sd.ob s.m.sd.ok s.x.s.out.length s.m.sd.oc) (fun s => .int .i64 (s.x.s.last : Int)) (fun s => [.int .u64 (s.x.now : Int), slV s.m.cb s.x.calls.length s.m.cc, sVal s.m.eb s.m.ek s.x.res.length s.m.ec, .bool s.x.closed])
    (fun s => [⟨some bx, cl [ptrC p] 30⟩, oE s.m.sd s.x.s, caE s.m s.x, reE s.m s.x] ++ rsH s.x.res) (fun _ s => ClIs s.m s.x ∧ PI s.x.v) (fun s => s.x.v) PC.step 38 [] [ptrC bx] (fun _ _ _ h => h) ?_ ?_ hr ⟨m, x⟩ ⟨h, hI⟩ hO hl hfit).mono ?_
  · rintro ⟨m, x⟩ k body n ⟨h, hI⟩ h4 h10 hs v o c2 tl own
    refine (hnd_ok hsort p bx h hI.1 (by have h9 := hI.2.1; simp only [Cl.v, List.length_map] at h9; show x.res.length ≤ _; omega) hI.2.2 k body h4 h10 v o c2 tl own hs).mono ?_
    rintro r H' ⟨m', x', g1, g2, g3, g4⟩
    exact ⟨⟨m', x'⟩, ⟨g1, by show PI x'.v; rw [g2]; exact hI.step k body⟩, g2, g3, g4⟩
  · rintro ⟨m, x⟩ k body n ⟨h, hI⟩ h4 h10 hs v o c2 tl own
    refine (hnd_bad p bx h hI.1 (by have h9 := hI.2.1; simp only [Cl.v, List.length_map] at h9; show x.res.length ≤ _; omega) hI.2.2 k body h4 h10 v o c2 tl own hs).mono ?_
    rintro H' ⟨m', x', g1, g2, g4⟩
    exact ⟨⟨m', x'⟩, ⟨g1, by show PI x'.v; rw [g2]; exact hI.step k body⟩, g2, g4⟩
  · rintro r H' ⟨⟨m', x'⟩, ob', k', c', pre', tl', ⟨g1, g2⟩, g3, g4, g5, g6⟩
    exact ⟨m', x', ob', k', c', pre', tl', g1, g2, g3, g4, g5, g6⟩
end Go.Proofs.YtkcfgglmlogjbaaGreat
end
section
set_option linter.unusedVariables false
set_option maxRecDepth 20000
set_option maxHeartbeats 4000000
namespace Go.Proofs.YtkcfgglmlogjbaaGreat
theorem recv_closed {m : ClM} {x : Cl} (h : ClIs m x) (hb : ClB x) {l : Bs} {oa : Option Addr} {ent : Ent} {c0 : Nat} (hr : RdB oa ent l) (hl : l.length ≤ 65536) (hcl : x.closed = true) : Spec Tryz.prog 18 [ptrC m.p, .slice oa l.length c0] (clH m x ++ [ent]) (fun r H' => ∃ m' x', m'.p = m.p ∧ ClIs m' x' ∧ x'.v = (x.v, 8).1 ∧ r = .int .i64 (x.v, 8).2 ∧ H' = clH m' x' ++ [ent]) := by
  refine Spec.of (E := [(0, ptrC m.p), (1, .slice oa l.length c0)]) Tryz.func18 rfl (by kernel_rfl) Tryz.ntmps18 rfl rfl (fun w => ?_)
  refine WC_seq ?_
  refine WC_region ?_
  refine WL_do rfl rfl rfl (D_box (cs := [_]) rfl rfl rfl) ?_
  rintro _ _ ⟨b1, rfl, rfl⟩
  refine WL_val rfl rfl rfl (R_assign rfl rfl) ?_
  refine WL_nil ?_
  refine WQ_code ?_
  refine WC_seq ?_
  refine WC_block ?_
  refine WC_seq ?_
  refine WC_region ?_
  refine WL_val rfl rfl rfl (R_load rfl sc30 rfl (mmD) rfl) ?_
  refine WL_val rfl rfl rfl (R_ptrEqNil rfl Tryz.underlying30 rfl) ?_
  refine WL_val rfl rfl rfl (R_assign rfl rfl) ?_
  refine WL_nil ?_
  refine WQ_code ?_
  refine WC_F rfl ?_
  refine WC_seq ?_
  refine WC_region ?_
  refine WL_val rfl rfl rfl (R_load rfl sc30 rfl (mmD) rfl) ?_
  refine WL_val rfl rfl rfl (R_nilCheck rfl rfl) ?_
  refine WL_val rfl rfl rfl (R_fieldAddr rfl fa40_4 rfl) ?_
  refine WL_val rfl rfl rfl (R_load rfl sc4 rfl (mmD) rfl) ?_
  refine WL_val rfl rfl rfl (R_assign rfl rfl) ?_
  refine WL_set (s := 10) (v := .bool true) rfl (by rw [hcl]) ?_
  refine WL_nil ?_
  refine WQ_code ?_
  refine WC_T rfl ?_
  refine WC_seq ?_
  refine WC_region ?_
  refine WL_val rfl rfl rfl (R_assign rfl rfl) ?_
  refine WL_nil ?_
  refine WQ_code ?_
  refine WC_ret ?_
  refine WQ_ret rfl rfl (.cons (.tmp rfl) .nil) rfl (by
      exact ⟨m, x, rfl, h, rfl, rfl, rfl⟩) (pqD)
theorem recv_broken {m : ClM} {x : Cl} (h : ClIs m x) (hb : ClB x) {l : Bs} {oa : Option Addr} {ent : Ent} {c0 : Nat} (hr : RdB oa ent l) (hl : l.length ≤ 65536) (hcl : x.closed = false) (hst : x.s.br ≠ 0) : Spec Tryz.prog 18 [ptrC m.p, .slice oa l.length c0] (clH m x ++ [ent]) (fun r H' => ∃ m' x', m'.p = m.p ∧ ClIs m' x' ∧ x'.v = (x.v, 8).1 ∧ r = .int .i64 (x.v, 8).2 ∧ H' = clH m' x' ++ [ent]) := by
  refine Spec.of (E := [(0, ptrC m.p), (1, .slice oa l.length c0)]) Tryz.func18 rfl (by kernel_rfl) Tryz.ntmps18 rfl rfl (fun w => ?_)
  refine WC_seq ?_
  refine WC_region ?_
  refine WL_do rfl rfl rfl (D_box (cs := [_]) rfl rfl rfl) ?_
  rintro _ _ ⟨b1, rfl, rfl⟩
  refine WL_val rfl rfl rfl (R_assign rfl rfl) ?_
  refine WL_nil ?_
  refine WQ_code ?_
  refine WC_seq ?_
  refine WC_block ?_
  refine WC_seq ?_
  refine WC_region ?_
  refine WL_val rfl rfl rfl (R_load rfl sc30 rfl (mmD) rfl) ?_
  refine WL_val rfl rfl rfl (R_ptrEqNil rfl Tryz.underlying30 rfl) ?_
  refine WL_val rfl rfl rfl (R_assign rfl rfl) ?_
  refine WL_nil ?_
  refine WQ_code ?_
  refine WC_F rfl ?_
  refine WC_seq ?_
  refine WC_region ?_
  refine WL_val rfl rfl rfl (R_load rfl sc30 rfl (mmD) rfl) ?_
  refine WL_val rfl rfl rfl (R_nilCheck rfl rfl) ?_
  refine WL_val rfl rfl rfl (R_fieldAddr rfl fa40_4 rfl) ?_
  refine WL_val rfl rfl rfl (R_load rfl sc4 rfl (mmD) rfl) ?_
  refine WL_val rfl rfl rfl (R_assign rfl rfl) ?_
  refine WL_set (s := 10) (v := .bool false) rfl (by rw [hcl]) ?_
  refine WL_nil ?_
  refine WQ_code ?_
  refine WC_F rfl ?_
  refine WC_skip ?_
  refine WQ_code ?_
  refine WC_seq ?_
  refine WC_region ?_
  refine WL_val rfl rfl rfl (R_load rfl sc30 rfl (mmD) rfl) ?_
  refine WL_val rfl rfl rfl (R_nilCheck rfl rfl) ?_
  refine WL_val rfl rfl rfl (R_fieldAddr rfl fa40_0 rfl) ?_
  refine WL_val rfl rfl rfl (R_fieldAddr rfl fa34_3 rfl) ?_
  refine WL_val rfl rfl rfl (R_load rfl sc27 rfl (mmD) rfl) ?_
  refine WL_val rfl rfl rfl (R_assign rfl rfl) ?_
  refine WL_nil ?_
  refine WQ_code ?_
  refine WC_seq ?_
  refine WC_region ?_
  refine WL_val rfl rfl rfl (R_load rfl sc30 rfl (mmD) rfl) ?_
  refine WL_val rfl rfl rfl (R_nilCheck rfl rfl) ?_
  refine WL_val rfl rfl rfl (R_fieldAddr rfl fa40_0 rfl) ?_
  refine WL_val rfl rfl rfl (R_move rfl rfl) ?_
  refine WL_val rfl rfl rfl (R_makeFunc rfl rfl rfl) ?_
  refine WL_do rfl rfl rfl (D_call (rcv_broken m.p 40 _ _ _ _ _ _ hst) rfl rfl rfl rfl (pqD)) ?_
  rintro _ _ ⟨_, ⟨rfl, rfl⟩, rfl⟩
  refine WL_val rfl rfl rfl (R_assign rfl rfl) ?_
  refine WL_nil ?_
  refine WQ_code ?_
  refine WC_seq ?_
  refine WC_seq ?_
  refine WC_region ?_
  refine WL_val rfl rfl rfl (R_move rfl rfl) ?_
  refine WL_val rfl rfl rfl (R_eql rfl rfl rfl) ?_
  refine WL_set (s := 27) (v := .bool false) rfl (by exact congrArg Value.bool (decide_eq_false hst)) ?_
  refine WL_val rfl rfl rfl (R_move rfl rfl) ?_
  refine WL_skip rfl rfl rfl ?_
  refine WL_skip rfl rfl rfl ?_
  refine WL_skip rfl rfl rfl ?_
  refine WL_skip rfl rfl rfl ?_
  refine WL_skip rfl rfl rfl ?_
  refine WL_skip rfl rfl rfl ?_
  refine WL_val rfl rfl rfl (R_pickF rfl rfl rfl) ?_
  refine WL_nil ?_
  refine WQ_code ?_
  refine WC_F rfl ?_
  refine WC_skip ?_
  refine WQ_code ?_
  refine WC_seq ?_
  refine WC_region ?_
  refine WL_val rfl rfl rfl (R_move rfl rfl) ?_
  refine WL_val rfl rfl rfl (R_assign rfl rfl) ?_
  refine WL_nil ?_
  refine WQ_code ?_
  refine WC_ret ?_
  refine WQ_ret rfl rfl (.cons (.tmp rfl) .nil) rfl (by
      exact ⟨m, x, rfl, h, rfl, rfl, rfl⟩) (pqD)
theorem recv_full {m : ClM} {x : Cl} (h : ClIs m x) (hb : ClB x) {l : Bs} {oa : Option Addr} {ent : Ent} {c0 : Nat} (hr : RdB oa ent l) (hl : l.length ≤ 65536) (hcl : x.closed = false) (hst : x.s.br = 0) (hfull : 65536 < x.s.bs.length + l.length) : Spec Tryz.prog 18 [ptrC m.p, .slice oa l.length c0] (clH m x ++ [ent]) (fun r H' => ∃ m' x', m'.p = m.p ∧ ClIs m' x' ∧ x'.v = (x.v, 7).1 ∧ r = .int .i64 (x.v, 7).2 ∧ H' = clH m' x' ++ [ent]) := by
  have hbb := hb.bs
  have hrb := hb.rb hst
  obtain ⟨⟨out, bs, rb, last, br⟩, now, calls, res, closed⟩ := x
  simp only at hcl hst hrb
  subst hcl hst hrb
  refine Spec.of (E := [(0, ptrC m.p), (1, .slice oa l.length c0)]) Tryz.func18 rfl (by kernel_rfl) Tryz.ntmps18 rfl rfl (fun w => ?_)
  refine WC_seq ?_
  refine WC_region ?_
  refine WL_do rfl rfl rfl (D_box (cs := [_]) rfl rfl rfl) ?_
  rintro _ _ ⟨b1, rfl, rfl⟩
  refine WL_val rfl rfl rfl (R_assign rfl rfl) ?_
  refine WL_nil ?_
  refine WQ_code ?_
  refine WC_seq ?_
  refine WC_block ?_
  refine WC_seq ?_
  refine WC_region ?_
  refine WL_val rfl rfl rfl (R_load rfl sc30 rfl (mmD) rfl) ?_
  refine WL_val rfl rfl rfl (R_ptrEqNil rfl Tryz.underlying30 rfl) ?_
  refine WL_val rfl rfl rfl (R_assign rfl rfl) ?_
  refine WL_nil ?_
  refine WQ_code ?_
  refine WC_F rfl ?_
  refine WC_seq ?_
  refine WC_region ?_
  refine WL_val rfl rfl rfl (R_load rfl sc30 rfl (mmD) rfl) ?_
  refine WL_val rfl rfl rfl (R_nilCheck rfl rfl) ?_
  refine WL_val rfl rfl rfl (R_fieldAddr rfl fa40_4 rfl) ?_
  refine WL_val rfl rfl rfl (R_load rfl sc4 rfl (mmD) rfl) ?_
  refine WL_val rfl rfl rfl (R_assign rfl rfl) ?_
  refine WL_set (s := 10) (v := .bool false) rfl (by rfl) ?_
  refine WL_nil ?_
  refine WQ_code ?_
  refine WC_F rfl ?_
  refine WC_skip ?_
  refine WQ_code ?_
  refine WC_seq ?_
  refine WC_region ?_
  refine WL_val rfl rfl rfl (R_load rfl sc30 rfl (mmD) rfl) ?_
  refine WL_val rfl rfl rfl (R_nilCheck rfl rfl) ?_
  refine WL_val rfl rfl rfl (R_fieldAddr rfl fa40_0 rfl) ?_
  refine WL_val rfl rfl rfl (R_fieldAddr rfl fa34_3 rfl) ?_
  refine WL_val rfl rfl rfl (R_load rfl sc27 rfl (mmD) rfl) ?_
  refine WL_val rfl rfl rfl (R_assign rfl rfl) ?_
  refine WL_nil ?_
  refine WQ_code ?_
  refine WC_seq ?_
  refine WC_region ?_
  refine WL_val rfl rfl rfl (R_load rfl sc30 rfl (mmD) rfl) ?_
  refine WL_val rfl rfl rfl (R_nilCheck rfl rfl) ?_
  refine WL_val rfl rfl rfl (R_fieldAddr rfl fa40_0 rfl) ?_
  refine WL_val rfl rfl rfl (R_move rfl rfl) ?_
  refine WL_val rfl rfl rfl (R_makeFunc rfl rfl rfl) ?_
  refine WL_do rfl rfl rfl (D_call (rcv_full m.p 40 _ _ _ h.sd.iO (by omega) hbb hfull) rfl rfl rfl rfl (pqD)) ?_
  rintro _ _ ⟨_, ⟨rfl, rfl⟩, rfl⟩
  refine WL_val rfl rfl rfl (R_assign rfl rfl) ?_
  refine WL_nil ?_
  refine WQ_code ?_
  refine WC_seq ?_
  refine WC_seq ?_
  refine WC_region ?_
  refine WL_val rfl rfl rfl (R_move rfl rfl) ?_
  refine WL_val rfl rfl rfl (R_eql rfl rfl rfl) ?_
  refine WL_set (s := 27) (v := .bool true) rfl (by rfl) ?_
  refine WL_val rfl rfl rfl (R_move rfl rfl) ?_
  refine WL_val rfl rfl rfl (R_load rfl sc30 rfl (mmD) rfl) ?_
  refine WL_val rfl rfl rfl (R_nilCheck rfl rfl) ?_
  refine WL_val rfl rfl rfl (R_fieldAddr rfl fa40_0 rfl) ?_
  refine WL_val rfl rfl rfl (R_fieldAddr rfl fa34_3 rfl) ?_
  refine WL_val rfl rfl rfl (R_load rfl sc27 rfl (mmD) rfl) ?_
  refine WL_val rfl rfl rfl (R_neq rfl rfl rfl) ?_
  refine WL_set (s := 34) (v := .bool false) rfl (by rfl) ?_
  refine WL_val rfl rfl rfl (R_pickT rfl rfl rfl) ?_
  refine WL_nil ?_
  refine WQ_code ?_
  refine WC_F rfl ?_
  refine WC_skip ?_
  refine WQ_code ?_
  refine WC_seq ?_
  refine WC_region ?_
  refine WL_val rfl rfl rfl (R_move rfl rfl) ?_
  refine WL_val rfl rfl rfl (R_assign rfl rfl) ?_
  refine WL_nil ?_
  refine WQ_code ?_
  refine WC_ret ?_
  refine WQ_ret rfl rfl (.cons (.tmp rfl) .nil) rfl (by
      exact ⟨m, _, rfl, h, rfl, rfl, rfl⟩) (pqD)
theorem recv_do {m : ClM} {x : Cl} (h : ClIs m x) (hb : ClB x) {l : Bs} {oa : Option Addr} {ent : Ent} {c0 : Nat} (hr : RdB oa ent l) (hl : l.length ≤ 65536) (hsort : CSortOk) (hcl : x.closed = false) (hst : x.s.br = 0) (hfit : ¬ 65536 < x.s.bs.length + l.length) : Spec Tryz.prog 18 [ptrC m.p, .slice oa l.length c0] (clH m x ++ [ent]) (fun r H' => ∃ m' x', m'.p = m.p ∧ ClIs m' x' ∧ x'.v = (x.v.recv l).1 ∧ r = .int .i64 (x.v.recv l).2 ∧ H' = clH m' x' ++ [ent]) := by
  have hrb := hb.rb hst
  have hPI : PI ({ x with s := { x.s with bs := [], rb := 0, br := 0 } } : Cl).v := ⟨hb.calls, by show _ + _ ≤ _; simp only [Cl.v, List.length_map]; exact hb.res, hb.last⟩
  obtain ⟨⟨out, bs, rb, last, br⟩, now, calls, res, closed⟩ := x
  simp only at hcl hst hrb hPI
  subst hcl hst hrb
  obtain ⟨R, hR⟩ : ∃ R, R = rcvN PC.step (bs.length + l.length + 1) ({ out := out, bs := [], rb := 0, last := last, br := 0, now := now, calls := calls, res := res.map Rs.v, closed := false } : PC) (bs ++ l) := ⟨_, rfl⟩
  have hfit2 : ¬ 65536 < bs.length + l.length := hfit
  have hre : (⟨⟨out, bs, 0, last, 0⟩, now, calls, res, false⟩ : Cl).v.recv l = (if R.2.2.2 = 0 then ({ R.1 with bs := R.2.1, rb := R.2.2.1, br := R.2.2.2 } : PC) else ({ R.1 with bs := R.2.1, rb := R.2.2.1, br := R.2.2.2 } : PC).endW allQ 14 [], R.2.2.2) := by
    unfold PC.recv
    rw [if_neg (by simp [Cl.v]), if_neg (by exact hfit)]
    rw [hR]; rfl
  refine Spec.of (E := [(0, ptrC m.p), (1, .slice oa l.length c0)]) Tryz.func18 rfl (by kernel_rfl) Tryz.ntmps18 rfl rfl (fun w => ?_)
  refine WC_seq ?_
  refine WC_region ?_
  refine WL_do rfl rfl rfl (D_box (cs := [_]) rfl rfl rfl) ?_
  rintro _ _ ⟨b1, rfl, rfl⟩
  refine WL_val rfl rfl rfl (R_assign rfl rfl) ?_
  refine WL_nil ?_
  refine WQ_code ?_
  refine WC_seq ?_
  refine WC_block ?_
  refine WC_seq ?_
  refine WC_region ?_
  refine WL_val rfl rfl rfl (R_load rfl sc30 rfl (mmD) rfl) ?_
  refine WL_val rfl rfl rfl (R_ptrEqNil rfl Tryz.underlying30 rfl) ?_
  refine WL_val rfl rfl rfl (R_assign rfl rfl) ?_
  refine WL_nil ?_
  refine WQ_code ?_
  refine WC_F rfl ?_
  refine WC_seq ?_
  refine WC_region ?_
  refine WL_val rfl rfl rfl (R_load rfl sc30 rfl (mmD) rfl) ?_
  refine WL_val rfl rfl rfl (R_nilCheck rfl rfl) ?_
  refine WL_val rfl rfl rfl (R_fieldAddr rfl fa40_4 rfl) ?_
  refine WL_val rfl rfl rfl (R_load rfl sc4 rfl (mmD) rfl) ?_
  refine WL_val rfl rfl rfl (R_assign rfl rfl) ?_
  refine WL_set (s := 10) (v := .bool false) rfl (by rfl) ?_
  refine WL_nil ?_
  refine WQ_code ?_
  refine WC_F rfl ?_
  refine WC_skip ?_
  refine WQ_code ?_
  refine WC_seq ?_
  refine WC_region ?_
  refine WL_val rfl rfl rfl (R_load rfl sc30 rfl (mmD) rfl) ?_
  refine WL_val rfl rfl rfl (R_nilCheck rfl rfl) ?_
  refine WL_val rfl rfl rfl (R_fieldAddr rfl fa40_0 rfl) ?_
  refine WL_val rfl rfl rfl (R_fieldAddr rfl fa34_3 rfl) ?_
  refine WL_val rfl rfl rfl (R_load rfl sc27 rfl (mmD) rfl) ?_
  refine WL_val rfl rfl rfl (R_assign rfl rfl) ?_
  refine WL_nil ?_
  refine WQ_code ?_
  refine WC_seq ?_
  refine WC_region ?_
  refine WL_val rfl rfl rfl (R_load rfl sc30 rfl (mmD) rfl) ?_
  refine WL_val rfl rfl rfl (R_nilCheck rfl rfl) ?_
  refine WL_val rfl rfl rfl (R_fieldAddr rfl fa40_0 rfl) ?_
  refine WL_val rfl rfl rfl (R_move rfl rfl) ?_
  refine WL_val rfl rfl rfl (R_makeFunc rfl rfl rfl) ?_
  refine WL_do rfl rfl rfl (D_call (rcvC_ok hsort (m := { m with sd := { m.sd with ib := none, ik := 0, ic := 0, ip := [], it := [] } }) (x := ⟨⟨out, [], 0, last, 0⟩, now, calls, res, false⟩) m.p b1 ⟨⟨h.sd.oO, OwnS.empty 1⟩, h.cO, h.eO, h.rO⟩ hPI hr hl h.sd.iO (by omega)) rfl rfl rfl rfl (pqD)) ?_
  rintro _ _ ⟨_, ⟨m', x', ob', k', c', pre', tl', g1, gI, g2, rfl, g4, rfl⟩, rfl⟩
  rw [show (⟨⟨out, [], 0, last, 0⟩, now, calls, res, false⟩ : Cl).v = (⟨out, [], 0, last, 0, now, calls, res.map Rs.v, false⟩ : PC) from rfl, ← hR] at g2 g4 ⊢
  refine WL_val rfl rfl rfl (R_assign rfl rfl) ?_
  refine WL_nil ?_
  refine WQ_code ?_
  refine WC_seq ?_
  refine WC_seq ?_
  refine WC_region ?_
  refine WL_val rfl rfl rfl (R_move rfl rfl) ?_
  refine WL_val rfl rfl rfl (R_eql rfl rfl rfl) ?_
  refine WL_set (s := 27) (v := .bool true) rfl (by rfl) ?_
  refine WL_val rfl rfl rfl (R_move rfl rfl) ?_
  by_cases hz : R.2.2.2 = 0
  · refine WL_val rfl rfl rfl (R_load rfl sc30 rfl (mmD) rfl) ?_
    refine WL_val rfl rfl rfl (R_nilCheck rfl rfl) ?_
    refine WL_val rfl rfl rfl (R_fieldAddr rfl fa40_0 rfl) ?_
    refine WL_val rfl rfl rfl (R_fieldAddr rfl fa34_3 rfl) ?_
    refine WL_val rfl rfl rfl (R_load rfl sc27 rfl (mmD) rfl) ?_
    refine WL_val rfl rfl rfl (R_neq rfl rfl rfl) ?_
    refine WL_set (s := 34) (v := .bool false) rfl (by exact congrArg Value.bool (decide_eq_false (fun e => e hz))) ?_
    refine WL_val rfl rfl rfl (R_pickT rfl rfl rfl) ?_
    refine WL_nil ?_
    refine WQ_code ?_
    refine WC_F rfl ?_
    refine WC_skip ?_
    refine WQ_code ?_
    refine WC_seq ?_
    refine WC_region ?_
    refine WL_val rfl rfl rfl (R_move rfl rfl) ?_
    refine WL_val rfl rfl rfl (R_assign rfl rfl) ?_
    refine WL_nil ?_
    refine WQ_code ?_
    refine WC_ret ?_
    refine WQ_ret rfl rfl (.cons (.tmp rfl) .nil) rfl (by
        exact ⟨{ m' with p := m.p, sd := { m'.sd with ib := ob', ik := k', ic := c', ip := pre', it := tl' } }, { x' with s := { x'.s with bs := R.2.1, rb := R.2.2.1, br := R.2.2.2 } }, rfl, ⟨⟨g1.sd.oO, g4⟩, g1.cO, g1.eO, g1.rO⟩, by rw [hre, if_pos hz, ← g2]; rfl, by rw [hre]; rfl, rfl⟩) (pqD)
  · refine WL_val rfl rfl rfl (R_load rfl sc30 rfl (mmD) rfl) ?_
    refine WL_val rfl rfl rfl (R_nilCheck rfl rfl) ?_
    refine WL_val rfl rfl rfl (R_fieldAddr rfl fa40_0 rfl) ?_
    refine WL_val rfl rfl rfl (R_fieldAddr rfl fa34_3 rfl) ?_
    refine WL_val rfl rfl rfl (R_load rfl sc27 rfl (mmD) rfl) ?_
    refine WL_val rfl rfl rfl (R_neq rfl rfl rfl) ?_
    refine WL_set (s := 34) (v := .bool true) rfl (by exact congrArg Value.bool (decide_eq_true hz)) ?_
    refine WL_val rfl rfl rfl (R_pickT rfl rfl rfl) ?_
    refine WL_nil ?_
    refine WQ_code ?_
    refine WC_T rfl ?_
    refine WC_region ?_
    refine WL_none 5 ?_
    refine WL_val rfl rfl rfl (R_load rfl sc30 rfl (mmD) rfl) ?_
    refine WL_do rfl rfl rfl (D_call (endA_ok hsort m.p _ _ _ _ _ _ _ g1.cO g1.eO gI.1 (by have h9 := gI.2.1; simp only [Cl.v, List.length_map] at h9; omega) 14 (RdB.nil none ⟨none, cl [] 5⟩) (fun _ => rfl) (by simp) allQ 44 [] [] (fun c => call2_ok c)) rfl rfl rfl rfl (pqD)) ?_
    rintro _ _ ⟨_, ⟨cb9, cc9, ctl9, eb9, ek9, ec9, epre9, etl9, ns, wo, wc, wtl, W, hW, rfl, hWo, hns, hrs, hC9, hE9, rfl⟩, rfl⟩
    refine WL_nil ?_
    refine WQ_code ?_
    refine WC_seq ?_
    refine WC_region ?_
    refine WL_val rfl rfl rfl (R_move rfl rfl) ?_
    refine WL_val rfl rfl rfl (R_assign rfl rfl) ?_
    refine WL_nil ?_
    refine WQ_code ?_
    refine WC_ret ?_
    refine WQshp (A := rsH x'.res ++ rsH ns) (A' := rsH (x'.res ++ ns)) pqD (by rw [rsH_app]) ?_
    refine WQ_ret rfl rfl (.cons (.tmp rfl) .nil) rfl (by
        exact ⟨{ m' with p := m.p, sd := { m'.sd with ib := ob', ik := k', ic := c', ip := pre', it := tl' }, cb := cb9, cc := cc9, ctl := ctl9, eb := eb9, ek := ek9, ec := ec9, epre := epre9, etl := etl9 }, { x' with s := { x'.s with bs := R.2.1, rb := R.2.2.1, br := R.2.2.2 }, calls := x'.calls.filter (nq allQ), res := x'.res ++ ns }, rfl, ⟨⟨g1.sd.oO, g4⟩, hC9, hE9, rs_both g1.rO hrs⟩, by rw [hre, if_neg hz, ← g2]; simp only [Cl.v, PC.endW, List.map_append, hns, hW], by rw [hre]; rfl, rfl⟩) (pqD)
theorem recv_ok (hsort : CSortOk) {m : ClM} {x : Cl} (h : ClIs m x) (hb : ClB x) {l : Bs} {oa : Option Addr} {ent : Ent} {c0 : Nat} (hr : RdB oa ent l) (hl : l.length ≤ 65536) : Spec Tryz.prog 18 [ptrC m.p, .slice oa l.length c0] (clH m x ++ [ent]) (fun r H' => ∃ m' x', m'.p = m.p ∧ ClIs m' x' ∧ x'.v = (x.v.recv l).1 ∧ r = .int .i64 (x.v.recv l).2 ∧ H' = clH m' x' ++ [ent]) := by
  by_cases h1 : x.closed = true
  · rw [show x.v.recv l = (x.v, 8) from by unfold PC.recv; rw [if_pos (.inl h1)]]; exact recv_closed h hb hr hl h1
  have hcl : x.closed = false := by simpa using h1
  by_cases h2 : x.s.br = 0
  · by_cases h3 : 65536 < x.s.bs.length + l.length
    · rw [show x.v.recv l = (x.v, 7) from by unfold PC.recv; rw [if_neg (by simp [Cl.v, hcl, h2]), if_pos (by exact h3)]]; exact recv_full h hb hr hl hcl h2 h3
    · exact recv_do h hb hr hl hsort hcl h2 h3
  · rw [show x.v.recv l = (x.v, 8) from by unfold PC.recv; rw [if_pos (.inr h2)]]; exact recv_broken h hb hr hl hcl h2
end Go.Proofs.YtkcfgglmlogjbaaGreat
end
section
set_option linter.unusedVariables false
set_option linter.unusedSimpArgs false
namespace Go.Proofs.YtkcfgglmlogjbaaGreat
section
variable {X : Ctx} {E : Env} {H : Heap} {o : Oper}
/-- append(x, y...) where x's block has room: it stays where it is. -/
theorem D_appendFit {t e e2 : TypeId} {sz bytes n c m mc b b2 k2 : Nat} {zs xs tl cs2 news : List Value} {x y : Operand} {F : Heap}
    (ho : o.op = .call { callee := .builtin .append, args := #[x, y], argTypes := #[t, t] }) (hs : SI X.P t e sz bytes zs) (hx : ev E x = some (.slice (some ⟨b, 0, none⟩) n c)) (hp : Pull ⟨some b, cl (xs ++ tl) e⟩ H F) (hlx : xs.length = n * sz) (hcap : xs.length + tl.length = c * sz)
    (hy : ev E y = some (.slice (some ⟨b2, k2, none⟩) m mc)) (hm : (⟨some b2, cl cs2 e2⟩ : Ent) ∈ H) (hat : At cs2 k2 news) (hl : news.length = m * sz) (h1 : news.all Value.oneCell' = true) (hfit : n + m ≤ c) :
    Does X o E H (fun v H' => v = .slice (some ⟨b, 0, none⟩) (n + m) c ∧ H' = ⟨some b, cl (xs ++ news ++ tl.drop news.length) e⟩ :: F) := by
  intro a w ha hw next Q kk
  obtain ⟨g1, i, z, g2, g3, g4, g5, g6, g7, g8⟩ := hs
  refine ⟨about_true, ?_⟩
  rw [semAt_of (by rw [ho]; intro c e; cases e)]
  have hnews := cells_atG (fr := (0, 0)) hw hm hat
  have hexec : ∀ v w', (Builtin.append_ #[t, t] o.type #[.slice (some ⟨b, 0, none⟩) n c, .slice (some ⟨b2, k2, none⟩) m mc]).run X.P w = .ok v w' → (execOp a.eval o).run X.P w = .ok (.value v) w' := fun v w' h => by
    simp [execOp, ho, resolve, ha.eval hx, ha.eval hy, invoke, builtin, h]
  have hl' : news.length = m * i.size := by rw [g4]; exact hl
  have hb : w.heap[b]? = some (cl (xs ++ tl) e) := by
    have := hw.hok.ok _ (pull_mem hp)
    simpa [Ent.ok] using this
  have h5 := Nat.mul_le_mul_right sz hfit
  have hfc := run_firstCells_some (P := X.P) w i.size m ⟨b2, k2, none⟩ m mc news hl' hnews
  have hroom : n * sz + news.length ≤ (xs ++ tl).length := by rw [List.length_append, hcap, hl, ← Nat.add_mul]; exact h5
  obtain ⟨w', s1, s2, s3, s4, s5, s6, s7, s8⟩ := run_storeCells_at (P := X.P) (b := b) (e := e) (0 + n * i.size) news 0 (xs ++ tl) w hb (by rw [g4]; omega) (List.all_eq_true.1 h1)
  have hr : (Builtin.append_ #[t, t] o.type #[.slice (some ⟨b, 0, none⟩) n c, .slice (some ⟨b2, k2, none⟩) m mc]).run X.P w = .ok (.slice (some ⟨b, 0, none⟩) (n + m) c) w' := by
    simp only [Nat.zero_add] at s1
    simp [Builtin.append_, run_underlying g1, sizeOf, typeInfo, g2, Builtin.lenOf, hfit, hfc, add_at, s1]
  rw [hexec _ _ hr]
  have hput : putAt (xs ++ tl) (0 + n * i.size + 0) news = xs ++ news ++ tl.drop news.length := by
    rw [g4, ← hlx, Nat.zero_add, show xs.length + 0 = xs.length + 0 from rfl, putAt_append, putAt_eq _ _ _ (by rw [List.length_append] at hroom; omega)]
    simp
  refine kk _ _ _ ⟨rfl, rfl⟩ ?_
  rw [hput] at s3
  exact hw.turn hp s2 s3 s4 s5 s6 s7 s8
/-- x[l:h:m] -/
theorem R_slice4 {t u : TypeId} {x y z v : Operand} {b k n c sz l h m : Nat} {ky kz kv : IntKind} (ho : o.op = .slice t x (some y) (some z) (some v)) (hu : X.P.underlying t = some (.slice u)) (hs : ∀ w, (sizeOf u).run X.P w = .ok sz w)
    (hx : ev E x = some (.slice (some ⟨b, k, none⟩) n c)) (hy : ev E y = some (.int ky (l : Int))) (hz : ev E z = some (.int kz (h : Int))) (hv : ev E v = some (.int kv (m : Int))) (h1 : l ≤ h) (h2 : h ≤ m) (h3 : m ≤ c) :
    Runs X o E H (.slice (some (if m = l then ⟨b, k, none⟩ else ⟨b, k + l * sz, none⟩)) (h - l) (m - l)) :=
  ⟨(by rw [ho]; intro c e; cases e), fun a w ha _ => by
    simp [execOp, ho, ha.eval hx, ha.eval hy, ha.eval hz, ha.eval hv, Instr.sliceAt, Instr.slice, Instr.sliceBounds, Instr.sliceBound, asIntOf, run_underlying hu, hs w, h1, h2, h3]
    by_cases e : m = l <;> simp [e, Addr.add]⟩
/-- []byte("..") of a constant string: the bytes lie there; the block is marked. -/
theorem D_bytesConst {t e : TypeId} {x : Operand} {b k n c e2 : Nat} {cs : List Value} {F : Heap} (ho : o.op = .convert t t x) (ht : X.P.underlying t = some (.slice e)) (he : X.P.underlying e = some (.int .u8)) (hx : ev E x = some (.slice (some ⟨b, k, none⟩) n c)) (hp : Pull ⟨some b, cl cs e2⟩ H F) :
    Does X o E H (fun v H' => ∃ fr, v = .slice (some ⟨b, k, none⟩) n c ∧ H' = ⟨some b, .cells (List.toArray cs) e2 fr⟩ :: F) := by
  intro a w ha hw next Q kk
  refine ⟨about_true, ?_⟩
  rw [semAt_of (by rw [ho]; intro c e; cases e)]
  have hb : w.heap[b]? = some (.cells (List.toArray cs) e2 (0, 0)) := by
    have := hw.hok.ok _ (pull_mem hp)
    simpa [Ent.ok, cl] using this
  have hlt := (Array.getElem?_eq_some_iff.1 hb).1
  have hr : (convert t t (.slice (some ⟨b, k, none⟩) n c)).run X.P w = .ok (.slice (some ⟨b, k, none⟩) n c) (w.freeze ⟨b, cs.length, none⟩ 1) := by
    have hsh : w.shape? b = some (e2, cs.length) := by unfold World.shape?; rw [hb]; simp
    simp [convert, run_underlying ht, run_underlying he, markStringish, hsh]
  have hexec : (execOp a.eval o).run X.P w = .ok (.value (.slice (some ⟨b, k, none⟩) n c)) (w.freeze ⟨b, cs.length, none⟩ 1) := by
    simp [execOp, ho, ha.eval hx, hr]
  rw [hexec]
  refine kk _ _ _ ⟨(cs.length, cs.length + 1), rfl, rfl⟩ ?_
  refine hw.turn hp ?_ ?_ ?_ rfl rfl rfl
  · simp [World.freeze]
  · simp [World.freeze, Array.getElem?_modify, hb]
  · intro j hj
    have hj2 : b ≠ j := fun e => hj e.symm
    simp [World.freeze, Array.getElem?_modify, hj2]
end
end Go.Proofs.YtkcfgglmlogjbaaGreat
end
section
set_option linter.unusedVariables false
set_option linter.unusedSimpArgs false
namespace Go.Proofs.YtkcfgglmlogjbaaGreat
section
variable {X : Ctx} {E : Env} {H : Heap} {o : Oper}
theorem run_zeroValue {P : Program} {e : TypeId} {i : TypeInfo} {z : Value} (h1 : P.info? e = some i) (h2 : i.zero = some z) (w : World) : (zeroValue e).run P w = .ok z w := by
  simp [zeroValue, typeInfo, h1, h2]
/-- clear(x[k:]) -/
theorem D_clear {t e e2 : TypeId} {sz bytes b k n c : Nat} {zs cs : List Value} {x : Operand} {F : Heap} (ho : o.op = .call { callee := .builtin .clear, args := #[x], argTypes := #[t] }) (hs : SI X.P t e sz bytes zs) (h1 : ∀ v ∈ zs, v.oneCell' = true)
    (hx : ev E x = some (.slice (some ⟨b, k, none⟩) n c)) (hp : Pull ⟨some b, cl cs e2⟩ H F) (hk : n = 0 ∨ k + n * sz ≤ cs.length) :
    Does X o E H (fun _ H' => ∃ ns : List Value, ns.length = n * sz ∧ H' = ⟨some b, cl (putAt cs k ns) e2⟩ :: F) := by
  intro a w ha hw next Q kk
  obtain ⟨g1, i, z, g2, g3, g4, g5, g6, g7, g8⟩ := hs
  refine ⟨about_true, ?_⟩
  rw [semAt_of (by rw [ho]; intro c e; cases e)]
  have hb : w.heap[b]? = some (cl cs e2) := by
    have := (hw.perm hp.perm).hok.ok _ (List.mem_cons_self ..)
    simpa [Ent.ok] using this
  cases n with
  | zero =>
    have hrun : (execOp a.eval o).run X.P w = .ok (.value (.tuple #[])) w := by
      simp [execOp, ho, resolve, ha.eval hx, invoke, builtin, Builtin.clear_, run_underlying g1]
    rw [hrun]
    exact kk _ _ _ ⟨[], by simp, rfl⟩ (by rw [putAt_nil]; exact hw.perm hp.perm)
  | succ n =>
    have hk' : k + (n + 1) * sz ≤ cs.length := by
      rcases hk with e | e
      · cases e
      · exact e
    have hlen : (Builtin.zeroCells zs.toArray (n + 1)).toList.length = (n + 1) * sz := by rw [Array.length_toList, size_zeroCells, List.size_toArray, g7]
    have hall : ∀ v ∈ (Builtin.zeroCells zs.toArray (n + 1)).toList, v.oneCell' = true := fun v hv => by
      simp only [Builtin.zeroCells, Array.toList_map, List.mem_map] at hv
      obtain ⟨j, _, rfl⟩ := hv
      have hj : j % zs.toArray.size < zs.toArray.size := Nat.mod_lt _ (by rw [List.size_toArray, g7]; exact g8)
      rw [getElem!_pos zs.toArray _ hj]
      exact h1 _ (by simp)
    obtain ⟨w', s1, s2, s3, s4, s5, s6, s7, s8⟩ := run_storeCells_at (P := X.P) (b := b) (e := e2) k (Builtin.zeroCells zs.toArray (n + 1)).toList 0 cs w hb (by rw [hlen]; omega) hall
    have hrun : (execOp a.eval o).run X.P w = .ok (.value (.tuple #[])) w' := by
      simp [execOp, ho, resolve, ha.eval hx, invoke, builtin, Builtin.clear_, run_underlying g1, run_zeroValue g2 g3, g6, s1]
    rw [hrun]
    exact kk _ _ _ ⟨_, hlen, rfl⟩ (by rw [Nat.add_zero] at s3; exact hw.turn hp s2 s3 s4 s5 s6 s7 s8)
end
end Go.Proofs.YtkcfgglmlogjbaaGreat
end
section
set_option linter.unusedVariables false
set_option maxRecDepth 20000
set_option maxHeartbeats 2000000
namespace Go.Proofs.YtkcfgglmlogjbaaGreat
def eqI (id v : Int) : Bool := decide (id = v)
def delI (id : Int) : List Int → List Int
  | [] => []
  | x :: r => if id = x then r else x :: delI id r
theorem delI_at {id : Int} : ∀ {l : List Int} {k : Nat}, (∀ v ∈ l.take k, eqI id v = false) → l[k]? = some id → l.eraseIdx k = delI id l
  | [], k, _, hx => by simp at hx
  | y :: r, 0, _, hx => by simp at hx; subst hx; simp [delI]
  | y :: r, k + 1, h, hx => by
    have h1 : eqI id y = false := h y (by simp)
    have h1 : ¬ id = y := by simpa [eqI] using h1
    rw [delI, if_neg h1, List.eraseIdx_cons_succ, delI_at (fun v hv => h v (by simp [hv])) (by simpa using hx)]
theorem idxF_any (q : Int → Bool) : ∀ l : List Int, -1 ≤ idxF q l ∧ decide (0 ≤ idxF q l) = l.any q
  | [] => by simp [idxF]
  | y :: r => by
    obtain ⟨h1, h2⟩ := idxF_any q r
    rw [idxF, List.any_cons]
    by_cases e : q y = true
    · rw [if_pos e, e]; simp
    · have e2 : q y = false := by simpa using e
      rw [if_neg e, e2]
      by_cases e3 : idxF q r = -1
      · rw [if_pos e3, ← h2, e3]; simp
      · rw [if_neg e3, ← h2]
        refine ⟨by omega, ?_⟩
        rw [Bool.false_or]
        exact decide_eq_decide.2 (by omega)
theorem idxF_at (q : Int → Bool) : ∀ l : List Int, l.any q = true → ∃ (k : Nat) (x : Int), idxF q l = (k : Int) ∧ l[k]? = some x ∧ q x = true ∧ ∀ v ∈ l.take k, q v = false
  | [], h => by simp at h
  | y :: r, h => by
    by_cases e : q y = true
    · exact ⟨0, y, by rw [idxF, if_pos e]; rfl, rfl, e, by simp⟩
    · have e2 : q y = false := by simpa using e
      rw [List.any_cons, e2, Bool.false_or] at h
      obtain ⟨k, x, h1, h2, h3, h4⟩ := idxF_at q r h
      refine ⟨k + 1, x, ?_, by simpa using h2, h3, fun v hv => ?_⟩
      · rw [idxF, if_neg e, h1, if_neg (by omega)]; omega
      · rw [List.take_succ_cons] at hv
        rcases List.mem_cons.1 hv with rfl | hv
        · exact e2
        · exact h4 v hv
theorem iidx_ok {l : List Int} (hl : l.length ≤ 1000000) {o : Option Nat} {c : Nat} {tl : List Value} (own : Own o l.length c 1 (ivs l) tl) (id : Int) : Spec Tryz.prog 63 [slV o l.length c, .int .i64 id] [⟨o, cl (ivs l ++ tl) 3⟩] (fun r H' => r = .int .i64 (idxF (eqI id) l) ∧ H' = [⟨o, cl (ivs l ++ tl) 3⟩]) := by
  refine Spec.of (E := [(0, slV o l.length c), (1, .int .i64 id)]) Tryz.func63 rfl (by kernel_rfl) Tryz.ntmps63 rfl rfl (fun w => ?_)
  refine WC_seq ?_
  refine WC_region ?_
  refine WL_val rfl rfl rfl (R_assign rfl rfl) ?_
  refine WL_nil ?_
  refine WQ_code ?_
  refine WC_seq ?_
  refine WC_seq ?_
  refine WC_region ?_
  refine WL_val rfl rfl rfl (R_move rfl rfl) ?_
  refine WL_val rfl rfl rfl (R_len rfl Tryz.underlying42 rfl) ?_
  refine WL_val rfl rfl rfl (R_move rfl rfl) ?_
  refine WL_nil ?_
  refine WQ_code ?_
  refine WC_block ?_
  refine WC_loopF (G := Nat) [4, 5, 8, 9, 10, 11, 12, 13, 14, 15, 16, 17, 18] (fun y => y ≤ l.length ∧ ∀ v ∈ l.take y, eqI id v = false) (fun y => [(8, .int .i64 (y : Int))]) (fun y => []) (fun y => l.length - y) (0) (⟨Nat.zero_le _, by simp⟩) leZ (pqD) ?_
  rintro y ⟨hk, hz⟩
  refine WC_seq ?_
  refine WC_region ?_
  refine WL_val rfl rfl rfl (R_lss rfl rfl rfl) ?_
  refine WL_nil ?_
  refine WQ_code ?_
  refine WC_seq ?_
  refine WC_dec rfl (fun c1 => ?_) (fun c1 => ?_)
  · refine WC_skip ?_
    refine WQ_code ?_
    refine WC_seq ?_
    refine WC_block ?_
    refine WC_seq ?_
    refine WC_region ?_
    refine WL_val rfl rfl rfl (R_move rfl rfl) ?_
    refine WL_val rfl rfl rfl (R_assign rfl rfl) ?_
    refine WL_nil ?_
    refine WQ_code ?_
    refine WC_seq ?_
    refine WC_region ?_
    obtain ⟨x, hx⟩ := getE (T := l) (i := y) (by omega)
    obtain ⟨wa, hwa⟩ := own.some_of (by omega)
    refine WL_val rfl rfl rfl (R_move rfl rfl) ?_
    refine WL_val rfl rfl rfl (R_move rfl rfl) ?_
    refine WL_val rfl rfl rfl (R_move rfl rfl) ?_
    refine WL_val rfl rfl rfl (R_idxO hwa rfl Tryz.underlying42 Tryz.sizeOf3 rfl rfl (by omega)) ?_
    refine WL_val rfl rfl rfl (R_loadO (v := .int .i64 x) hwa rfl sc3 rfl (mmD) (fm_get0 encI1 hx (j := 0) (by omega))) ?_
    refine WL_val rfl rfl rfl (R_eql rfl rfl rfl) ?_
    refine WL_nil ?_
    refine WQ_code ?_
    refine WC_dec rfl (fun c2 => ?_) (fun c2 => ?_)
    · have hc := c2
      refine WC_seq ?_
      refine WC_region ?_
      refine WL_val rfl rfl rfl (R_move rfl rfl) ?_
      refine WL_val rfl rfl rfl (R_assign rfl rfl) ?_
      refine WL_nil ?_
      refine WQ_code ?_
      refine WC_ret ?_
      refine WQ_ret rfl rfl (.cons (.tmp rfl) .nil) rfl (by
          exact ⟨congrArg (Value.int .i64) (idxF_hit hz hx (decide_eq_true hc)).symm, rfl⟩) (pqD)
    · have hc := c2
      refine WC_skip ?_
      refine WQ_code ?_
      refine WC_region ?_
      refine WL_val rfl rfl rfl (R_add rfl rfl rfl (by omega)) ?_
      refine WL_val rfl rfl rfl (R_move rfl rfl) ?_
      refine WL_nil ?_
      refine WQ_nextF (y + 1) (⟨by omega, fun v hv => by rw [take_next hx] at hv; rcases List.mem_append.1 hv with hv | hv; exact hz v hv; rw [List.mem_singleton.1 hv]; exact decide_eq_false hc⟩) (by omega) leZ (psZ) rfl (pqD)
  · have hkl : l.length ≤ y := by omega
    refine WC_exit ?_
    refine WQ_code ?_
    refine WC_seq ?_
    refine WC_region ?_
    refine WL_val rfl rfl rfl (R_assign rfl rfl) ?_
    refine WL_nil ?_
    refine WQ_code ?_
    refine WC_ret ?_
    refine WQ_ret rfl rfl (.cons (.tmp rfl) .nil) rfl (by
        exact ⟨congrArg (Value.int .i64) (idxF_none (by rw [List.take_of_length_le hkl] at hz; exact hz)).symm, rfl⟩) (pqD)
theorem icon_ok {l : List Int} (hl : l.length ≤ 1000000) {o : Option Nat} {c : Nat} {tl : List Value} (own : Own o l.length c 1 (ivs l) tl) (id : Int) : Spec Tryz.prog 45 [slV o l.length c, .int .i64 id] [⟨o, cl (ivs l ++ tl) 3⟩] (fun r H' => r = .bool (l.any (eqI id)) ∧ H' = [⟨o, cl (ivs l ++ tl) 3⟩]) := by
  refine Spec.of (E := [(0, slV o l.length c), (1, .int .i64 id)]) Tryz.func45 rfl (by kernel_rfl) Tryz.ntmps45 rfl rfl (fun w => ?_)
  refine WC_seq ?_
  refine WC_region ?_
  refine WL_val rfl rfl rfl (R_assign rfl rfl) ?_
  refine WL_nil ?_
  refine WQ_code ?_
  refine WC_seq ?_
  refine WC_region ?_
  refine WL_val rfl rfl rfl (R_move rfl rfl) ?_
  refine WL_val rfl rfl rfl (R_move rfl rfl) ?_
  refine WL_do rfl rfl rfl (D_call (iidx_ok hl own id) rfl rfl rfl rfl (pqD)) ?_
  rintro _ _ ⟨_, ⟨rfl, rfl⟩, rfl⟩
  refine WL_val rfl rfl rfl (R_geq rfl rfl rfl) ?_
  refine WL_val rfl rfl rfl (R_assign rfl rfl) ?_
  refine WL_nil ?_
  refine WQ_code ?_
  refine WC_ret ?_
  refine WQ_ret rfl rfl (.cons (.tmp rfl) .nil) rfl (by
      exact ⟨congrArg Value.bool (idxF_any _ l).2, rfl⟩) (pqD)
theorem er_split {l : List Int} {k : Nat} (hk : k < l.length) : l.eraseIdx k = l.take k ++ l.drop (k + 1) := List.eraseIdx_eq_take_drop_succ ..
theorem idel_ok {l : List Int} (hl : l.length ≤ 1000000) {o : Option Nat} {c : Nat} {tl : List Value} (own : Own o l.length c 1 (ivs l) tl) (k : Nat) (hk : k < l.length) : Spec Tryz.prog 64 [slV o l.length c, .int .i64 (k : Int), .int .i64 ((k + 1 : Nat) : Int)] [⟨o, cl (ivs l ++ tl) 3⟩]
    (fun r H' => ∃ tl', r = slV o (l.eraseIdx k).length c ∧ Own o (l.eraseIdx k).length c 1 (ivs (l.eraseIdx k)) tl' ∧ H' = [⟨o, cl (ivs (l.eraseIdx k) ++ tl') 3⟩]) := by
  obtain ⟨wb, rfl⟩ := own.some_of (by omega)
  have hlc := own.le
  have hcap := own.cap
  rw [ivs_len] at hcap
  have hel : (l.eraseIdx k).length = l.length - 1 := by rw [List.length_eraseIdx_of_lt hk]
  have hiv : ivs l ++ tl = ivs (l.take k) ++ (ivs (l.drop k) ++ tl) := by rw [← List.append_assoc, ← List.flatMap_append, List.take_append_drop]
  have hat : At (ivs l ++ tl) (k + 1) (ivs (l.drop (k + 1))) := fun j v hj => by
    have hlt := (List.getElem?_eq_some_iff.1 hj).1
    rw [ivs_len, List.length_drop] at hlt
    rw [List.getElem?_append_left (by rw [ivs_len]; omega)]
    rw [show ivs l = ivs (l.take (k + 1)) ++ ivs (l.drop (k + 1)) from by rw [← List.flatMap_append, List.take_append_drop], List.getElem?_append_right (by rw [ivs_len, List.length_take]; omega)]
    rw [ivs_len, List.length_take, Nat.min_eq_left (by omega), show k + 1 + j - (k + 1) = j from by omega]
    exact hj
  have hat2 : At (ivs (l.take k) ++ (ivs (l.drop k) ++ tl)) (if c = k + 1 then 0 else 0 + (k + 1) * 1) (ivs (l.drop (k + 1))) := by
    by_cases e : c = k + 1
    · rw [if_pos e, List.drop_eq_nil_of_le (show l.length ≤ k + 1 by omega)]; exact fun j v h => by rw [show ivs ([] : List Int) = [] from rfl, List.getElem?_nil] at h; cases h
    · rw [if_neg e, Nat.zero_add, Nat.mul_one, ← hiv]; exact hat
  refine Spec.of (E := [(0, slV (some wb) l.length c), (1, .int .i64 (k : Int)), (2, .int .i64 ((k + 1 : Nat) : Int))]) Tryz.func64 rfl (by kernel_rfl) Tryz.ntmps64 rfl rfl (fun w => ?_)
  refine WC_seq ?_
  refine WC_region ?_
  refine WL_val rfl rfl rfl (R_assign rfl rfl) ?_
  refine WL_nil ?_
  refine WQ_code ?_
  refine WC_seq ?_
  refine WC_region ?_
  refine WL_val rfl rfl rfl (R_move rfl rfl) ?_
  refine WL_val rfl rfl rfl (R_move rfl rfl) ?_
  refine WL_val rfl rfl rfl (R_move rfl rfl) ?_
  refine WL_val rfl rfl rfl (R_move rfl rfl) ?_
  refine WL_val rfl rfl rfl (R_len rfl Tryz.underlying42 rfl) ?_
  refine WL_val rfl rfl rfl (R_slice4 (l := k) (h := k + 1) (m := l.length) rfl Tryz.underlying42 Tryz.sizeOf3 rfl rfl rfl rfl (by omega) (by omega) hlc) ?_
  refine WL_nil ?_
  refine WQ_code ?_
  refine WC_seq ?_
  refine WC_seq ?_
  refine WC_region ?_
  refine WL_val rfl rfl rfl (R_move rfl rfl) ?_
  refine WL_val rfl rfl rfl (R_move rfl rfl) ?_
  refine WL_val rfl rfl rfl (R_eql rfl rfl rfl) ?_
  refine WL_nil ?_
  refine WQ_code ?_
  refine WC_dF rfl (by omega) ?_
  refine WC_skip ?_
  refine WQ_code ?_
  refine WC_seq ?_
  refine WC_region ?_
  refine WL_val rfl rfl rfl (R_move rfl rfl) ?_
  refine WL_val rfl rfl rfl (R_len rfl Tryz.underlying42 rfl) ?_
  refine WL_val rfl rfl rfl (R_assign rfl rfl) ?_
  refine WL_nil ?_
  refine WQ_code ?_
  refine WC_seq ?_
  refine WC_drawR ([⟨some wb, _⟩]) [(0, true), (1, true), (2, true), (3, true), (4, true), (5, true), (6, false), (7, true)] followsMixed rfl rfl (by kernel_rfl) (pqD) ?_
  refine WM_val rfl rfl rfl rfl (R_move rfl rfl) ?_
  refine WM_val rfl rfl rfl rfl (R_move rfl rfl) ?_
  refine WM_val rfl rfl rfl rfl (R_sliceTo (m := k) rfl Tryz.underlying42 Tryz.sizeOf3 rfl rfl (by omega)) ?_
  refine WM_val rfl rfl rfl rfl (R_move rfl rfl) ?_
  refine WM_val rfl rfl rfl rfl (R_move rfl rfl) ?_
  refine WM_val rfl rfl rfl rfl (R_sliceFromK (m := k + 1) rfl Tryz.underlying42 Tryz.sizeOf3 rfl rfl (by omega)) ?_
  rw [hiv]
  refine WM_do rfl rfl rfl rfl (D_appendFit (news := ivs (l.drop (k + 1))) (xs := ivs (l.take k)) (tl := ivs (l.drop k) ++ tl) rfl si42 rfl plD (by rw [ivs_len, List.length_take]; omega) (by rw [List.length_append, ivs_len, ivs_len, List.length_take, List.length_drop]; omega) rfl mmD hat2 (by rw [ivs_len, List.length_drop]; omega) (ivs_one _) (by omega)) ?_
  rintro _ _ ⟨rfl, rfl⟩
  refine ⟨⟨_, pqD⟩, ?_⟩
  refine WM_set (s := 26) (v := .slice (some ⟨wb, 0, none⟩) (l.length - 1) c) rfl (by rw [show k + (l.length - (k + 1)) = l.length - 1 from by omega]) ?_
  refine WM_val rfl rfl rfl rfl (R_assign rfl rfl) ?_
  refine WM_nil ?_
  refine WQ_code ?_
  refine WC_seq ?_
  refine WC_region ?_
  refine WL_val rfl rfl rfl (R_move rfl rfl) ?_
  refine WL_val rfl rfl rfl (R_move rfl rfl) ?_
  refine WL_val rfl rfl rfl (R_len rfl Tryz.underlying42 rfl) ?_
  refine WL_val rfl rfl rfl (R_move rfl rfl) ?_
  refine WL_val rfl rfl rfl (R_sliceLH (m := l.length - 1) (h := l.length) rfl Tryz.underlying42 Tryz.sizeOf3 rfl rfl rfl (by omega) hlc) ?_
  rw [if_neg (show ¬ c = l.length - 1 by omega)]
  refine WL_do0 rfl rfl (D_clear rfl si42 (fun v hv => by simp at hv; subst hv; rfl) rfl plD (.inr (by simp only [List.length_append, List.length_drop, ivs_len, List.length_take]; omega))) ?_
  rintro _ _ ⟨ns, hns, rfl⟩
  obtain ⟨rest, hrest⟩ : ∃ rest, rest = (ivs (l.drop k) ++ tl).drop (ivs (l.drop (k + 1))).length := ⟨_, rfl⟩
  have hrl : rest.length = tl.length + 1 := by rw [hrest, List.length_drop, List.length_append, ivs_len, ivs_len, List.length_drop, List.length_drop]; omega
  rw [← hrest, show putAt (ivs (l.take k) ++ ivs (l.drop (k + 1)) ++ rest) (0 + (l.length - 1) * 1) ns = ivs (l.eraseIdx k) ++ (ns ++ rest.drop 1) from by rw [← List.flatMap_append, ← er_split hk, show 0 + (l.length - 1) * 1 = (ivs (l.eraseIdx k)).length + 0 from by rw [ivs_len, hel]; omega, putAt_append, putAt_eq _ _ _ (by omega)]; rw [List.take_zero, List.nil_append, hns, show 0 + (l.length - (l.length - 1)) * 1 = 1 from by omega]]
  refine WL_nil ?_
  refine WQ_code ?_
  refine WC_seq ?_
  refine WC_region ?_
  refine WL_val rfl rfl rfl (R_move rfl rfl) ?_
  refine WL_val rfl rfl rfl (R_assign rfl rfl) ?_
  refine WL_nil ?_
  refine WQ_code ?_
  refine WC_ret ?_
  refine WQ_ret rfl rfl (.cons (.tmp rfl) .nil) rfl (by
      refine ⟨ns ++ rest.drop 1, by rw [hel]; rfl, ⟨by rw [ivs_len]; omega, ?_, by rw [hel]; omega, own.big, fun e => by cases e⟩, rfl⟩
      rw [ivs_len, hel, List.length_append, List.length_drop, hns, hrl]; omega) (pqD)
end Go.Proofs.YtkcfgglmlogjbaaGreat
end
section
set_option linter.unusedVariables false
set_option maxRecDepth 20000
set_option maxHeartbeats 2000000
namespace Go.Proofs.YtkcfgglmlogjbaaGreat
structure Rq where
  id : Int
  dl : Nat
  body : Bs
  o : Option Nat
  c : Nat
  tl : List Value
abbrev rqOk (r : Rq) : Prop := Own r.o r.body.length r.c 1 (bvs r.body) r.tl
abbrev rqE (r : Rq) : Ent := ⟨r.o, cl (bvs r.body ++ r.tl) 5⟩
def rqH (L : List Rq) : Heap := L.map rqE
abbrev encRq (r : Rq) : List Value := [.int .i64 r.id, .int .u64 (r.dl : Int), slV r.o r.body.length r.c]
theorem encRq3 (r : Rq) : (encRq r).length = 3 := rfl
def nP {α : Type} (p : α → Bool) (x : α) : Bool := !p x
def idxG {α : Type} (p : α → Bool) : List α → Int
  | [] => -1
  | x :: r => if p x = true then 0 else if idxG p r = -1 then -1 else idxG p r + 1
section
variable {α : Type} {p : α → Bool}
theorem idxG_hit {x : α} : ∀ {l : List α} {k : Nat}, (∀ v ∈ l.take k, p v = false) → l[k]? = some x → p x = true → idxG p l = k
  | [], k, _, hx, _ => by simp at hx
  | y :: r, 0, _, hx, hp => by simp at hx; subst hx; simp [idxG, hp]
  | y :: r, k + 1, h, hx, hp => by
    have h1 : p y = false := h y (by simp)
    have ih := idxG_hit (l := r) (k := k) (fun v hv => h v (by simp [hv])) (by simpa using hx) hp
    rw [idxG, if_neg (by rw [h1]; simp), ih, if_neg (by omega)]; omega
theorem idxG_none : ∀ {l : List α}, (∀ v ∈ l, p v = false) → idxG p l = -1
  | [], _ => rfl
  | y :: r, h => by
    rw [idxG, if_neg (by rw [h y (by simp)]; simp), if_pos (idxG_none fun v hv => h v (by simp [hv]))]
theorem idxG_key : ∀ (l : List α), ¬ (∀ v ∈ l, p v = false) → ∃ k x0, (∀ v ∈ l.take k, p v = false) ∧ l[k]? = some x0 ∧ p x0 = true
  | [], h => absurd (fun v hv => by cases hv) h
  | a :: r, h => by
    cases hp : p a with
    | true => exact ⟨0, a, fun v hv => by simp at hv, rfl, hp⟩
    | false =>
      obtain ⟨k, x0, h1, h2, h3⟩ := idxG_key r fun hr => h fun v hv => by
        rcases List.mem_cons.1 hv with rfl | hv
        · exact hp
        · exact hr v hv
      refine ⟨k + 1, x0, fun v hv => ?_, by simpa using h2, h3⟩
      rw [List.take_succ_cons] at hv
      rcases List.mem_cons.1 hv with rfl | hv
      · exact hp
      · exact h1 v hv
theorem gflt_next {l : List α} {j : Nat} {x : α} (h : l[j]? = some x) : (l.take (j + 1)).filter (nP p) = (l.take j).filter (nP p) ++ (if p x = true then [] else [x]) := by
  rw [take_next h, List.filter_append]
  cases hp : p x <;> simp [hp, nP]
theorem gdrop_at {l : List α} {j : Nat} {x : α} (h : l[j]? = some x) : l.drop j = x :: l.drop (j + 1) := by
  obtain ⟨h1, rfl⟩ := List.getElem?_eq_some_iff.1 h
  exact List.drop_eq_getElem_cons h1
theorem gmid_get {A J R : List α} {j : Nat} (hj : A.length + J.length = j) {x : α} : (A ++ (J ++ x :: R))[j]? = some x := by
  subst hj
  rw [List.getElem?_append_right (by omega), List.getElem?_append_right (by omega), show A.length + J.length - A.length - J.length = 0 from by omega]; rfl
theorem gmid_set {A J R : List α} {v y : α} : (A ++ (y :: J ++ R)).set A.length v = (A ++ [v]) ++ (J ++ R) := by
  rw [List.set_append_right _ _ (Nat.le_refl _), Nat.sub_self]; simp
theorem gmid_at {A J R : List α} {y : α} : (A ++ (y :: J ++ R))[A.length]? = some y := by
  rw [List.getElem?_append_right (Nat.le_refl _), Nat.sub_self]; rfl
end
structure DlQ where
  j : Nat
  A : List Rq
  J : List Rq
theorem rq_at {k : Nat} {pre tl : List Value} (hpk : pre.length = k) {T : List Rq} {i : Nat} {x : Rq} (hx : T[i]? = some x) : At (pre ++ (T.flatMap encRq ++ tl)) (k + i * 3) (encRq x) := fun j v hj => by
  have h9 := fm_at0 encRq3 hx (j := 0) (vs := encRq x) (tl := tl) (fun j v h => by rw [Nat.zero_add]; exact h) (Nat.le_refl _) j v hj
  rw [Nat.add_zero, Nat.zero_add] at h9
  rw [List.getElem?_append_right (by omega), show k + i * 3 + j - pre.length = i * 3 + j from by omega]
  exact h9
theorem qidx_ok (l : List Rq) (hl : l.length ≤ 1000000) {ob : Option Nat} {k c : Nat} {pre tl : List Value} (own : OwnS ob k l.length c 3 pre (l.flatMap encRq) tl) (PH : Heap) (p : Rq → Bool) (pf : Nat) (pca : List Value) (hq : ∀ r, Spec Tryz.prog pf ([.agg #[.int .i64 r.id, .int .u64 (r.dl : Int), slV r.o r.body.length r.c]] ++ pca) PH (fun v H' => v = .bool (p r) ∧ H' = PH)) : Spec Tryz.prog 80 [sVal ob k l.length c, .func (.func pf) #[] pca.toArray] ([⟨ob, cl (pre ++ (l.flatMap encRq ++ tl)) 59⟩] ++ PH) (fun r H' => r = .int .i64 (idxG p l) ∧ H' = [⟨ob, cl (pre ++ (l.flatMap encRq ++ tl)) 59⟩] ++ PH) := by
  refine Spec.of (E := [(0, sVal ob k l.length c), (1, .func (.func pf) #[] pca.toArray)]) Tryz.func80 rfl (by kernel_rfl) Tryz.ntmps80 rfl rfl (fun w => ?_)
  refine WC_seq ?_
  refine WC_region ?_
  refine WL_val rfl rfl rfl (R_assign rfl rfl) ?_
  refine WL_nil ?_
  refine WQ_code ?_
  refine WC_seq ?_
  refine WC_seq ?_
  refine WC_region ?_
  refine WL_val rfl rfl rfl (R_move rfl rfl) ?_
  refine WL_val rfl rfl rfl (R_len rfl Tryz.underlying43 rfl) ?_
  refine WL_val rfl rfl rfl (R_move rfl rfl) ?_
  refine WL_nil ?_
  refine WQ_code ?_
  refine WC_block ?_
  refine WC_loopF (G := Nat) [4, 5, 8, 9, 10, 11, 12, 13, 14, 15, 16, 17, 18] (fun y => y ≤ l.length ∧ ∀ v ∈ l.take y, p v = false) (fun y => [(8, .int .i64 (y : Int))]) (fun y => []) (fun y => l.length - y) (0) (⟨Nat.zero_le _, by simp⟩) leZ (pqD) ?_
  rintro y ⟨hk, hz⟩
  refine WC_seq ?_
  refine WC_region ?_
  refine WL_val rfl rfl rfl (R_lss rfl rfl rfl) ?_
  refine WL_nil ?_
  refine WQ_code ?_
  refine WC_seq ?_
  refine WC_dec rfl (fun c1 => ?_) (fun c1 => ?_)
  · refine WC_skip ?_
    refine WQ_code ?_
    refine WC_seq ?_
    refine WC_block ?_
    refine WC_seq ?_
    refine WC_region ?_
    refine WL_val rfl rfl rfl (R_move rfl rfl) ?_
    refine WL_val rfl rfl rfl (R_assign rfl rfl) ?_
    refine WL_nil ?_
    refine WQ_code ?_
    refine WC_seq ?_
    refine WC_region ?_
    obtain ⟨x, hx⟩ := getE (T := l) (i := y) (by omega)
    obtain ⟨wa, hwa⟩ := own.some_of (by omega)
    have hpk := own.at_ (by omega)
    refine WL_val rfl rfl rfl (R_move rfl rfl) ?_
    refine WL_val rfl rfl rfl (R_move rfl rfl) ?_
    refine WL_val rfl rfl rfl (R_move rfl rfl) ?_
    refine WL_val rfl rfl rfl (R_indexS (i := y) hwa rfl Tryz.underlying43 Tryz.sizeOf59 rfl rfl (by omega)) ?_
    refine WL_val rfl rfl rfl (R_loadAO (vs := encRq x) hwa rfl ag59 rfl (mmD) rfl (rq_at hpk (T := l) (i := y) hx)) ?_
    refine WL_do rfl rfl rfl (D_call (hq x) rfl rfl rfl rfl (pqD)) ?_
    rintro _ _ ⟨_, ⟨rfl, rfl⟩, rfl⟩
    refine WL_nil ?_
    refine WQ_code ?_
    refine WC_if rfl (fun c2 => ?_) (fun c2 => ?_)
    · have hcq := c2
      refine WC_seq ?_
      refine WC_region ?_
      refine WL_val rfl rfl rfl (R_move rfl rfl) ?_
      refine WL_val rfl rfl rfl (R_assign rfl rfl) ?_
      refine WL_nil ?_
      refine WQ_code ?_
      refine WC_ret ?_
      refine WQ_ret rfl rfl (.cons (.tmp rfl) .nil) rfl (by
          exact ⟨congrArg (Value.int .i64) (idxG_hit hz hx hcq).symm, rfl⟩) (pqD)
    · have hcq := c2
      refine WC_skip ?_
      refine WQ_code ?_
      refine WC_region ?_
      refine WL_val rfl rfl rfl (R_add rfl rfl rfl (by omega)) ?_
      refine WL_val rfl rfl rfl (R_move rfl rfl) ?_
      refine WL_nil ?_
      refine WQ_nextF (y + 1) (⟨by omega, fun v hv => by rw [take_next hx] at hv; rcases List.mem_append.1 hv with hv | hv; exact hz v hv; rw [List.mem_singleton.1 hv]; exact hcq⟩) (by omega) leZ (psZ) rfl (pqD)
  · have hkl : l.length ≤ y := by omega
    refine WC_exit ?_
    refine WQ_code ?_
    refine WC_seq ?_
    refine WC_region ?_
    refine WL_val rfl rfl rfl (R_assign rfl rfl) ?_
    refine WL_nil ?_
    refine WQ_code ?_
    refine WC_ret ?_
    refine WQ_ret rfl rfl (.cons (.tmp rfl) .nil) rfl (by
        exact ⟨congrArg (Value.int .i64) (idxG_none (by rw [List.take_of_length_le hkl] at hz; exact hz)).symm, rfl⟩) (pqD)
theorem qdel_none (l : List Rq) (hl : l.length ≤ 1000000) {ob : Option Nat} {k c : Nat} {pre tl : List Value} (own : OwnS ob k l.length c 3 pre (l.flatMap encRq) tl) (PH : Heap) (p : Rq → Bool) (pf : Nat) (pca : List Value) (hq : ∀ r, Spec Tryz.prog pf ([.agg #[.int .i64 r.id, .int .u64 (r.dl : Int), slV r.o r.body.length r.c]] ++ pca) PH (fun v H' => v = .bool (p r) ∧ H' = PH)) (hn : ∀ v ∈ l, p v = false) : Spec Tryz.prog 65 [sVal ob k l.length c, .func (.func pf) #[] pca.toArray] ([⟨ob, cl (pre ++ (l.flatMap encRq ++ tl)) 59⟩] ++ PH) (fun r H' => ∃ tl2, r = sVal ob k (l.filter (nP p)).length c ∧ OwnS ob k (l.filter (nP p)).length c 3 pre ((l.filter (nP p)).flatMap encRq) tl2 ∧ H' = [⟨ob, cl (pre ++ ((l.filter (nP p)).flatMap encRq ++ tl2)) 59⟩] ++ PH) := by
  have hidx := idxG_none hn
  have hfl : l.filter (nP p) = l := List.filter_eq_self.2 fun v hv => by unfold nP; rw [hn v hv]; rfl
  rw [hfl]
  refine Spec.of (E := [(0, sVal ob k l.length c), (1, .func (.func pf) #[] pca.toArray)]) Tryz.func65 rfl (by kernel_rfl) Tryz.ntmps65 rfl rfl (fun w => ?_)
  refine WC_seq ?_
  refine WC_region ?_
  refine WL_val rfl rfl rfl (R_assign rfl rfl) ?_
  refine WL_nil ?_
  refine WQ_code ?_
  refine WC_seq ?_
  refine WC_region ?_
  refine WL_val rfl rfl rfl (R_move rfl rfl) ?_
  refine WL_val rfl rfl rfl (R_move rfl rfl) ?_
  refine WL_do rfl rfl rfl (D_call (qidx_ok l hl own PH p pf pca hq) rfl rfl rfl rfl (pqD)) ?_
  rintro _ _ ⟨_, ⟨rfl, rfl⟩, rfl⟩
  refine WL_val rfl rfl rfl (R_assign rfl rfl) ?_
  refine WL_nil ?_
  refine WQ_code ?_
  refine WC_seq ?_
  refine WC_seq ?_
  refine WC_region ?_
  refine WL_val rfl rfl rfl (R_move rfl rfl) ?_
  refine WL_val rfl rfl rfl (R_eql rfl rfl rfl) ?_
  refine WL_nil ?_
  refine WQ_code ?_
  refine WC_dT rfl (by exact hidx) ?_
  refine WC_seq ?_
  refine WC_region ?_
  refine WL_val rfl rfl rfl (R_move rfl rfl) ?_
  refine WL_val rfl rfl rfl (R_assign rfl rfl) ?_
  refine WL_nil ?_
  refine WQ_code ?_
  refine WC_ret ?_
  refine WQ_ret rfl rfl (.cons (.tmp rfl) .nil) rfl (by
      exact ⟨tl, rfl, own, rfl⟩) (pqD)
theorem qdel_some (l : List Rq) (hl : l.length ≤ 1000000) {ob : Option Nat} {k c : Nat} {pre tl : List Value} (own : OwnS ob k l.length c 3 pre (l.flatMap encRq) tl) (PH : Heap) (p : Rq → Bool) (pf : Nat) (pca : List Value) (hq : ∀ r, Spec Tryz.prog pf ([.agg #[.int .i64 r.id, .int .u64 (r.dl : Int), slV r.o r.body.length r.c]] ++ pca) PH (fun v H' => v = .bool (p r) ∧ H' = PH)) {kk : Nat} {x0 : Rq} (h0 : ∀ v ∈ l.take kk, p v = false) (hx0 : l[kk]? = some x0) (hp0 : p x0 = true) : Spec Tryz.prog 65 [sVal ob k l.length c, .func (.func pf) #[] pca.toArray] ([⟨ob, cl (pre ++ (l.flatMap encRq ++ tl)) 59⟩] ++ PH) (fun r H' => ∃ tl2, r = sVal ob k (l.filter (nP p)).length c ∧ OwnS ob k (l.filter (nP p)).length c 3 pre ((l.filter (nP p)).flatMap encRq) tl2 ∧ H' = [⟨ob, cl (pre ++ ((l.filter (nP p)).flatMap encRq ++ tl2)) 59⟩] ++ PH) := by
  have hidx := idxG_hit h0 hx0 hp0
  have hkl := (List.getElem?_eq_some_iff.1 hx0).1
  have hlc := own.le
  have hpk := own.at_ (by omega)
  obtain ⟨wa, rfl⟩ := own.some_of (by omega)
  have hfk : l.take kk = (l.take (kk + 1)).filter (nP p) := by rw [gflt_next hx0, if_pos hp0, List.append_nil]; exact (List.filter_eq_self.2 fun v hv => by unfold nP; rw [h0 v hv]; rfl).symm
  have hstart : l = l.take kk ++ ([x0] ++ l.drop (kk + 1)) := by rw [List.singleton_append, ← gdrop_at hx0, List.take_append_drop]
  refine Spec.of (E := [(0, sVal (some wa) k l.length c), (1, .func (.func pf) #[] pca.toArray)]) Tryz.func65 rfl (by kernel_rfl) Tryz.ntmps65 rfl rfl (fun w => ?_)
  refine WC_seq ?_
  refine WC_region ?_
  refine WL_val rfl rfl rfl (R_assign rfl rfl) ?_
  refine WL_nil ?_
  refine WQ_code ?_
  refine WC_seq ?_
  refine WC_region ?_
  refine WL_val rfl rfl rfl (R_move rfl rfl) ?_
  refine WL_val rfl rfl rfl (R_move rfl rfl) ?_
  refine WL_do rfl rfl rfl (D_call (qidx_ok l hl own PH p pf pca hq) rfl rfl rfl rfl (pqD)) ?_
  rintro _ _ ⟨_, ⟨rfl, rfl⟩, rfl⟩
  refine WL_val rfl rfl rfl (R_assign rfl rfl) ?_
  refine WL_nil ?_
  refine WQ_code ?_
  refine WC_seq ?_
  refine WC_seq ?_
  refine WC_region ?_
  refine WL_val rfl rfl rfl (R_move rfl rfl) ?_
  refine WL_val rfl rfl rfl (R_eql rfl rfl rfl) ?_
  refine WL_nil ?_
  refine WQ_code ?_
  refine WC_dF rfl (by rw [hidx]; omega) ?_
  refine WC_skip ?_
  refine WQ_code ?_
  refine WC_seq ?_
  refine WC_seq ?_
  refine WC_region ?_
  refine WL_val rfl rfl rfl (R_move rfl rfl) ?_
  refine WL_val rfl rfl rfl (R_add rfl rfl rfl (by omega)) ?_
  refine WL_val rfl rfl rfl (R_assign rfl rfl) ?_
  refine WL_nil ?_
  refine WQ_code ?_
  refine WC_block ?_
  refine WC_set (s := 6) (v := .int .i64 ((kk + 1 : Nat) : Int)) rfl (by rw [hidx]; rfl) ?_
  refine WC_set (s := 5) (v := .int .i64 (((l.take kk).length : Nat) : Int)) rfl (by rw [hidx, List.length_take, Nat.min_eq_left (by omega)]) ?_
  rw [show cl (pre ++ (l.flatMap encRq ++ tl)) 59 = cl (pre ++ ((l.take kk ++ ([x0] ++ l.drop (kk + 1))).flatMap encRq ++ tl)) 59 from by rw [← hstart]]
  refine WC_loopF (G := DlQ) [5, 6, 7, 16, 17, 18, 19, 20, 21, 22, 23, 24, 25, 26, 27, 28, 29, 30, 31, 32, 33, 34, 35] (fun y => y.j ≤ l.length ∧ y.A = (l.take y.j).filter (nP p) ∧ y.A.length + y.J.length = y.j ∧ 1 ≤ y.J.length) (fun y => [(6, .int .i64 (y.j : Int)), (5, .int .i64 (y.A.length : Int))]) (fun y => [⟨some wa, cl (pre ++ ((y.A ++ (y.J ++ l.drop y.j)).flatMap encRq ++ tl)) 59⟩]) (fun y => l.length - y.j) (⟨kk + 1, l.take kk, [x0]⟩) (⟨by dsimp only; omega, hfk, by dsimp only; rw [List.length_take, Nat.min_eq_left (by omega)]; rfl, Nat.le_refl _⟩) leZ (pqD) ?_
  rintro y ⟨hj, hA, hAJ, hJ⟩
  refine WC_seq ?_
  refine WC_seq ?_
  refine WC_region ?_
  refine WL_val rfl rfl rfl (R_move rfl rfl) ?_
  refine WL_val rfl rfl rfl (R_move rfl rfl) ?_
  refine WL_val rfl rfl rfl (R_len rfl Tryz.underlying43 rfl) ?_
  refine WL_val rfl rfl rfl (R_lss rfl rfl rfl) ?_
  refine WL_nil ?_
  refine WQ_code ?_
  refine WC_dec rfl (fun c1 => ?_) (fun c1 => ?_)
  · refine WC_skip ?_
    refine WQ_code ?_
    refine WC_seq ?_
    refine WC_block ?_
    refine WC_seq ?_
    refine WC_region ?_
    obtain ⟨x, hx⟩ := getE (T := l) (i := y.j) (by omega)
    have hdx := gdrop_at hx
    have hxm : (y.A ++ (y.J ++ l.drop y.j))[y.j]? = some x := by rw [hdx]; exact gmid_get hAJ
    have hTl : (y.A ++ (y.J ++ l.drop y.j)).length = l.length := by simp only [List.length_append, List.length_drop]; omega
    refine WL_val rfl rfl rfl (R_move rfl rfl) ?_
    refine WL_val rfl rfl rfl (R_move rfl rfl) ?_
    refine WL_val rfl rfl rfl (R_indexAddrN rfl Tryz.underlying43 Tryz.sizeOf59 rfl rfl (by omega)) ?_
    refine WL_val rfl rfl rfl (R_loadA (vs := encRq x) rfl ag59 rfl (mmD) rfl (rq_at hpk (T := y.A ++ (y.J ++ l.drop y.j)) (i := y.j) hxm)) ?_
    refine WL_do rfl rfl rfl (D_alloc rfl zv59) ?_
    rintro _ _ ⟨b1, rfl, rfl⟩
    refine WL_do0 rfl rfl (D_store (vs := [_, _, _]) rfl Tryz.sizeOf59 rfl rfl rfl rfl rfl (plD) (by exact Nat.le_of_ble_eq_true rfl)) ?_
    rintro _ _ rfl
    refine WL_nil ?_
    refine WQ_code ?_
    refine WC_seq ?_
    refine WC_region ?_
    refine WL_val rfl rfl rfl (R_move rfl rfl) ?_
    refine WL_val rfl rfl rfl (R_loadA (vs := [_, _, _]) rfl ag59 rfl (mmD) rfl (atZ)) ?_
    refine WL_do rfl rfl rfl (D_call (hq x) rfl rfl rfl rfl (pqD)) ?_
    rintro _ _ ⟨_, ⟨rfl, rfl⟩, rfl⟩
    refine WL_val rfl rfl rfl (R_not rfl rfl) ?_
    refine WL_nil ?_
    refine WQ_code ?_
    refine WC_if rfl (fun c2 => ?_) (fun c2 => ?_)
    · have hc : p x = false := by simpa using c2
      obtain ⟨y9, J2, hJ2⟩ : ∃ a b, y.J = a :: b := by cases hq : y.J with | nil => rw [hq] at hJ; simp at hJ | cons a b => exact ⟨a, b, rfl⟩
      have hset : (y.A ++ (y.J ++ l.drop y.j)).set y.A.length x = (y.A ++ [x]) ++ ((J2 ++ [x]) ++ l.drop (y.j + 1)) := by rw [hJ2, gmid_set, hdx]; simp
      refine WC_seq ?_
      refine WC_region ?_
      refine WL_val rfl rfl rfl (R_move rfl rfl) ?_
      refine WL_val rfl rfl rfl (R_move rfl rfl) ?_
      refine WL_val rfl rfl rfl (R_loadA (vs := [_, _, _]) rfl ag59 rfl (mmD) rfl (atZ)) ?_
      refine WL_val rfl rfl rfl (R_indexAddrN rfl Tryz.underlying43 Tryz.sizeOf59 rfl rfl (by omega)) ?_
      refine WL_do0 rfl rfl (D_store (vs := [_, _, _]) rfl Tryz.sizeOf59 rfl rfl rfl rfl rfl (plD) (by have h7 := fm_length encRq3 (y.A ++ (y.J ++ l.drop y.j)); rw [List.length_append, List.length_append, h7]; omega)) ?_
      rintro _ _ rfl
      have hput := fm_put0 encRq3 x (show (y.A ++ (y.J ++ l.drop y.j))[y.A.length]? = some y9 by rw [hJ2]; exact gmid_at) (j := 0) (vs := encRq x) (by simp) rfl (tl := tl)
      rw [Nat.add_zero, Nat.zero_add] at hput
      rw [show k + y.A.length * 3 = pre.length + y.A.length * 3 from by omega, putAt_append, hput]
      refine WL_nil ?_
      refine WQ_code ?_
      refine WC_region ?_
      refine WL_val rfl rfl rfl (R_move rfl rfl) ?_
      refine WL_val rfl rfl rfl (R_add rfl rfl rfl (by omega)) ?_
      refine WL_set (s := 35) (v := .int .i64 (((y.A ++ [x]).length : Nat) : Int)) rfl (by rw [List.length_append]; rfl) ?_
      refine WL_val rfl rfl rfl (R_assign rfl rfl) ?_
      refine WL_nil ?_
      refine WQ_code ?_
      refine WC_region ?_
      refine WL_val rfl rfl rfl (R_move rfl rfl) ?_
      refine WL_val rfl rfl rfl (R_add rfl rfl rfl (by omega)) ?_
      refine WL_val rfl rfl rfl (R_assign rfl rfl) ?_
      refine WL_nil ?_
      rw [hset]
      refine WQ_nextF (⟨y.j + 1, y.A ++ [x], J2 ++ [x]⟩) (⟨by dsimp only; omega, by dsimp only; rw [gflt_next hx, if_neg (by rw [hc]; decide), ← hA], by dsimp only; rw [List.length_append, List.length_append]; simp only [List.length_cons, List.length_nil]; rw [hJ2] at hAJ; rw [List.length_cons] at hAJ; omega, by dsimp only; rw [List.length_append]; simp⟩) (by dsimp only; omega) leZ (psZ) rfl (pqD)
    · have hc : p x = true := by simpa using c2
      refine WC_skip ?_
      refine WQ_code ?_
      refine WC_region ?_
      refine WL_val rfl rfl rfl (R_move rfl rfl) ?_
      refine WL_val rfl rfl rfl (R_add rfl rfl rfl (by omega)) ?_
      refine WL_val rfl rfl rfl (R_assign rfl rfl) ?_
      refine WL_nil ?_
      rw [show y.A ++ (y.J ++ l.drop y.j) = y.A ++ ((y.J ++ [x]) ++ l.drop (y.j + 1)) from by rw [hdx]; simp]
      refine WQ_nextF (⟨y.j + 1, y.A, y.J ++ [x]⟩) (⟨by dsimp only; omega, by dsimp only; rw [gflt_next hx, if_pos hc, List.append_nil]; exact hA, by dsimp only; rw [List.length_append]; simp only [List.length_cons, List.length_nil]; omega, by dsimp only; rw [List.length_append]; omega⟩) (by dsimp only; omega) leZ (psZ) rfl (pqD)
  · have hjl : y.j = l.length := by omega
    have hdl : l.drop y.j = [] := by rw [hjl, List.drop_length]
    refine WC_exit ?_
    refine WQ_code ?_
    refine WC_seq ?_
    refine WC_region ?_
    refine WL_val rfl rfl rfl (R_move rfl rfl) ?_
    refine WL_val rfl rfl rfl (R_move rfl rfl) ?_
    refine WL_val rfl rfl rfl (R_sliceFromK (m := y.A.length) rfl Tryz.underlying43 Tryz.sizeOf59 rfl rfl (by omega)) ?_
    rw [if_neg (by omega)]
    refine WL_do0 rfl rfl (D_clear rfl si43 (fun v hv => by simp at hv; rcases hv with rfl | rfl | rfl <;> rfl) rfl plD (.inr (by rw [hdl, List.append_nil, List.length_append, List.length_append, fm_length encRq3, List.length_append]; omega))) ?_
    rintro _ _ ⟨ns, hns, rfl⟩
    rw [hdl, List.append_nil, show putAt (pre ++ ((y.A ++ y.J).flatMap encRq ++ tl)) (k + y.A.length * 3) ns = pre ++ (y.A.flatMap encRq ++ (ns ++ tl)) from by rw [← hpk, putAt_append, List.flatMap_append, List.append_assoc, show y.A.length * 3 = (y.A.flatMap encRq).length + 0 from by rw [fm_length encRq3]; rfl, putAt_append, putAt_eq _ _ _ (by rw [List.length_append, fm_length encRq3]; omega)]; rw [List.take_zero, List.nil_append, Nat.zero_add, List.drop_append_of_le_length (by rw [fm_length encRq3]; omega), List.drop_of_length_le (by rw [fm_length encRq3]; omega), List.nil_append]]
    refine WL_nil ?_
    refine WQ_code ?_
    refine WC_seq ?_
    refine WC_region ?_
    refine WL_val rfl rfl rfl (R_move rfl rfl) ?_
    refine WL_val rfl rfl rfl (R_move rfl rfl) ?_
    refine WL_val rfl rfl rfl (R_sliceTo (m := y.A.length) rfl Tryz.underlying43 Tryz.sizeOf59 rfl rfl (by omega)) ?_
    refine WL_val rfl rfl rfl (R_assign rfl rfl) ?_
    refine WL_nil ?_
    refine WQ_code ?_
    refine WC_ret ?_
    rw [hjl, List.take_length] at hA
    rw [← hA]
    refine WQ_ret rfl rfl (.cons (.tmp rfl) .nil) rfl (by
        exact ⟨ns ++ tl, rfl, ⟨.inl hpk, by rw [fm_length encRq3], by have h8 := own.cap; rw [fm_length encRq3] at h8 ⊢; rw [List.length_append]; omega, by omega, own.big, fun e => by cases e⟩, rfl⟩) (pqD)
theorem qdel_ok (l : List Rq) (hl : l.length ≤ 1000000) {ob : Option Nat} {k c : Nat} {pre tl : List Value} (own : OwnS ob k l.length c 3 pre (l.flatMap encRq) tl) (PH : Heap) (p : Rq → Bool) (pf : Nat) (pca : List Value) (hq : ∀ r, Spec Tryz.prog pf ([.agg #[.int .i64 r.id, .int .u64 (r.dl : Int), slV r.o r.body.length r.c]] ++ pca) PH (fun v H' => v = .bool (p r) ∧ H' = PH)) : Spec Tryz.prog 65 [sVal ob k l.length c, .func (.func pf) #[] pca.toArray] ([⟨ob, cl (pre ++ (l.flatMap encRq ++ tl)) 59⟩] ++ PH) (fun r H' => ∃ tl2, r = sVal ob k (l.filter (nP p)).length c ∧ OwnS ob k (l.filter (nP p)).length c 3 pre ((l.filter (nP p)).flatMap encRq) tl2 ∧ H' = [⟨ob, cl (pre ++ ((l.filter (nP p)).flatMap encRq ++ tl2)) 59⟩] ++ PH) := by
  by_cases hn : ∀ v ∈ l, p v = false
  · exact qdel_none l hl own PH p pf pca hq hn
  · obtain ⟨k, x0, h1, h2, h3⟩ := idxG_key l hn
    exact qdel_some l hl own PH p pf pca hq h1 h2 h3
end Go.Proofs.YtkcfgglmlogjbaaGreat
end
section
set_option linter.unusedVariables false
set_option maxRecDepth 20000
set_option maxHeartbeats 2000000
namespace Go.Proofs.YtkcfgglmlogjbaaGreat
structure Sv where
  s : Sd
  opn : List Int
  qu : List Rq
structure SvM where
  p : Nat
  sd : SdM
  cb : Option Nat
  cc : Nat
  ctl : List Value
  eb : Option Nat
  ek : Nat
  ec : Nat
  epre : List Value
  etl : List Value
abbrev svC (m : SvM) (x : Sv) : List Value := [sVal m.sd.ob m.sd.ok x.s.out.length m.sd.oc, sVal m.sd.ib m.sd.ik x.s.bs.length m.sd.ic, .int .i64 x.s.rb, .int .i64 (x.s.last : Int), .int .i64 x.s.br, slV m.cb x.opn.length m.cc, sVal m.eb m.ek x.qu.length m.ec]
abbrev svE (m : SvM) (x : Sv) : Ent := ⟨some m.p, cl (svC m x) 45⟩
abbrev svO (m : SvM) (x : Sv) : Ent := ⟨m.cb, cl (ivs x.opn ++ m.ctl) 3⟩
abbrev svQ (m : SvM) (x : Sv) : Ent := ⟨m.eb, cl (m.epre ++ (x.qu.flatMap encRq ++ m.etl)) 59⟩
abbrev svH (m : SvM) (x : Sv) : Heap := [svE m x, oE m.sd x.s, iE m.sd x.s, svO m x, svQ m x] ++ rqH x.qu
structure SvIs (m : SvM) (x : Sv) : Prop where
  sd : SdIs m.sd x.s
  cO : Own m.cb x.opn.length m.cc 1 (ivs x.opn) m.ctl
  eO : OwnS m.eb m.ek x.qu.length m.ec 3 m.epre (x.qu.flatMap encRq) m.etl
  rO : ∀ r ∈ x.qu, rqOk r
structure Rr where
  id : Int
  dl : Nat
  body : Bs
deriving DecidableEq
def Rq.v (r : Rq) : Rr := ⟨r.id, r.dl, r.body⟩
structure PV where
  out : Bs
  bs : Bs
  rb : Int
  last : Nat
  br : Int
  opn : List Int
  qu : List Rr
deriving DecidableEq
def Sv.v (x : Sv) : PV := ⟨x.s.out, x.s.bs, x.s.rb, x.s.last, x.s.br, x.opn, x.qu.map Rq.v⟩
def notId (id : Int) (r : Rr) : Bool := !decide (r.id = id)
def PV.close (x : PV) (id : Int) : PV := if x.opn.any (eqI id) = true then { x with opn := delI id x.opn, qu := x.qu.filter (notId id) } else x
def PV.step (x : PV) (k : UInt8) (body : Bs) : PV × Int :=
  if k = 16 ∧ 12 ≤ body.length then
    if ¬ (valB (body.take 4)) = x.last + 1 then (x, 10)
    else if 32 ≤ x.opn.length then ({ x with last := x.last + 1, out := x.out ++ encF 17 (bigB (valB (body.take 4)) 4 ++ [0, 7]) }, 0)
    else ({ x with last := x.last + 1, opn := x.opn ++ [((valB (body.take 4)) : Int)], qu := x.qu ++ [⟨((valB (body.take 4)) : Int), valB ((body.drop 4).take 8), body.drop 12⟩] }, 0)
  else if k = 18 ∧ body.length = 4 then
    if ¬ (0 < (valB (body.take 4)) ∧ (valB (body.take 4)) ≤ x.last) then (x, 10) else (x.close ((valB (body.take 4)) : Int), 0)
  else (x, 6)
def PV.recv (x : PV) (b : Bs) : PV × Int :=
  if x.br ≠ 0 then (x, 8) else if 65536 < x.bs.length + b.length then (x, 7)
  else
    let R := rcvN PV.step (x.bs.length + b.length + 1) { x with bs := [] } (x.bs ++ b)
    ({ R.1 with bs := R.2.1, rb := R.2.2.1, br := R.2.2.2 }, R.2.2.2)
def PV.reply (x : PV) (id code : Int) (body : Bs) : PV × Int :=
  if code < 0 ∨ 999 < code then (x, 2) else if x.br ≠ 0 then (x, 8) else if 1018 < body.length then (x, 5) else if x.opn.any (eqI id) = false then (x, 9) else if 65536 < x.out.length then (x, 7)
  else ({ x.close id with out := x.out ++ encF 17 (bigB id.toNat 4 ++ (bigB code.toNat 2 ++ body)) }, 0)
def PV.next (x : PV) : PV × Option Rr := match x.qu with
  | [] => (x, none)
  | r :: l => ({ x with qu := l }, some r)
def PV.take (x : PV) (n : Int) : PV × Bs × Int := if n < 0 ∨ 65536 < n then (x, [], 2) else ({ x with out := x.out.drop n.toNat }, x.out.take n.toNat, 0)
structure PVB (x : PV) : Prop where
  out : x.out.length ≤ 200000
  bs : x.bs.length ≤ 65536
  last : x.last < 4294967296
  opn : x.opn.length ≤ 32
  qu : x.qu.length ≤ 200000
  ids : ∀ i ∈ x.opn, 0 ≤ i ∧ i < 4294967296
  rb : x.br = 0 → x.rb = 0
structure SvB (x : Sv) : Prop where
  out : x.s.out.length ≤ 200000
  bs : x.s.bs.length ≤ 65536
  last : x.s.last < 4294967296
  opn : x.opn.length ≤ 32
  qu : x.qu.length ≤ 200000
  ids : ∀ i ∈ x.opn, 0 ≤ i ∧ i < 4294967296
  rb : x.s.br = 0 → x.s.rb = 0
theorem PVB.cl {x : Sv} (h : PVB x.v) : SvB x := ⟨h.out, h.bs, h.last, h.opn, by have := h.qu; simp only [Sv.v, List.length_map] at this; exact this, h.ids, h.rb⟩
def SPost (p : Nat) (P : PV × Value) (r : Value) (H' : Heap) : Prop := ∃ m' x', m'.p = p ∧ SvIs m' x' ∧ x'.v = P.1 ∧ r = P.2 ∧ H' = svH m' x'
def isQ (id : Int) (r : Rq) : Bool := decide (r.id = id)
theorem notId_map (id : Int) (l : List Rq) : (l.filter (nP (isQ id))).map Rq.v = (l.map Rq.v).filter (notId id) := by rw [List.filter_map]; rfl
theorem rq_flt {l : List Rq} {p : Rq → Bool} (h : ∀ r ∈ l, rqOk r) : ∀ r ∈ l.filter p, rqOk r := fun r hr => h r (List.mem_filter.1 hr).1
theorem rqH_flt (p : Rq → Bool) : ∀ l : List Rq, ∃ G, (rqH l).Perm (rqH (l.filter p) ++ G)
  | [] => ⟨[], .refl _⟩
  | r :: l => by
    obtain ⟨G, hG⟩ := rqH_flt p l
    by_cases h : p r = true
    · exact ⟨G, by rw [List.filter_cons_of_pos h]; exact hG.cons _⟩
    · exact ⟨rqE r :: G, by rw [List.filter_cons_of_neg h]; exact (hG.cons _).trans List.perm_middle.symm⟩
theorem scl1_ok (r : Rq) (bi : Nat) (id : Int) : Spec Tryz.prog 66 [.agg #[.int .i64 r.id, .int .u64 (r.dl : Int), slV r.o r.body.length r.c], ptrC bi] [⟨some bi, cl [.int .i64 id] 3⟩] (fun v H' => v = .bool (isQ id r) ∧ H' = [⟨some bi, cl [.int .i64 id] 3⟩]) := by
  refine Spec.of (E := [(0, .agg #[.int .i64 r.id, .int .u64 (r.dl : Int), slV r.o r.body.length r.c]), (1, ptrC bi)]) Tryz.func66 rfl (by kernel_rfl) Tryz.ntmps66 rfl rfl (fun w => ?_)
  refine WC_seq ?_
  refine WC_region ?_
  refine WL_do rfl rfl rfl (D_box (cs := [_, _, _]) rfl rfl rfl) ?_
  rintro _ _ ⟨b1, rfl, rfl⟩
  refine WL_val rfl rfl rfl (R_assign rfl rfl) ?_
  refine WL_nil ?_
  refine WQ_code ?_
  refine WC_seq ?_
  refine WC_region ?_
  refine WL_val rfl rfl rfl (R_fieldAddr rfl fa59_0 rfl) ?_
  refine WL_val rfl rfl rfl (R_load rfl sc3 rfl (mmD) rfl) ?_
  refine WL_val rfl rfl rfl (R_load rfl sc3 rfl (mmD) rfl) ?_
  refine WL_val rfl rfl rfl (R_eql rfl rfl rfl) ?_
  refine WL_val rfl rfl rfl (R_assign rfl rfl) ?_
  refine WL_nil ?_
  refine WQ_code ?_
  refine WC_ret ?_
  refine WQ_ret rfl rfl (.cons (.tmp rfl) .nil) rfl (by
      exact ⟨rfl, rfl⟩) (pqD)
theorem sclose_no (p : Nat) (a0 a1 a2 a3 a4 : Value) {opn : List Int} {qu : List Rq} {cb : Option Nat} {ccp : Nat} {ctl : List Value} {eb : Option Nat} {ek ec : Nat} {epre etl : List Value} (hC : Own cb opn.length ccp 1 (ivs opn) ctl) (hE0 : OwnS eb ek qu.length ec 3 epre (qu.flatMap encRq) etl) (hol : opn.length ≤ 1000) (hql : qu.length ≤ 1000000) (id : Int) (hno : opn.any (eqI id) = false) : Spec Tryz.prog 46 [ptrC p, .int .i64 id] [⟨some p, cl [a0, a1, a2, a3, a4, slV cb opn.length ccp, sVal eb ek qu.length ec] 45⟩, ⟨cb, cl (ivs opn ++ ctl) 3⟩, ⟨eb, cl (epre ++ (qu.flatMap encRq ++ etl)) 59⟩] (fun r H' => r = .bool false ∧ H' = [⟨some p, cl [a0, a1, a2, a3, a4, slV cb opn.length ccp, sVal eb ek qu.length ec] 45⟩, ⟨cb, cl (ivs opn ++ ctl) 3⟩, ⟨eb, cl (epre ++ (qu.flatMap encRq ++ etl)) 59⟩]) := by
  have hidx : idxF (eqI id) opn = -1 := idxF_none fun v hv => by simpa using (List.any_eq_false.1 hno v hv)
  refine Spec.of (E := [(0, ptrC p), (1, .int .i64 id)]) Tryz.func46 rfl (by kernel_rfl) Tryz.ntmps46 rfl rfl (fun w => ?_)
  refine WC_seq ?_
  refine WC_region ?_
  refine WL_do rfl rfl rfl (D_box (cs := [_]) rfl rfl rfl) ?_
  rintro _ _ ⟨b1, rfl, rfl⟩
  refine WL_val rfl rfl rfl (R_assign rfl rfl) ?_
  refine WL_nil ?_
  refine WQ_code ?_
  refine WC_seq ?_
  refine WC_draw _ [(0, true), (1, true), (2, true), (3, true), (4, true), (5, true), (6, true)] followsMixed rfl rfl (by kernel_rfl) .all ?_
  refine WM_val rfl rfl rfl rfl (R_move rfl rfl) ?_
  refine WM_val rfl rfl rfl rfl (R_nilCheck rfl rfl) ?_
  refine WM_val rfl rfl rfl rfl (R_fieldAddr rfl fa45_1 rfl) ?_
  refine WM_val rfl rfl rfl rfl (R_load rfl sc42 rfl (mmD) rfl) ?_
  refine WM_val rfl rfl rfl rfl (R_load rfl sc3 rfl (mmD) rfl) ?_
  refine WM_call rfl (Spec.quiet (iidx_ok (by omega) hC id)) rfl rfl rfl rfl rfl rfl rfl (pqD) ?_
  refine WM_val rfl rfl rfl rfl (R_assign rfl rfl) ?_
  refine WM_nil ?_
  refine WQ_code ?_
  refine WC_seq ?_
  refine WC_seq ?_
  refine WC_region ?_
  refine WL_val rfl rfl rfl (R_move rfl rfl) ?_
  refine WL_val rfl rfl rfl (R_lss rfl rfl rfl) ?_
  refine WL_nil ?_
  refine WQ_code ?_
  refine WC_dT rfl (by rw [hidx]; decide) ?_
  refine WC_seq ?_
  refine WC_region ?_
  refine WL_val rfl rfl rfl (R_assign rfl rfl) ?_
  refine WL_nil ?_
  refine WQ_code ?_
  refine WC_ret ?_
  refine WQ_ret rfl rfl (.cons (.tmp rfl) .nil) rfl (by
      exact ⟨rfl, rfl⟩) (pqD)
theorem sclose_yes (p : Nat) (a0 a1 a2 a3 a4 : Value) {opn : List Int} {qu : List Rq} {cb : Option Nat} {ccp : Nat} {ctl : List Value} {eb : Option Nat} {ek ec : Nat} {epre etl : List Value} (hC : Own cb opn.length ccp 1 (ivs opn) ctl) (hE0 : OwnS eb ek qu.length ec 3 epre (qu.flatMap encRq) etl) (hol : opn.length ≤ 1000) (hql : qu.length ≤ 1000000) (id : Int) (hyes : opn.any (eqI id) = true) : Spec Tryz.prog 46 [ptrC p, .int .i64 id] [⟨some p, cl [a0, a1, a2, a3, a4, slV cb opn.length ccp, sVal eb ek qu.length ec] 45⟩, ⟨cb, cl (ivs opn ++ ctl) 3⟩, ⟨eb, cl (epre ++ (qu.flatMap encRq ++ etl)) 59⟩]
    (fun r H' => ∃ ctl' etl', r = .bool true ∧ Own cb (delI id opn).length ccp 1 (ivs (delI id opn)) ctl' ∧ OwnS eb ek (qu.filter (nP (isQ id))).length ec 3 epre ((qu.filter (nP (isQ id))).flatMap encRq) etl' ∧ H' = [⟨some p, cl [a0, a1, a2, a3, a4, slV cb (delI id opn).length ccp, sVal eb ek (qu.filter (nP (isQ id))).length ec] 45⟩, ⟨cb, cl (ivs (delI id opn) ++ ctl') 3⟩, ⟨eb, cl (epre ++ ((qu.filter (nP (isQ id))).flatMap encRq ++ etl')) 59⟩]) := by
  obtain ⟨kk, x0, hidx, hx0, hp0, h0⟩ := idxF_at (eqI id) opn hyes
  have hkl := (List.getElem?_eq_some_iff.1 hx0).1
  have hx1 : id = x0 := of_decide_eq_true hp0
  subst hx1
  have hdel := delI_at h0 hx0
  refine Spec.of (E := [(0, ptrC p), (1, .int .i64 id)]) Tryz.func46 rfl (by kernel_rfl) Tryz.ntmps46 rfl rfl (fun w => ?_)
  refine WC_seq ?_
  refine WC_region ?_
  refine WL_do rfl rfl rfl (D_box (cs := [_]) rfl rfl rfl) ?_
  rintro _ _ ⟨b1, rfl, rfl⟩
  refine WL_val rfl rfl rfl (R_assign rfl rfl) ?_
  refine WL_nil ?_
  refine WQ_code ?_
  refine WC_seq ?_
  refine WC_draw _ [(0, true), (1, true), (2, true), (3, true), (4, true), (5, true), (6, true)] followsMixed rfl rfl (by kernel_rfl) .all ?_
  refine WM_val rfl rfl rfl rfl (R_move rfl rfl) ?_
  refine WM_val rfl rfl rfl rfl (R_nilCheck rfl rfl) ?_
  refine WM_val rfl rfl rfl rfl (R_fieldAddr rfl fa45_1 rfl) ?_
  refine WM_val rfl rfl rfl rfl (R_load rfl sc42 rfl (mmD) rfl) ?_
  refine WM_val rfl rfl rfl rfl (R_load rfl sc3 rfl (mmD) rfl) ?_
  refine WM_call rfl (Spec.quiet (iidx_ok (by omega) hC id)) rfl rfl rfl rfl rfl rfl rfl (pqD) ?_
  refine WM_val rfl rfl rfl rfl (R_assign rfl rfl) ?_
  refine WM_nil ?_
  refine WQ_code ?_
  refine WC_seq ?_
  refine WC_seq ?_
  refine WC_region ?_
  refine WL_val rfl rfl rfl (R_move rfl rfl) ?_
  refine WL_val rfl rfl rfl (R_lss rfl rfl rfl) ?_
  refine WL_nil ?_
  refine WQ_code ?_
  refine WC_dF rfl (by rw [hidx]; omega) ?_
  refine WC_skip ?_
  refine WQ_code ?_
  refine WC_seq ?_
  refine WC_region ?_
  refine WL_val rfl rfl rfl (R_move rfl rfl) ?_
  refine WL_val rfl rfl rfl (R_move rfl rfl) ?_
  refine WL_val rfl rfl rfl (R_nilCheck rfl rfl) ?_
  refine WL_val rfl rfl rfl (R_fieldAddr rfl fa45_1 rfl) ?_
  refine WL_val rfl rfl rfl (R_load rfl sc42 rfl (mmD) rfl) ?_
  refine WL_val rfl rfl rfl (R_move rfl rfl) ?_
  refine WL_val rfl rfl rfl (R_move rfl rfl) ?_
  refine WL_val rfl rfl rfl (R_addR (r := ((kk + 1 : Nat) : Int)) rfl rfl rfl (by rw [hidx, wrap64_in (by omega) (by omega)]; omega)) ?_
  refine WL_set (s := 19) (v := .int .i64 (kk : Int)) rfl (by rw [hidx]) ?_
  refine WL_do rfl rfl rfl (D_call (idel_ok (by omega) hC kk hkl) rfl rfl rfl rfl (pqD)) ?_
  rintro _ _ ⟨_, ⟨ctl9, rfl, ownC, rfl⟩, rfl⟩
  rw [hdel] at ownC ⊢
  refine WL_val rfl rfl rfl (R_nilCheck rfl rfl) ?_
  refine WL_val rfl rfl rfl (R_fieldAddr rfl fa45_1 rfl) ?_
  refine WL_do0 rfl rfl (D_store (vs := [_]) rfl Tryz.sizeOf42 rfl rfl rfl rfl rfl (plD) (by exact Nat.le_of_ble_eq_true rfl)) ?_
  rintro _ _ rfl
  refine WL_nil ?_
  refine WQ_code ?_
  refine WC_seq ?_
  refine WC_region ?_
  refine WL_val rfl rfl rfl (R_move rfl rfl) ?_
  refine WL_val rfl rfl rfl (R_move rfl rfl) ?_
  refine WL_val rfl rfl rfl (R_nilCheck rfl rfl) ?_
  refine WL_val rfl rfl rfl (R_fieldAddr rfl fa45_2 rfl) ?_
  refine WL_val rfl rfl rfl (R_load rfl sc43 rfl (mmD) rfl) ?_
  refine WL_val rfl rfl rfl (R_makeFunc rfl rfl rfl) ?_
  refine WL_do rfl rfl rfl (D_call (qdel_ok qu (by omega) hE0 [⟨some b1, cl [.int .i64 id] 3⟩] (isQ id) 66 [ptrC b1] (fun r => scl1_ok r b1 id)) rfl rfl rfl rfl (pqD)) ?_
  rintro _ _ ⟨_, ⟨etl9, rfl, ownQ, rfl⟩, rfl⟩
  refine WL_val rfl rfl rfl (R_nilCheck rfl rfl) ?_
  refine WL_val rfl rfl rfl (R_fieldAddr rfl fa45_2 rfl) ?_
  refine WL_do0 rfl rfl (D_store (vs := [_]) rfl Tryz.sizeOf43 rfl rfl rfl rfl rfl (plD) (by exact Nat.le_of_ble_eq_true rfl)) ?_
  rintro _ _ rfl
  refine WL_nil ?_
  refine WQ_code ?_
  refine WC_seq ?_
  refine WC_region ?_
  refine WL_val rfl rfl rfl (R_assign rfl rfl) ?_
  refine WL_nil ?_
  refine WQ_code ?_
  refine WC_ret ?_
  refine WQ_ret rfl rfl (.cons (.tmp rfl) .nil) rfl (by
      exact ⟨ctl9, etl9, rfl, ownC, ownQ, rfl⟩) (pqD)
end Go.Proofs.YtkcfgglmlogjbaaGreat
end
section
set_option linter.unusedVariables false
set_option maxRecDepth 20000
set_option maxHeartbeats 4000000
namespace Go.Proofs.YtkcfgglmlogjbaaGreat
theorem short22 {B : Nat} {p1 p2 : Pt} (h1 : p1.l.length ≤ B) (h2 : p2.l.length ≤ B) : ∀ p ∈ [p1, p2], p.l.length ≤ B := fun p hp => by
  simp only [List.mem_cons, List.not_mem_nil, or_false] at hp
  rcases hp with rfl | rfl <;> assumption
theorem hs_full {m : SvM} {x : Sv} (p : Nat) (h : SvIs m x) (hol : x.opn.length ≤ 32) (hql : x.qu.length ≤ 500000) (hlast : x.s.last < 4294967296) (hout : x.s.out.length ≤ 500000) (k : UInt8) (body : Bs) (h4 : 4 ≤ body.length) (hbl : body.length ≤ 1024) (v : Value) (o : Option Nat) (c2 : Nat) (tl : List Value) (own : Own o body.length c2 1 (bvs body) tl) (hk : k = 16 ∧ 12 ≤ body.length) (hid : (valB (body.take 4)) = x.s.last + 1) (hf : 32 ≤ x.opn.length) : Spec Tryz.prog 37 [ptrC p, .agg #[.int .u8 (k.toNat : Int), slV o body.length c2]] ([⟨some p, cl [sVal m.sd.ob m.sd.ok x.s.out.length m.sd.oc, v, .int .i64 0, .int .i64 (x.s.last : Int), .int .i64 0, slV m.cb x.opn.length m.cc, sVal m.eb m.ek x.qu.length m.ec] 45⟩] ++ ([oE m.sd x.s, svO m x, svQ m x] ++ rqH x.qu) ++ [⟨o, cl (bvs body ++ tl) 5⟩]) (fun r H' => ∃ m' x', SvIs m' x' ∧ x'.v = { x.v with last := x.v.last + 1, out := x.v.out ++ encF 17 (bigB (valB (body.take 4)) 4 ++ [0, 7]) } ∧ r = .tuple #[] ∧ H' = [⟨some p, cl [sVal m'.sd.ob m'.sd.ok x'.s.out.length m'.sd.oc, v, .int .i64 0, .int .i64 (x'.s.last : Int), .int .i64 0, slV m'.cb x'.opn.length m'.cc, sVal m'.eb m'.ek x'.qu.length m'.ec] 45⟩] ++ ([oE m'.sd x'.s, svO m' x', svQ m' x'] ++ rqH x'.qu)) := by
  have hv4 := val4_lt body
  refine Spec.of (E := [(0, ptrC p), (1, .agg #[.int .u8 (k.toNat : Int), slV o body.length c2])]) Tryz.func37 rfl (by kernel_rfl) Tryz.ntmps37 rfl rfl (fun w => ?_)
  refine WC_seq ?_
  refine WC_region ?_
  refine WL_do rfl rfl rfl (D_box (cs := [_, _]) rfl rfl rfl) ?_
  rintro _ _ ⟨b1, rfl, rfl⟩
  refine WL_nil ?_
  refine WQ_code ?_
  refine WC_seq ?_
  refine WC_region ?_
  refine WL_val rfl rfl rfl (R_fieldAddr rfl fa84_1 rfl) ?_
  refine WL_val rfl rfl rfl (R_load rfl sc23 rfl (mmD) rfl) ?_
  refine WL_do rfl rfl rfl (D_call (number_ok (RdB.own own) h4 (by omega) own.le) rfl rfl rfl rfl (pqD)) ?_
  rintro _ _ ⟨_, ⟨rfl, rfl⟩, rfl⟩
  refine WL_val rfl rfl rfl (R_assign rfl rfl) ?_
  refine WL_nil ?_
  refine WQ_code ?_
  refine WC_block ?_
  refine WC_seq ?_
  refine WC_region ?_
  refine WL_val rfl rfl rfl (R_fieldAddr rfl fa84_0 rfl) ?_
  refine WL_val rfl rfl rfl (R_load rfl sc5 rfl (mmD) rfl) ?_
  refine WL_val rfl rfl rfl (R_eql rfl rfl rfl) ?_
  refine WL_set (s := 12) (v := .bool true) rfl (by exact congrArg Value.bool (decide_eq_true (by rw [hk.1]; rfl))) ?_
  refine WL_val rfl rfl rfl (R_move rfl rfl) ?_
  refine WL_val rfl rfl rfl (R_fieldAddr rfl fa84_1 rfl) ?_
  refine WL_val rfl rfl rfl (R_load rfl sc23 rfl (mmD) rfl) ?_
  refine WL_val rfl rfl rfl (R_len rfl Tryz.underlying23 rfl) ?_
  refine WL_val rfl rfl rfl (R_geq rfl rfl rfl) ?_
  refine WL_set (s := 17) (v := .bool true) rfl (by exact congrArg Value.bool (decide_eq_true (by have := hk.2; omega))) ?_
  refine WL_val rfl rfl rfl (R_pickT rfl rfl rfl) ?_
  refine WL_val rfl rfl rfl (R_assign rfl rfl) ?_
  refine WL_nil ?_
  refine WQ_code ?_
  refine WC_T rfl ?_
  refine WC_seq ?_
  refine WC_region ?_
  refine WL_val rfl rfl rfl (R_move rfl rfl) ?_
  refine WL_val rfl rfl rfl (R_move rfl rfl) ?_
  refine WL_val rfl rfl rfl (R_nilCheck rfl rfl) ?_
  refine WL_val rfl rfl rfl (R_fieldAddr rfl fa45_0 rfl) ?_
  refine WL_val rfl rfl rfl (R_fieldAddr rfl fa34_2 rfl) ?_
  refine WL_val rfl rfl rfl (R_load rfl sc3 rfl (mmD) rfl) ?_
  refine WL_val rfl rfl rfl (R_addR (r := ((x.s.last + 1 : Nat) : Int)) rfl rfl rfl (by rw [wrap64_in (by omega) (by omega)]; omega)) ?_
  refine WL_val rfl rfl rfl (R_eql rfl rfl rfl) ?_
  refine WL_set (s := 26) (v := .bool true) rfl (by exact congrArg Value.bool (decide_eq_true (by omega))) ?_
  refine WL_do rfl rfl rfl (D_call (must_ok _) rfl rfl rfl rfl (pqD)) ?_
  rintro _ _ ⟨_, ⟨rfl, rfl⟩, rfl⟩
  refine WL_nil ?_
  refine WQ_code ?_
  refine WC_seq ?_
  refine WC_region ?_
  refine WL_val rfl rfl rfl (R_move rfl rfl) ?_
  refine WL_val rfl rfl rfl (R_nilCheck rfl rfl) ?_
  refine WL_val rfl rfl rfl (R_fieldAddr rfl fa45_0 rfl) ?_
  refine WL_val rfl rfl rfl (R_fieldAddr rfl fa34_2 rfl) ?_
  refine WL_val rfl rfl rfl (R_load rfl sc3 rfl (mmD) rfl) ?_
  refine WL_val rfl rfl rfl (R_addR (r := ((x.s.last + 1 : Nat) : Int)) rfl rfl rfl (by rw [wrap64_in (by omega) (by omega)]; omega)) ?_
  refine WL_val rfl rfl rfl (R_nilCheck rfl rfl) ?_
  refine WL_val rfl rfl rfl (R_fieldAddr rfl fa45_0 rfl) ?_
  refine WL_val rfl rfl rfl (R_fieldAddr rfl fa34_2 rfl) ?_
  refine WL_do0 rfl rfl (D_store (vs := [_]) rfl Tryz.sizeOf3 rfl rfl rfl rfl rfl (plD) (by exact Nat.le_of_ble_eq_true rfl)) ?_
  rintro _ _ rfl
  refine WL_nil ?_
  refine WQ_code ?_
  refine WC_seq ?_
  refine WC_seq ?_
  refine WC_region ?_
  refine WL_val rfl rfl rfl (R_move rfl rfl) ?_
  refine WL_val rfl rfl rfl (R_nilCheck rfl rfl) ?_
  refine WL_val rfl rfl rfl (R_fieldAddr rfl fa45_1 rfl) ?_
  refine WL_val rfl rfl rfl (R_load rfl sc42 rfl (mmD) rfl) ?_
  refine WL_val rfl rfl rfl (R_len rfl Tryz.underlying42 rfl) ?_
  refine WL_val rfl rfl rfl (R_geq rfl rfl rfl) ?_
  refine WL_nil ?_
  refine WQ_code ?_
  refine WC_dT rfl (by omega) ?_
  refine WC_seq ?_
  refine WC_drawBR (⟨some p, _⟩ :: [⟨m.sd.ob, _⟩]) [(0, .q), (1, .q), (2, .q), (3, .q), (4, .n [5]), (5, .b []), (6, .b []), (7, .n [])] followsMixed rfl rfl (by kernel_rfl) (pqD) ?_
  refine WB_val rfl rfl rfl rfl (R_move rfl rfl) ?_
  refine WB_val rfl rfl rfl rfl (R_nilCheck rfl rfl) ?_
  refine WB_val rfl rfl rfl rfl (R_fieldAddr rfl fa45_0 rfl) ?_
  refine WB_val rfl rfl rfl rfl (R_move rfl rfl) ?_
  refine WB_do rfl rfl rfl rfl (.cons rfl rfl (B_buildSlice rfl si23 rfl rfl rfl) .nil) (fun _ => D_call (four_ok (valB (body.take 4)) (by omega)) rfl rfl rfl rfl (pqD)) ?_
  rintro _ _ ⟨_, ⟨b4, rfl, rfl⟩, rfl⟩
  refine ⟨⟨_, pqD⟩, ?_⟩
  refine WB_birth rfl rfl rfl rfl .nil (B_buildSlice rfl si23 rfl rfl rfl) (fun b2 => ?_)
  refine WB_birth rfl rfl rfl rfl .nil (B_buildSlice rfl si22 rfl rfl rfl) (fun b3 => ?_)
  refine WB_do rfl rfl rfl rfl .nil (fun _ => D_call (send_ok p 45 _ h.sd.oO 17 b3 [⟨some ⟨b4, 0, none⟩, 4, bigB (valB (body.take 4)) 4⟩, ⟨some ⟨b2, 0, none⟩, 2, [0, 7]⟩] [⟨some b4, cl (bvs (bigB (valB (body.take 4)) 4)) 5⟩, ⟨some b2, cl (bvs [0, 7]) 5⟩] (by simp) (by simp) (parts2 (RdB.blk b4 _) (RdB.blk b2 [0, 7])) (short22 (by simp [bigB_len]) (by simp)) (by simp [joinL, bigB_len]) (by omega)) rfl rfl rfl rfl (pqD)) ?_
  rintro _ _ ⟨_, ⟨ob3, k3, c3, pre3, tl3, rfl, rfl, own3⟩, rfl⟩
  refine ⟨⟨_, pqD⟩, ?_⟩
  rw [show joinL [⟨some ⟨b4, 0, none⟩, 4, bigB (valB (body.take 4)) 4⟩, ⟨some ⟨b2, 0, none⟩, 2, [0, 7]⟩] = bigB (valB (body.take 4)) 4 ++ [0, 7] from by simp [joinL]] at own3 ⊢
  refine WB_nil ?_
  refine WQ_code ?_
  refine WC_ret ?_
  refine WQ_ret rfl rfl .nil rfl (by
      exact ⟨{ m with sd := { m.sd with ob := ob3, ok := k3, oc := c3, op := pre3, ot := tl3 } }, { x with s := { x.s with last := x.s.last + 1, out := x.s.out ++ encF 17 (bigB (valB (body.take 4)) 4 ++ [0, 7]) } }, ⟨⟨own3, h.sd.iO⟩, h.cO, h.eO, h.rO⟩, rfl, rfl, rfl⟩) (pqD)
theorem hs_open {m : SvM} {x : Sv} (p : Nat) (h : SvIs m x) (hol : x.opn.length ≤ 32) (hql : x.qu.length ≤ 500000) (hlast : x.s.last < 4294967296) (hout : x.s.out.length ≤ 500000) (k : UInt8) (body : Bs) (h4 : 4 ≤ body.length) (hbl : body.length ≤ 1024) (v : Value) (o : Option Nat) (c2 : Nat) (tl : List Value) (own : Own o body.length c2 1 (bvs body) tl) (hk : k = 16 ∧ 12 ≤ body.length) (hid : (valB (body.take 4)) = x.s.last + 1) (hf : ¬ 32 ≤ x.opn.length) : Spec Tryz.prog 37 [ptrC p, .agg #[.int .u8 (k.toNat : Int), slV o body.length c2]] ([⟨some p, cl [sVal m.sd.ob m.sd.ok x.s.out.length m.sd.oc, v, .int .i64 0, .int .i64 (x.s.last : Int), .int .i64 0, slV m.cb x.opn.length m.cc, sVal m.eb m.ek x.qu.length m.ec] 45⟩] ++ ([oE m.sd x.s, svO m x, svQ m x] ++ rqH x.qu) ++ [⟨o, cl (bvs body ++ tl) 5⟩]) (fun r H' => ∃ m' x', SvIs m' x' ∧ x'.v = { x.v with last := x.v.last + 1, opn := x.v.opn ++ [((valB (body.take 4)) : Int)], qu := x.v.qu ++ [⟨((valB (body.take 4)) : Int), valB ((body.drop 4).take 8), body.drop 12⟩] } ∧ r = .tuple #[] ∧ H' = [⟨some p, cl [sVal m'.sd.ob m'.sd.ok x'.s.out.length m'.sd.oc, v, .int .i64 0, .int .i64 (x'.s.last : Int), .int .i64 0, slV m'.cb x'.opn.length m'.cc, sVal m'.eb m'.ek x'.qu.length m'.ec] 45⟩] ++ ([oE m'.sd x'.s, svO m' x', svQ m' x'] ++ rqH x'.qu)) := by
  have hv4 := val4_lt body
  refine Spec.of (E := [(0, ptrC p), (1, .agg #[.int .u8 (k.toNat : Int), slV o body.length c2])]) Tryz.func37 rfl (by kernel_rfl) Tryz.ntmps37 rfl rfl (fun w => ?_)
  refine WC_seq ?_
  refine WC_region ?_
  refine WL_do rfl rfl rfl (D_box (cs := [_, _]) rfl rfl rfl) ?_
  rintro _ _ ⟨b1, rfl, rfl⟩
  refine WL_nil ?_
  refine WQ_code ?_
  refine WC_seq ?_
  refine WC_region ?_
  refine WL_val rfl rfl rfl (R_fieldAddr rfl fa84_1 rfl) ?_
  refine WL_val rfl rfl rfl (R_load rfl sc23 rfl (mmD) rfl) ?_
  refine WL_do rfl rfl rfl (D_call (number_ok (RdB.own own) h4 (by omega) own.le) rfl rfl rfl rfl (pqD)) ?_
  rintro _ _ ⟨_, ⟨rfl, rfl⟩, rfl⟩
  refine WL_val rfl rfl rfl (R_assign rfl rfl) ?_
  refine WL_nil ?_
  refine WQ_code ?_
  refine WC_block ?_
  refine WC_seq ?_
  refine WC_region ?_
  refine WL_val rfl rfl rfl (R_fieldAddr rfl fa84_0 rfl) ?_
  refine WL_val rfl rfl rfl (R_load rfl sc5 rfl (mmD) rfl) ?_
  refine WL_val rfl rfl rfl (R_eql rfl rfl rfl) ?_
  refine WL_set (s := 12) (v := .bool true) rfl (by exact congrArg Value.bool (decide_eq_true (by rw [hk.1]; rfl))) ?_
  refine WL_val rfl rfl rfl (R_move rfl rfl) ?_
  refine WL_val rfl rfl rfl (R_fieldAddr rfl fa84_1 rfl) ?_
  refine WL_val rfl rfl rfl (R_load rfl sc23 rfl (mmD) rfl) ?_
  refine WL_val rfl rfl rfl (R_len rfl Tryz.underlying23 rfl) ?_
  refine WL_val rfl rfl rfl (R_geq rfl rfl rfl) ?_
  refine WL_set (s := 17) (v := .bool true) rfl (by exact congrArg Value.bool (decide_eq_true (by have := hk.2; omega))) ?_
  refine WL_val rfl rfl rfl (R_pickT rfl rfl rfl) ?_
  refine WL_val rfl rfl rfl (R_assign rfl rfl) ?_
  refine WL_nil ?_
  refine WQ_code ?_
  refine WC_T rfl ?_
  refine WC_seq ?_
  refine WC_region ?_
  refine WL_val rfl rfl rfl (R_move rfl rfl) ?_
  refine WL_val rfl rfl rfl (R_move rfl rfl) ?_
  refine WL_val rfl rfl rfl (R_nilCheck rfl rfl) ?_
  refine WL_val rfl rfl rfl (R_fieldAddr rfl fa45_0 rfl) ?_
  refine WL_val rfl rfl rfl (R_fieldAddr rfl fa34_2 rfl) ?_
  refine WL_val rfl rfl rfl (R_load rfl sc3 rfl (mmD) rfl) ?_
  refine WL_val rfl rfl rfl (R_addR (r := ((x.s.last + 1 : Nat) : Int)) rfl rfl rfl (by rw [wrap64_in (by omega) (by omega)]; omega)) ?_
  refine WL_val rfl rfl rfl (R_eql rfl rfl rfl) ?_
  refine WL_set (s := 26) (v := .bool true) rfl (by exact congrArg Value.bool (decide_eq_true (by omega))) ?_
  refine WL_do rfl rfl rfl (D_call (must_ok _) rfl rfl rfl rfl (pqD)) ?_
  rintro _ _ ⟨_, ⟨rfl, rfl⟩, rfl⟩
  refine WL_nil ?_
  refine WQ_code ?_
  refine WC_seq ?_
  refine WC_region ?_
  refine WL_val rfl rfl rfl (R_move rfl rfl) ?_
  refine WL_val rfl rfl rfl (R_nilCheck rfl rfl) ?_
  refine WL_val rfl rfl rfl (R_fieldAddr rfl fa45_0 rfl) ?_
  refine WL_val rfl rfl rfl (R_fieldAddr rfl fa34_2 rfl) ?_
  refine WL_val rfl rfl rfl (R_load rfl sc3 rfl (mmD) rfl) ?_
  refine WL_val rfl rfl rfl (R_addR (r := ((x.s.last + 1 : Nat) : Int)) rfl rfl rfl (by rw [wrap64_in (by omega) (by omega)]; omega)) ?_
  refine WL_val rfl rfl rfl (R_nilCheck rfl rfl) ?_
  refine WL_val rfl rfl rfl (R_fieldAddr rfl fa45_0 rfl) ?_
  refine WL_val rfl rfl rfl (R_fieldAddr rfl fa34_2 rfl) ?_
  refine WL_do0 rfl rfl (D_store (vs := [_]) rfl Tryz.sizeOf3 rfl rfl rfl rfl rfl (plD) (by exact Nat.le_of_ble_eq_true rfl)) ?_
  rintro _ _ rfl
  refine WL_nil ?_
  refine WQ_code ?_
  refine WC_seq ?_
  refine WC_seq ?_
  refine WC_region ?_
  refine WL_val rfl rfl rfl (R_move rfl rfl) ?_
  refine WL_val rfl rfl rfl (R_nilCheck rfl rfl) ?_
  refine WL_val rfl rfl rfl (R_fieldAddr rfl fa45_1 rfl) ?_
  refine WL_val rfl rfl rfl (R_load rfl sc42 rfl (mmD) rfl) ?_
  refine WL_val rfl rfl rfl (R_len rfl Tryz.underlying42 rfl) ?_
  refine WL_val rfl rfl rfl (R_geq rfl rfl rfl) ?_
  refine WL_nil ?_
  refine WQ_code ?_
  refine WC_dF rfl (by omega) ?_
  refine WC_skip ?_
  refine WQ_code ?_
  refine WC_seq ?_
  refine WC_region ?_
  refine WL_val rfl rfl rfl (R_move rfl rfl) ?_
  refine WL_val rfl rfl rfl (R_move rfl rfl) ?_
  refine WL_val rfl rfl rfl (R_nilCheck rfl rfl) ?_
  refine WL_val rfl rfl rfl (R_fieldAddr rfl fa45_1 rfl) ?_
  refine WL_val rfl rfl rfl (R_load rfl sc42 rfl (mmD) rfl) ?_
  refine WL_val rfl rfl rfl (R_move rfl rfl) ?_
  refine WL_do rfl rfl rfl (D_buildSlice rfl si42 rfl rfl rfl) ?_
  rintro _ _ ⟨b2, rfl, rfl⟩
  refine WL_do rfl rfl rfl (D_append rfl si42 rfl h.cO plD rfl mmD (atZ : At _ 0 [_]) rfl rfl (by omega) (by omega)) ?_
  rintro _ _ ⟨obO, cO9, tlO, rfl, ownO, rfl⟩
  rw [show ivs x.opn ++ [Value.int .i64 ((valB (body.take 4)) : Int)] = ivs (x.opn ++ [((valB (body.take 4)) : Int)]) from by simp, show x.opn.length + 1 = (x.opn ++ [((valB (body.take 4)) : Int)]).length from by simp] at ownO ⊢
  refine WL_val rfl rfl rfl (R_nilCheck rfl rfl) ?_
  refine WL_val rfl rfl rfl (R_fieldAddr rfl fa45_1 rfl) ?_
  refine WL_do0 rfl rfl (D_store (vs := [_]) rfl Tryz.sizeOf42 rfl rfl rfl rfl rfl (plD) (by exact Nat.le_of_ble_eq_true rfl)) ?_
  rintro _ _ rfl
  refine WL_nil ?_
  refine WQ_code ?_
  refine WC_drawY (⟨some p, _⟩ :: [⟨m.eb, _⟩]) [(p, 6, sVal m.eb m.ek x.qu.length m.ec)] [19] [(0, false), (1, false), (2, false), (3, false), (4, true)] [(5, true), (6, true), (7, true), (8, true), (10, true), (11, true), (12, true), (9, false), (13, false), (14, true), (15, false), (16, false), (17, true), (18, true), (19, false)] followsMixed rfl rfl (by kernel_rfl) (pqD) (.cons (mmD) rfl .nil) ?_
  obtain ⟨wb, rfl⟩ := own.some_of (by omega)
  have hat : At (bvs body ++ tl) 0 (bvs body) := fun j v hj => by rw [Nat.zero_add, List.getElem?_append_left (List.getElem?_eq_some_iff.1 hj).1]; exact hj
  refine WYE_val rfl rfl rfl rfl (R_move rfl rfl) ?_
  refine WYE_val rfl rfl rfl rfl (R_move rfl rfl) ?_
  refine WYE_val rfl rfl rfl rfl (R_nilCheck rfl rfl) ?_
  refine WYE_val rfl rfl rfl rfl (R_fieldAddr rfl fa45_2 rfl) ?_
  refine WYE_early rfl rfl rfl rfl rfl sc43 rfl (by repeat (first | exact List.Mem.head _ | refine List.Mem.tail _ ?_)) ?_
  refine WYE_rest ?_
  refine WY_val rfl rfl rfl rfl (R_move rfl rfl) ?_
  refine WY_val rfl rfl rfl rfl (R_fieldAddr rfl fa84_1 rfl) ?_
  refine WY_val rfl rfl rfl rfl (R_load rfl sc23 rfl (mmD) rfl) ?_
  refine WY_val rfl rfl rfl rfl (R_sliceLH (m := 4) (h := 12) rfl Tryz.underlying23 Tryz.sizeOf5 rfl rfl rfl (by omega) (by have := own.le; omega)) ?_
  rw [if_neg (show ¬ c2 = 4 by have := own.le; have := hk.2; omega), show 12 - 4 = ((body.drop 4).take 8).length from by have := hk.2; simp; omega]
  refine WY_val rfl rfl rfl rfl (R_fieldAddr rfl fa84_1 rfl) ?_
  refine WY_val rfl rfl rfl rfl (R_load rfl sc23 rfl (mmD) rfl) ?_
  refine WY_val rfl rfl rfl rfl (R_sliceFromK (m := 12) rfl Tryz.underlying23 Tryz.sizeOf5 rfl rfl (by have := hk.2; omega)) ?_
  refine WY_set (s := 73) (v := .slice (some ⟨wb, if c2 = 12 then 0 else 0 + 12 * 1, none⟩) (body.drop 12).length (c2 - 12)) rfl (by rw [List.length_drop]) ?_
  refine WY_do rfl rfl rfl rfl (D_call (value_ok (rd_sub (i := 4) (n := 8) hat) (by simp; omega)) rfl rfl rfl rfl (pqD)) ?_
  rintro _ _ ⟨_, ⟨rfl, rfl⟩, rfl⟩
  refine ⟨⟨_, pqD⟩, .inr (.cons (mmD) rfl .nil), ?_⟩
  refine WY_do rfl rfl rfl rfl (D_call (clone_some (rd_from (m := 12) hat own.le) (by simp; omega)) rfl rfl rfl rfl (pqD)) ?_
  rintro _ _ ⟨_, ⟨o9, c9, tl9, rfl, own9, rfl⟩, rfl⟩
  refine ⟨⟨_, pqD⟩, .inr (.cons (mmD) rfl .nil), ?_⟩
  refine WY_val rfl rfl rfl rfl (R_build rfl zv59 pl59 rfl rfl) ?_
  refine WY_do rfl rfl rfl rfl (D_buildSlice rfl si43 rfl rfl rfl) ?_
  rintro _ _ ⟨b3, rfl, rfl⟩
  refine ⟨⟨_, pqD⟩, .inr (.cons (mmD) rfl .nil), ?_⟩
  refine WY_do rfl rfl rfl rfl (D_appendS rfl si43 rfl h.eO plD rfl mmD (atZ : At _ 0 [_, _, _]) rfl rfl (by decide) (by omega) (by omega)) ?_
  rintro _ _ ⟨obS, kS, cS, preS, tlS, rfl, ownS, rfl⟩
  refine ⟨⟨_, pqD⟩, .inr (.cons (mmD) rfl .nil), ?_⟩
  rw [show x.qu.flatMap encRq ++ [Value.int .i64 ((valB (body.take 4)) : Int), .int .u64 (valB ((body.drop 4).take 8) : Int), slV o9 (body.drop 12).length c9] = (x.qu ++ [(⟨((valB (body.take 4)) : Int), valB ((body.drop 4).take 8), body.drop 12, o9, c9, tl9⟩ : Rq)]).flatMap encRq from by simp, show x.qu.length + 1 = (x.qu ++ [(⟨((valB (body.take 4)) : Int), valB ((body.drop 4).take 8), body.drop 12, o9, c9, tl9⟩ : Rq)]).length from by simp] at ownS ⊢
  refine WY_val rfl rfl rfl rfl (R_nilCheck rfl rfl) ?_
  refine WY_val rfl rfl rfl rfl (R_fieldAddr rfl fa45_2 rfl) ?_
  refine WY_do0 rfl rfl rfl (D_store (vs := [_]) rfl Tryz.sizeOf43 rfl rfl rfl rfl rfl (plD) (by exact Nat.le_of_ble_eq_true rfl)) ?_
  rintro _ _ rfl
  refine ⟨⟨_, pqD⟩, .inl rfl, ?_⟩
  refine WY_nil ?_
  refine WQshp (A := rqE (⟨((valB (body.take 4)) : Int), valB ((body.drop 4).take 8), body.drop 12, o9, c9, tl9⟩ : Rq) :: rqH x.qu) (A' := rqH (x.qu ++ [(⟨((valB (body.take 4)) : Int), valB ((body.drop 4).take 8), body.drop 12, o9, c9, tl9⟩ : Rq)])) pqD (by unfold rqH; rw [List.map_append]; exact List.perm_append_comm (l₁ := [_])) ?_
  refine WQ_ret rfl rfl .nil rfl (by
      exact ⟨{ m with cb := obO, cc := cO9, ctl := tlO, eb := obS, ek := kS, ec := cS, epre := preS, etl := tlS }, { x with s := { x.s with last := x.s.last + 1 }, opn := x.opn ++ [((valB (body.take 4)) : Int)], qu := x.qu ++ [(⟨((valB (body.take 4)) : Int), valB ((body.drop 4).take 8), body.drop 12, o9, c9, tl9⟩ : Rq)] }, ⟨⟨h.sd.oO, h.sd.iO⟩, ownO, ownS, fun r hr => by rcases List.mem_append.1 hr with h1 | h1; exact h.rO r h1; rw [List.mem_singleton.1 h1]; exact own9⟩, by simp only [Sv.v, List.map_append]; rfl, rfl, rfl⟩) (pqD)
theorem hs_cancel {m : SvM} {x : Sv} (p : Nat) (h : SvIs m x) (hol : x.opn.length ≤ 32) (hql : x.qu.length ≤ 500000) (hlast : x.s.last < 4294967296) (hout : x.s.out.length ≤ 500000) (k : UInt8) (body : Bs) (h4 : 4 ≤ body.length) (hbl : body.length ≤ 1024) (v : Value) (o : Option Nat) (c2 : Nat) (tl : List Value) (own : Own o body.length c2 1 (bvs body) tl) (hk : k = 18 ∧ body.length = 4) (hid : 0 < (valB (body.take 4)) ∧ (valB (body.take 4)) ≤ x.s.last) : Spec Tryz.prog 37 [ptrC p, .agg #[.int .u8 (k.toNat : Int), slV o body.length c2]] ([⟨some p, cl [sVal m.sd.ob m.sd.ok x.s.out.length m.sd.oc, v, .int .i64 0, .int .i64 (x.s.last : Int), .int .i64 0, slV m.cb x.opn.length m.cc, sVal m.eb m.ek x.qu.length m.ec] 45⟩] ++ ([oE m.sd x.s, svO m x, svQ m x] ++ rqH x.qu) ++ [⟨o, cl (bvs body ++ tl) 5⟩]) (fun r H' => ∃ m' x', SvIs m' x' ∧ x'.v = x.v.close ((valB (body.take 4)) : Int) ∧ r = .tuple #[] ∧ H' = [⟨some p, cl [sVal m'.sd.ob m'.sd.ok x'.s.out.length m'.sd.oc, v, .int .i64 0, .int .i64 (x'.s.last : Int), .int .i64 0, slV m'.cb x'.opn.length m'.cc, sVal m'.eb m'.ek x'.qu.length m'.ec] 45⟩] ++ ([oE m'.sd x'.s, svO m' x', svQ m' x'] ++ rqH x'.qu)) := by
  have hv4 := val4_lt body
  unfold PV.close
  by_cases hyes : x.opn.any (eqI ((valB (body.take 4)) : Int)) = true
  · rw [if_pos (show x.v.opn.any (eqI ((valB (body.take 4)) : Int)) = true from hyes)]
    obtain ⟨G, hG⟩ := rqH_flt (nP (isQ ((valB (body.take 4)) : Int))) x.qu
    refine Spec.of (E := [(0, ptrC p), (1, .agg #[.int .u8 (k.toNat : Int), slV o body.length c2])]) Tryz.func37 rfl (by kernel_rfl) Tryz.ntmps37 rfl rfl (fun w => ?_)
    refine WC_seq ?_
    refine WC_region ?_
    refine WL_do rfl rfl rfl (D_box (cs := [_, _]) rfl rfl rfl) ?_
    rintro _ _ ⟨b1, rfl, rfl⟩
    refine WL_nil ?_
    refine WQ_code ?_
    refine WC_seq ?_
    refine WC_region ?_
    refine WL_val rfl rfl rfl (R_fieldAddr rfl fa84_1 rfl) ?_
    refine WL_val rfl rfl rfl (R_load rfl sc23 rfl (mmD) rfl) ?_
    refine WL_do rfl rfl rfl (D_call (number_ok (RdB.own own) h4 (by omega) own.le) rfl rfl rfl rfl (pqD)) ?_
    rintro _ _ ⟨_, ⟨rfl, rfl⟩, rfl⟩
    refine WL_val rfl rfl rfl (R_assign rfl rfl) ?_
    refine WL_nil ?_
    refine WQ_code ?_
    refine WC_block ?_
    refine WC_seq ?_
    refine WC_region ?_
    refine WL_val rfl rfl rfl (R_fieldAddr rfl fa84_0 rfl) ?_
    refine WL_val rfl rfl rfl (R_load rfl sc5 rfl (mmD) rfl) ?_
    refine WL_val rfl rfl rfl (R_eql rfl rfl rfl) ?_
    refine WL_set (s := 12) (v := .bool false) rfl (by exact congrArg Value.bool (decide_eq_false (by rw [hk.1]; decide))) ?_
    refine WL_val rfl rfl rfl (R_move rfl rfl) ?_
    refine WL_skip rfl rfl rfl ?_
    refine WL_skip rfl rfl rfl ?_
    refine WL_skip rfl rfl rfl ?_
    refine WL_skip rfl rfl rfl ?_
    refine WL_val rfl rfl rfl (R_pickF rfl rfl rfl) ?_
    refine WL_val rfl rfl rfl (R_assign rfl rfl) ?_
    refine WL_nil ?_
    refine WQ_code ?_
    refine WC_F rfl ?_
    refine WC_seq ?_
    refine WC_region ?_
    refine WL_val rfl rfl rfl (R_fieldAddr rfl fa84_0 rfl) ?_
    refine WL_val rfl rfl rfl (R_load rfl sc5 rfl (mmD) rfl) ?_
    refine WL_val rfl rfl rfl (R_eql rfl rfl rfl) ?_
    refine WL_set (s := 83) (v := .bool true) rfl (by exact congrArg Value.bool (decide_eq_true (by rw [hk.1]; rfl))) ?_
    refine WL_val rfl rfl rfl (R_move rfl rfl) ?_
    refine WL_val rfl rfl rfl (R_fieldAddr rfl fa84_1 rfl) ?_
    refine WL_val rfl rfl rfl (R_load rfl sc23 rfl (mmD) rfl) ?_
    refine WL_val rfl rfl rfl (R_len rfl Tryz.underlying23 rfl) ?_
    refine WL_val rfl rfl rfl (R_eql rfl rfl rfl) ?_
    refine WL_set (s := 88) (v := .bool true) rfl (by exact congrArg Value.bool (decide_eq_true (by have := hk.2; omega))) ?_
    refine WL_val rfl rfl rfl (R_pickT rfl rfl rfl) ?_
    refine WL_val rfl rfl rfl (R_assign rfl rfl) ?_
    refine WL_nil ?_
    refine WQ_code ?_
    refine WC_T rfl ?_
    refine WC_seq ?_
    refine WC_region ?_
    refine WL_val rfl rfl rfl (R_move rfl rfl) ?_
    refine WL_val rfl rfl rfl (R_gtr rfl rfl rfl) ?_
    refine WL_set (s := 91) (v := .bool true) rfl (by exact congrArg Value.bool (decide_eq_true (by omega))) ?_
    refine WL_val rfl rfl rfl (R_move rfl rfl) ?_
    refine WL_val rfl rfl rfl (R_move rfl rfl) ?_
    refine WL_val rfl rfl rfl (R_move rfl rfl) ?_
    refine WL_val rfl rfl rfl (R_nilCheck rfl rfl) ?_
    refine WL_val rfl rfl rfl (R_fieldAddr rfl fa45_0 rfl) ?_
    refine WL_val rfl rfl rfl (R_fieldAddr rfl fa34_2 rfl) ?_
    refine WL_val rfl rfl rfl (R_load rfl sc3 rfl (mmD) rfl) ?_
    refine WL_val rfl rfl rfl (R_leq rfl rfl rfl) ?_
    refine WL_set (s := 99) (v := .bool true) rfl (by exact congrArg Value.bool (decide_eq_true (by omega))) ?_
    refine WL_val rfl rfl rfl (R_pickT rfl rfl rfl) ?_
    refine WL_do rfl rfl rfl (D_call (must_ok _) rfl rfl rfl rfl (pqD)) ?_
    rintro _ _ ⟨_, ⟨rfl, rfl⟩, rfl⟩
    refine WL_nil ?_
    refine WQ_code ?_
    refine WC_region ?_
    refine WL_val rfl rfl rfl (R_move rfl rfl) ?_
    refine WL_val rfl rfl rfl (R_move rfl rfl) ?_
    refine WL_do rfl rfl rfl (D_call (sclose_yes p _ _ _ _ _ h.cO h.eO (by omega) (by omega) ((valB (body.take 4)) : Int) hyes) rfl rfl rfl rfl (pqD)) ?_
    rintro _ _ ⟨_, ⟨ctl9, etl9, rfl, ownC, ownQ, rfl⟩, rfl⟩
    refine WL_nil ?_
    refine WQshp (A := rqH x.qu) (A' := rqH (x.qu.filter (nP (isQ ((valB (body.take 4)) : Int)))) ++ G) pqD hG ?_
    refine WQ_ret rfl rfl .nil rfl (by
        exact ⟨{ m with ctl := ctl9, etl := etl9 }, { x with opn := delI ((valB (body.take 4)) : Int) x.opn, qu := x.qu.filter (nP (isQ ((valB (body.take 4)) : Int))) }, ⟨h.sd, ownC, ownQ, rq_flt h.rO⟩, by simp only [Sv.v, notId_map], rfl, rfl⟩) (pqD)
  · rw [if_neg (show ¬ x.v.opn.any (eqI ((valB (body.take 4)) : Int)) = true from hyes)]
    have hno : x.opn.any (eqI ((valB (body.take 4)) : Int)) = false := by simpa using hyes
    refine Spec.of (E := [(0, ptrC p), (1, .agg #[.int .u8 (k.toNat : Int), slV o body.length c2])]) Tryz.func37 rfl (by kernel_rfl) Tryz.ntmps37 rfl rfl (fun w => ?_)
    refine WC_seq ?_
    refine WC_region ?_
    refine WL_do rfl rfl rfl (D_box (cs := [_, _]) rfl rfl rfl) ?_
    rintro _ _ ⟨b1, rfl, rfl⟩
    refine WL_nil ?_
    refine WQ_code ?_
    refine WC_seq ?_
    refine WC_region ?_
    refine WL_val rfl rfl rfl (R_fieldAddr rfl fa84_1 rfl) ?_
    refine WL_val rfl rfl rfl (R_load rfl sc23 rfl (mmD) rfl) ?_
    refine WL_do rfl rfl rfl (D_call (number_ok (RdB.own own) h4 (by omega) own.le) rfl rfl rfl rfl (pqD)) ?_
    rintro _ _ ⟨_, ⟨rfl, rfl⟩, rfl⟩
    refine WL_val rfl rfl rfl (R_assign rfl rfl) ?_
    refine WL_nil ?_
    refine WQ_code ?_
    refine WC_block ?_
    refine WC_seq ?_
    refine WC_region ?_
    refine WL_val rfl rfl rfl (R_fieldAddr rfl fa84_0 rfl) ?_
    refine WL_val rfl rfl rfl (R_load rfl sc5 rfl (mmD) rfl) ?_
    refine WL_val rfl rfl rfl (R_eql rfl rfl rfl) ?_
    refine WL_set (s := 12) (v := .bool false) rfl (by exact congrArg Value.bool (decide_eq_false (by rw [hk.1]; decide))) ?_
    refine WL_val rfl rfl rfl (R_move rfl rfl) ?_
    refine WL_skip rfl rfl rfl ?_
    refine WL_skip rfl rfl rfl ?_
    refine WL_skip rfl rfl rfl ?_
    refine WL_skip rfl rfl rfl ?_
    refine WL_val rfl rfl rfl (R_pickF rfl rfl rfl) ?_
    refine WL_val rfl rfl rfl (R_assign rfl rfl) ?_
    refine WL_nil ?_
    refine WQ_code ?_
    refine WC_F rfl ?_
    refine WC_seq ?_
    refine WC_region ?_
    refine WL_val rfl rfl rfl (R_fieldAddr rfl fa84_0 rfl) ?_
    refine WL_val rfl rfl rfl (R_load rfl sc5 rfl (mmD) rfl) ?_
    refine WL_val rfl rfl rfl (R_eql rfl rfl rfl) ?_
    refine WL_set (s := 83) (v := .bool true) rfl (by exact congrArg Value.bool (decide_eq_true (by rw [hk.1]; rfl))) ?_
    refine WL_val rfl rfl rfl (R_move rfl rfl) ?_
    refine WL_val rfl rfl rfl (R_fieldAddr rfl fa84_1 rfl) ?_
    refine WL_val rfl rfl rfl (R_load rfl sc23 rfl (mmD) rfl) ?_
    refine WL_val rfl rfl rfl (R_len rfl Tryz.underlying23 rfl) ?_
    refine WL_val rfl rfl rfl (R_eql rfl rfl rfl) ?_
    refine WL_set (s := 88) (v := .bool true) rfl (by exact congrArg Value.bool (decide_eq_true (by have := hk.2; omega))) ?_
    refine WL_val rfl rfl rfl (R_pickT rfl rfl rfl) ?_
    refine WL_val rfl rfl rfl (R_assign rfl rfl) ?_
    refine WL_nil ?_
    refine WQ_code ?_
    refine WC_T rfl ?_
    refine WC_seq ?_
    refine WC_region ?_
    refine WL_val rfl rfl rfl (R_move rfl rfl) ?_
    refine WL_val rfl rfl rfl (R_gtr rfl rfl rfl) ?_
    refine WL_set (s := 91) (v := .bool true) rfl (by exact congrArg Value.bool (decide_eq_true (by omega))) ?_
    refine WL_val rfl rfl rfl (R_move rfl rfl) ?_
    refine WL_val rfl rfl rfl (R_move rfl rfl) ?_
    refine WL_val rfl rfl rfl (R_move rfl rfl) ?_
    refine WL_val rfl rfl rfl (R_nilCheck rfl rfl) ?_
    refine WL_val rfl rfl rfl (R_fieldAddr rfl fa45_0 rfl) ?_
    refine WL_val rfl rfl rfl (R_fieldAddr rfl fa34_2 rfl) ?_
    refine WL_val rfl rfl rfl (R_load rfl sc3 rfl (mmD) rfl) ?_
    refine WL_val rfl rfl rfl (R_leq rfl rfl rfl) ?_
    refine WL_set (s := 99) (v := .bool true) rfl (by exact congrArg Value.bool (decide_eq_true (by omega))) ?_
    refine WL_val rfl rfl rfl (R_pickT rfl rfl rfl) ?_
    refine WL_do rfl rfl rfl (D_call (must_ok _) rfl rfl rfl rfl (pqD)) ?_
    rintro _ _ ⟨_, ⟨rfl, rfl⟩, rfl⟩
    refine WL_nil ?_
    refine WQ_code ?_
    refine WC_region ?_
    refine WL_val rfl rfl rfl (R_move rfl rfl) ?_
    refine WL_val rfl rfl rfl (R_move rfl rfl) ?_
    refine WL_do rfl rfl rfl (D_call (sclose_no p _ _ _ _ _ h.cO h.eO (by omega) (by omega) ((valB (body.take 4)) : Int) hno) rfl rfl rfl rfl (pqD)) ?_
    rintro _ _ ⟨_, ⟨rfl, rfl⟩, rfl⟩
    refine WL_nil ?_
    refine WQ_ret rfl rfl .nil rfl (by
        exact ⟨m, x, h, rfl, rfl, rfl⟩) (pqD)
theorem hs_next {m : SvM} {x : Sv} (p : Nat) (h : SvIs m x) (hol : x.opn.length ≤ 32) (hql : x.qu.length ≤ 500000) (hlast : x.s.last < 4294967296) (hout : x.s.out.length ≤ 500000) (k : UInt8) (body : Bs) (h4 : 4 ≤ body.length) (hbl : body.length ≤ 1024) (v : Value) (o : Option Nat) (c2 : Nat) (tl : List Value) (own : Own o body.length c2 1 (bvs body) tl) (hk : k = 16 ∧ 12 ≤ body.length) (hid : ¬ (valB (body.take 4)) = x.s.last + 1) : PSpec Tryz.prog 37 [ptrC p, .agg #[.int .u8 (k.toNat : Int), slV o body.length c2]] ([⟨some p, cl [sVal m.sd.ob m.sd.ok x.s.out.length m.sd.oc, v, .int .i64 0, .int .i64 (x.s.last : Int), .int .i64 0, slV m.cb x.opn.length m.cc, sVal m.eb m.ek x.qu.length m.ec] 45⟩] ++ ([oE m.sd x.s, svO m x, svQ m x] ++ rqH x.qu) ++ [⟨o, cl (bvs body ++ tl) 5⟩]) (errV 10) (fun H' => ∃ m' x', SvIs m' x' ∧ x'.v = x.v ∧ H' = [⟨some p, cl [sVal m'.sd.ob m'.sd.ok x'.s.out.length m'.sd.oc, v, .int .i64 0, .int .i64 (x'.s.last : Int), .int .i64 0, slV m'.cb x'.opn.length m'.cc, sVal m'.eb m'.ek x'.qu.length m'.ec] 45⟩] ++ ([oE m'.sd x'.s, svO m' x', svQ m' x'] ++ rqH x'.qu)) := by
  have hv4 := val4_lt body
  refine PSpec.of (E := [(0, ptrC p), (1, .agg #[.int .u8 (k.toNat : Int), slV o body.length c2])]) Tryz.func37 rfl (by kernel_rfl) Tryz.ntmps37 rfl rfl (fun w => ?_)
  refine WC_seq ?_
  refine WC_region ?_
  refine WL_do rfl rfl rfl (D_box (cs := [_, _]) rfl rfl rfl) ?_
  rintro _ _ ⟨b1, rfl, rfl⟩
  refine WL_nil ?_
  refine WQ_code ?_
  refine WC_seq ?_
  refine WC_region ?_
  refine WL_val rfl rfl rfl (R_fieldAddr rfl fa84_1 rfl) ?_
  refine WL_val rfl rfl rfl (R_load rfl sc23 rfl (mmD) rfl) ?_
  refine WL_do rfl rfl rfl (D_call (number_ok (RdB.own own) h4 (by omega) own.le) rfl rfl rfl rfl (pqD)) ?_
  rintro _ _ ⟨_, ⟨rfl, rfl⟩, rfl⟩
  refine WL_val rfl rfl rfl (R_assign rfl rfl) ?_
  refine WL_nil ?_
  refine WQ_code ?_
  refine WC_block ?_
  refine WC_seq ?_
  refine WC_region ?_
  refine WL_val rfl rfl rfl (R_fieldAddr rfl fa84_0 rfl) ?_
  refine WL_val rfl rfl rfl (R_load rfl sc5 rfl (mmD) rfl) ?_
  refine WL_val rfl rfl rfl (R_eql rfl rfl rfl) ?_
  refine WL_set (s := 12) (v := .bool true) rfl (by exact congrArg Value.bool (decide_eq_true (by rw [hk.1]; rfl))) ?_
  refine WL_val rfl rfl rfl (R_move rfl rfl) ?_
  refine WL_val rfl rfl rfl (R_fieldAddr rfl fa84_1 rfl) ?_
  refine WL_val rfl rfl rfl (R_load rfl sc23 rfl (mmD) rfl) ?_
  refine WL_val rfl rfl rfl (R_len rfl Tryz.underlying23 rfl) ?_
  refine WL_val rfl rfl rfl (R_geq rfl rfl rfl) ?_
  refine WL_set (s := 17) (v := .bool true) rfl (by exact congrArg Value.bool (decide_eq_true (by have := hk.2; omega))) ?_
  refine WL_val rfl rfl rfl (R_pickT rfl rfl rfl) ?_
  refine WL_val rfl rfl rfl (R_assign rfl rfl) ?_
  refine WL_nil ?_
  refine WQ_code ?_
  refine WC_T rfl ?_
  refine WC_seq ?_
  refine WC_region ?_
  refine WL_val rfl rfl rfl (R_move rfl rfl) ?_
  refine WL_val rfl rfl rfl (R_move rfl rfl) ?_
  refine WL_val rfl rfl rfl (R_nilCheck rfl rfl) ?_
  refine WL_val rfl rfl rfl (R_fieldAddr rfl fa45_0 rfl) ?_
  refine WL_val rfl rfl rfl (R_fieldAddr rfl fa34_2 rfl) ?_
  refine WL_val rfl rfl rfl (R_load rfl sc3 rfl (mmD) rfl) ?_
  refine WL_val rfl rfl rfl (R_addR (r := ((x.s.last + 1 : Nat) : Int)) rfl rfl rfl (by rw [wrap64_in (by omega) (by omega)]; omega)) ?_
  refine WL_val rfl rfl rfl (R_eql rfl rfl rfl) ?_
  refine WL_set (s := 26) (v := .bool false) rfl (by exact congrArg Value.bool (decide_eq_false (by omega))) ?_
  refine WL_pcall rfl (must_bad _) rfl rfl rfl rfl (pqD) ?_
  rintro _ rfl
  refine WQ_pan rfl (by
      exact ⟨m, x, h, rfl, rfl⟩) (pqD)
theorem hs_none {m : SvM} {x : Sv} (p : Nat) (h : SvIs m x) (hol : x.opn.length ≤ 32) (hql : x.qu.length ≤ 500000) (hlast : x.s.last < 4294967296) (hout : x.s.out.length ≤ 500000) (k : UInt8) (body : Bs) (h4 : 4 ≤ body.length) (hbl : body.length ≤ 1024) (v : Value) (o : Option Nat) (c2 : Nat) (tl : List Value) (own : Own o body.length c2 1 (bvs body) tl) (hk : k = 18 ∧ body.length = 4) (hid : ¬ (0 < (valB (body.take 4)) ∧ (valB (body.take 4)) ≤ x.s.last)) : PSpec Tryz.prog 37 [ptrC p, .agg #[.int .u8 (k.toNat : Int), slV o body.length c2]] ([⟨some p, cl [sVal m.sd.ob m.sd.ok x.s.out.length m.sd.oc, v, .int .i64 0, .int .i64 (x.s.last : Int), .int .i64 0, slV m.cb x.opn.length m.cc, sVal m.eb m.ek x.qu.length m.ec] 45⟩] ++ ([oE m.sd x.s, svO m x, svQ m x] ++ rqH x.qu) ++ [⟨o, cl (bvs body ++ tl) 5⟩]) (errV 10) (fun H' => ∃ m' x', SvIs m' x' ∧ x'.v = x.v ∧ H' = [⟨some p, cl [sVal m'.sd.ob m'.sd.ok x'.s.out.length m'.sd.oc, v, .int .i64 0, .int .i64 (x'.s.last : Int), .int .i64 0, slV m'.cb x'.opn.length m'.cc, sVal m'.eb m'.ek x'.qu.length m'.ec] 45⟩] ++ ([oE m'.sd x'.s, svO m' x', svQ m' x'] ++ rqH x'.qu)) := by
  have hv4 := val4_lt body
  refine PSpec.of (E := [(0, ptrC p), (1, .agg #[.int .u8 (k.toNat : Int), slV o body.length c2])]) Tryz.func37 rfl (by kernel_rfl) Tryz.ntmps37 rfl rfl (fun w => ?_)
  refine WC_seq ?_
  refine WC_region ?_
  refine WL_do rfl rfl rfl (D_box (cs := [_, _]) rfl rfl rfl) ?_
  rintro _ _ ⟨b1, rfl, rfl⟩
  refine WL_nil ?_
  refine WQ_code ?_
  refine WC_seq ?_
  refine WC_region ?_
  refine WL_val rfl rfl rfl (R_fieldAddr rfl fa84_1 rfl) ?_
  refine WL_val rfl rfl rfl (R_load rfl sc23 rfl (mmD) rfl) ?_
  refine WL_do rfl rfl rfl (D_call (number_ok (RdB.own own) h4 (by omega) own.le) rfl rfl rfl rfl (pqD)) ?_
  rintro _ _ ⟨_, ⟨rfl, rfl⟩, rfl⟩
  refine WL_val rfl rfl rfl (R_assign rfl rfl) ?_
  refine WL_nil ?_
  refine WQ_code ?_
  refine WC_block ?_
  refine WC_seq ?_
  refine WC_region ?_
  refine WL_val rfl rfl rfl (R_fieldAddr rfl fa84_0 rfl) ?_
  refine WL_val rfl rfl rfl (R_load rfl sc5 rfl (mmD) rfl) ?_
  refine WL_val rfl rfl rfl (R_eql rfl rfl rfl) ?_
  refine WL_set (s := 12) (v := .bool false) rfl (by exact congrArg Value.bool (decide_eq_false (by rw [hk.1]; decide))) ?_
  refine WL_val rfl rfl rfl (R_move rfl rfl) ?_
  refine WL_skip rfl rfl rfl ?_
  refine WL_skip rfl rfl rfl ?_
  refine WL_skip rfl rfl rfl ?_
  refine WL_skip rfl rfl rfl ?_
  refine WL_val rfl rfl rfl (R_pickF rfl rfl rfl) ?_
  refine WL_val rfl rfl rfl (R_assign rfl rfl) ?_
  refine WL_nil ?_
  refine WQ_code ?_
  refine WC_F rfl ?_
  refine WC_seq ?_
  refine WC_region ?_
  refine WL_val rfl rfl rfl (R_fieldAddr rfl fa84_0 rfl) ?_
  refine WL_val rfl rfl rfl (R_load rfl sc5 rfl (mmD) rfl) ?_
  refine WL_val rfl rfl rfl (R_eql rfl rfl rfl) ?_
  refine WL_set (s := 83) (v := .bool true) rfl (by exact congrArg Value.bool (decide_eq_true (by rw [hk.1]; rfl))) ?_
  refine WL_val rfl rfl rfl (R_move rfl rfl) ?_
  refine WL_val rfl rfl rfl (R_fieldAddr rfl fa84_1 rfl) ?_
  refine WL_val rfl rfl rfl (R_load rfl sc23 rfl (mmD) rfl) ?_
  refine WL_val rfl rfl rfl (R_len rfl Tryz.underlying23 rfl) ?_
  refine WL_val rfl rfl rfl (R_eql rfl rfl rfl) ?_
  refine WL_set (s := 88) (v := .bool true) rfl (by exact congrArg Value.bool (decide_eq_true (by have := hk.2; omega))) ?_
  refine WL_val rfl rfl rfl (R_pickT rfl rfl rfl) ?_
  refine WL_val rfl rfl rfl (R_assign rfl rfl) ?_
  refine WL_nil ?_
  refine WQ_code ?_
  refine WC_T rfl ?_
  refine WC_seq ?_
  refine WC_region ?_
  by_cases hn1 : 0 < (valB (body.take 4))
  · refine WL_val rfl rfl rfl (R_move rfl rfl) ?_
    refine WL_val rfl rfl rfl (R_gtr rfl rfl rfl) ?_
    refine WL_set (s := 91) (v := .bool true) rfl (by exact congrArg Value.bool (decide_eq_true (by omega))) ?_
    refine WL_val rfl rfl rfl (R_move rfl rfl) ?_
    refine WL_val rfl rfl rfl (R_move rfl rfl) ?_
    refine WL_val rfl rfl rfl (R_move rfl rfl) ?_
    refine WL_val rfl rfl rfl (R_nilCheck rfl rfl) ?_
    refine WL_val rfl rfl rfl (R_fieldAddr rfl fa45_0 rfl) ?_
    refine WL_val rfl rfl rfl (R_fieldAddr rfl fa34_2 rfl) ?_
    refine WL_val rfl rfl rfl (R_load rfl sc3 rfl (mmD) rfl) ?_
    refine WL_val rfl rfl rfl (R_leq rfl rfl rfl) ?_
    refine WL_set (s := 99) (v := .bool false) rfl (by exact congrArg Value.bool (decide_eq_false (fun e => hid ⟨hn1, by omega⟩))) ?_
    refine WL_val rfl rfl rfl (R_pickT rfl rfl rfl) ?_
    refine WL_pcall rfl (must_bad _) rfl rfl rfl rfl (pqD) ?_
    rintro _ rfl
    refine WQ_pan rfl (by
        exact ⟨m, x, h, rfl, rfl⟩) (pqD)
  · refine WL_val rfl rfl rfl (R_move rfl rfl) ?_
    refine WL_val rfl rfl rfl (R_gtr rfl rfl rfl) ?_
    refine WL_set (s := 91) (v := .bool false) rfl (by exact congrArg Value.bool (decide_eq_false (by omega))) ?_
    refine WL_val rfl rfl rfl (R_move rfl rfl) ?_
    refine WL_skip rfl rfl rfl ?_
    refine WL_skip rfl rfl rfl ?_
    refine WL_skip rfl rfl rfl ?_
    refine WL_skip rfl rfl rfl ?_
    refine WL_skip rfl rfl rfl ?_
    refine WL_skip rfl rfl rfl ?_
    refine WL_skip rfl rfl rfl ?_
    refine WL_val rfl rfl rfl (R_pickF rfl rfl rfl) ?_
    refine WL_pcall rfl (must_bad _) rfl rfl rfl rfl (pqD) ?_
    rintro _ rfl
    refine WQ_pan rfl (by
        exact ⟨m, x, h, rfl, rfl⟩) (pqD)
theorem hs_form {m : SvM} {x : Sv} (p : Nat) (h : SvIs m x) (hol : x.opn.length ≤ 32) (hql : x.qu.length ≤ 500000) (hlast : x.s.last < 4294967296) (hout : x.s.out.length ≤ 500000) (k : UInt8) (body : Bs) (h4 : 4 ≤ body.length) (hbl : body.length ≤ 1024) (v : Value) (o : Option Nat) (c2 : Nat) (tl : List Value) (own : Own o body.length c2 1 (bvs body) tl) (hk : ¬ (k = 16 ∧ 12 ≤ body.length)) (hk2 : ¬ (k = 18 ∧ body.length = 4)) : PSpec Tryz.prog 37 [ptrC p, .agg #[.int .u8 (k.toNat : Int), slV o body.length c2]] ([⟨some p, cl [sVal m.sd.ob m.sd.ok x.s.out.length m.sd.oc, v, .int .i64 0, .int .i64 (x.s.last : Int), .int .i64 0, slV m.cb x.opn.length m.cc, sVal m.eb m.ek x.qu.length m.ec] 45⟩] ++ ([oE m.sd x.s, svO m x, svQ m x] ++ rqH x.qu) ++ [⟨o, cl (bvs body ++ tl) 5⟩]) (errV 6) (fun H' => ∃ m' x', SvIs m' x' ∧ x'.v = x.v ∧ H' = [⟨some p, cl [sVal m'.sd.ob m'.sd.ok x'.s.out.length m'.sd.oc, v, .int .i64 0, .int .i64 (x'.s.last : Int), .int .i64 0, slV m'.cb x'.opn.length m'.cc, sVal m'.eb m'.ek x'.qu.length m'.ec] 45⟩] ++ ([oE m'.sd x'.s, svO m' x', svQ m' x'] ++ rqH x'.qu)) := by
  refine PSpec.of (E := [(0, ptrC p), (1, .agg #[.int .u8 (k.toNat : Int), slV o body.length c2])]) Tryz.func37 rfl (by kernel_rfl) Tryz.ntmps37 rfl rfl (fun w => ?_)
  refine WC_seq ?_
  refine WC_region ?_
  refine WL_do rfl rfl rfl (D_box (cs := [_, _]) rfl rfl rfl) ?_
  rintro _ _ ⟨b1, rfl, rfl⟩
  refine WL_nil ?_
  refine WQ_code ?_
  refine WC_seq ?_
  refine WC_region ?_
  refine WL_val rfl rfl rfl (R_fieldAddr rfl fa84_1 rfl) ?_
  refine WL_val rfl rfl rfl (R_load rfl sc23 rfl (mmD) rfl) ?_
  refine WL_do rfl rfl rfl (D_call (number_ok (RdB.own own) h4 (by omega) own.le) rfl rfl rfl rfl (pqD)) ?_
  rintro _ _ ⟨_, ⟨rfl, rfl⟩, rfl⟩
  refine WL_val rfl rfl rfl (R_assign rfl rfl) ?_
  refine WL_nil ?_
  refine WQ_code ?_
  refine WC_block ?_
  refine WC_seq ?_
  refine WC_region ?_
  by_cases hk1 : k = 16
  · refine WL_val rfl rfl rfl (R_fieldAddr rfl fa84_0 rfl) ?_
    refine WL_val rfl rfl rfl (R_load rfl sc5 rfl (mmD) rfl) ?_
    refine WL_val rfl rfl rfl (R_eql rfl rfl rfl) ?_
    refine WL_set (s := 12) (v := .bool true) rfl (by exact congrArg Value.bool (decide_eq_true (by rw [hk1]; rfl))) ?_
    refine WL_val rfl rfl rfl (R_move rfl rfl) ?_
    refine WL_val rfl rfl rfl (R_fieldAddr rfl fa84_1 rfl) ?_
    refine WL_val rfl rfl rfl (R_load rfl sc23 rfl (mmD) rfl) ?_
    refine WL_val rfl rfl rfl (R_len rfl Tryz.underlying23 rfl) ?_
    refine WL_val rfl rfl rfl (R_geq rfl rfl rfl) ?_
    refine WL_set (s := 17) (v := .bool false) rfl (by exact congrArg Value.bool (decide_eq_false (fun e => hk ⟨hk1, by omega⟩))) ?_
    refine WL_val rfl rfl rfl (R_pickT rfl rfl rfl) ?_
    refine WL_val rfl rfl rfl (R_assign rfl rfl) ?_
    refine WL_nil ?_
    refine WQ_code ?_
    refine WC_F rfl ?_
    refine WC_seq ?_
    refine WC_region ?_
    by_cases hk8 : k = 18
    · refine WL_val rfl rfl rfl (R_fieldAddr rfl fa84_0 rfl) ?_
      refine WL_val rfl rfl rfl (R_load rfl sc5 rfl (mmD) rfl) ?_
      refine WL_val rfl rfl rfl (R_eql rfl rfl rfl) ?_
      refine WL_set (s := 83) (v := .bool true) rfl (by exact congrArg Value.bool (decide_eq_true (by rw [hk8]; rfl))) ?_
      refine WL_val rfl rfl rfl (R_move rfl rfl) ?_
      refine WL_val rfl rfl rfl (R_fieldAddr rfl fa84_1 rfl) ?_
      refine WL_val rfl rfl rfl (R_load rfl sc23 rfl (mmD) rfl) ?_
      refine WL_val rfl rfl rfl (R_len rfl Tryz.underlying23 rfl) ?_
      refine WL_val rfl rfl rfl (R_eql rfl rfl rfl) ?_
      refine WL_set (s := 88) (v := .bool false) rfl (by exact congrArg Value.bool (decide_eq_false (fun e => hk2 ⟨hk8, by omega⟩))) ?_
      refine WL_val rfl rfl rfl (R_pickT rfl rfl rfl) ?_
      refine WL_val rfl rfl rfl (R_assign rfl rfl) ?_
      refine WL_nil ?_
      refine WQ_code ?_
      refine WC_F rfl ?_
      refine WC_region ?_
      refine WL_val rfl rfl rfl (R_makeIface rfl (by kernel_rfl) rfl) ?_
      refine WL_panic rfl rfl rfl ?_
      refine WQ_pan rfl (by
          exact ⟨m, x, h, rfl, rfl⟩) (pqD)
    · refine WL_val rfl rfl rfl (R_fieldAddr rfl fa84_0 rfl) ?_
      refine WL_val rfl rfl rfl (R_load rfl sc5 rfl (mmD) rfl) ?_
      refine WL_val rfl rfl rfl (R_eql rfl rfl rfl) ?_
      refine WL_set (s := 83) (v := .bool false) rfl (by exact congrArg Value.bool (decide_eq_false (fun e => hk8 (u8_eq (b := 18) (by simpa using e))))) ?_
      refine WL_val rfl rfl rfl (R_move rfl rfl) ?_
      refine WL_skip rfl rfl rfl ?_
      refine WL_skip rfl rfl rfl ?_
      refine WL_skip rfl rfl rfl ?_
      refine WL_skip rfl rfl rfl ?_
      refine WL_val rfl rfl rfl (R_pickF rfl rfl rfl) ?_
      refine WL_val rfl rfl rfl (R_assign rfl rfl) ?_
      refine WL_nil ?_
      refine WQ_code ?_
      refine WC_F rfl ?_
      refine WC_region ?_
      refine WL_val rfl rfl rfl (R_makeIface rfl (by kernel_rfl) rfl) ?_
      refine WL_panic rfl rfl rfl ?_
      refine WQ_pan rfl (by
          exact ⟨m, x, h, rfl, rfl⟩) (pqD)
  · refine WL_val rfl rfl rfl (R_fieldAddr rfl fa84_0 rfl) ?_
    refine WL_val rfl rfl rfl (R_load rfl sc5 rfl (mmD) rfl) ?_
    refine WL_val rfl rfl rfl (R_eql rfl rfl rfl) ?_
    refine WL_set (s := 12) (v := .bool false) rfl (by exact congrArg Value.bool (decide_eq_false (fun e => hk1 (u8_eq (b := 16) (by simpa using e))))) ?_
    refine WL_val rfl rfl rfl (R_move rfl rfl) ?_
    refine WL_skip rfl rfl rfl ?_
    refine WL_skip rfl rfl rfl ?_
    refine WL_skip rfl rfl rfl ?_
    refine WL_skip rfl rfl rfl ?_
    refine WL_val rfl rfl rfl (R_pickF rfl rfl rfl) ?_
    refine WL_val rfl rfl rfl (R_assign rfl rfl) ?_
    refine WL_nil ?_
    refine WQ_code ?_
    refine WC_F rfl ?_
    refine WC_seq ?_
    refine WC_region ?_
    by_cases hk8 : k = 18
    · refine WL_val rfl rfl rfl (R_fieldAddr rfl fa84_0 rfl) ?_
      refine WL_val rfl rfl rfl (R_load rfl sc5 rfl (mmD) rfl) ?_
      refine WL_val rfl rfl rfl (R_eql rfl rfl rfl) ?_
      refine WL_set (s := 83) (v := .bool true) rfl (by exact congrArg Value.bool (decide_eq_true (by rw [hk8]; rfl))) ?_
      refine WL_val rfl rfl rfl (R_move rfl rfl) ?_
      refine WL_val rfl rfl rfl (R_fieldAddr rfl fa84_1 rfl) ?_
      refine WL_val rfl rfl rfl (R_load rfl sc23 rfl (mmD) rfl) ?_
      refine WL_val rfl rfl rfl (R_len rfl Tryz.underlying23 rfl) ?_
      refine WL_val rfl rfl rfl (R_eql rfl rfl rfl) ?_
      refine WL_set (s := 88) (v := .bool false) rfl (by exact congrArg Value.bool (decide_eq_false (fun e => hk2 ⟨hk8, by omega⟩))) ?_
      refine WL_val rfl rfl rfl (R_pickT rfl rfl rfl) ?_
      refine WL_val rfl rfl rfl (R_assign rfl rfl) ?_
      refine WL_nil ?_
      refine WQ_code ?_
      refine WC_F rfl ?_
      refine WC_region ?_
      refine WL_val rfl rfl rfl (R_makeIface rfl (by kernel_rfl) rfl) ?_
      refine WL_panic rfl rfl rfl ?_
      refine WQ_pan rfl (by
          exact ⟨m, x, h, rfl, rfl⟩) (pqD)
    · refine WL_val rfl rfl rfl (R_fieldAddr rfl fa84_0 rfl) ?_
      refine WL_val rfl rfl rfl (R_load rfl sc5 rfl (mmD) rfl) ?_
      refine WL_val rfl rfl rfl (R_eql rfl rfl rfl) ?_
      refine WL_set (s := 83) (v := .bool false) rfl (by exact congrArg Value.bool (decide_eq_false (fun e => hk8 (u8_eq (b := 18) (by simpa using e))))) ?_
      refine WL_val rfl rfl rfl (R_move rfl rfl) ?_
      refine WL_skip rfl rfl rfl ?_
      refine WL_skip rfl rfl rfl ?_
      refine WL_skip rfl rfl rfl ?_
      refine WL_skip rfl rfl rfl ?_
      refine WL_val rfl rfl rfl (R_pickF rfl rfl rfl) ?_
      refine WL_val rfl rfl rfl (R_assign rfl rfl) ?_
      refine WL_nil ?_
      refine WQ_code ?_
      refine WC_F rfl ?_
      refine WC_region ?_
      refine WL_val rfl rfl rfl (R_makeIface rfl (by kernel_rfl) rfl) ?_
      refine WL_panic rfl rfl rfl ?_
      refine WQ_pan rfl (by
          exact ⟨m, x, h, rfl, rfl⟩) (pqD)
end Go.Proofs.YtkcfgglmlogjbaaGreat
end
section
set_option linter.unusedVariables false
set_option maxRecDepth 20000
set_option maxHeartbeats 4000000
namespace Go.Proofs.YtkcfgglmlogjbaaGreat
theorem delI_len (id : Int) : ∀ l : List Int, (delI id l).length ≤ l.length
  | [] => Nat.le_refl _
  | x :: r => by
    have ih := delI_len id r
    unfold delI; split
    · simp
    · simp; exact ih
theorem delI_sub {id v : Int} : ∀ {l : List Int}, v ∈ delI id l → v ∈ l
  | [], h => h
  | x :: r, h => by
    unfold delI at h; split at h
    · exact List.mem_cons_of_mem _ h
    · rcases List.mem_cons.1 h with h | h
      · exact h ▸ List.mem_cons_self ..
      · exact List.mem_cons_of_mem _ (delI_sub h)
/-- What is kept while bytes are handled; n: how many are left. -/
structure PVI (n : Nat) (q : PV) : Prop where
  opn : q.opn.length ≤ 32
  qu : q.qu.length + n ≤ 300000
  last : q.last < 4294967296
  out : q.out.length + n ≤ 300000
  ids : ∀ i ∈ q.opn, 0 ≤ i ∧ i < 4294967296
theorem PVI.mono {n m : Nat} {q : PV} (h : PVI (n + m) q) : PVI n q := ⟨h.opn, by have := h.qu; omega, h.last, by have := h.out; omega, h.ids⟩
theorem PVI.close {n : Nat} {q : PV} (h : PVI n q) (id : Int) : PVI n (q.close id) := by
  unfold PV.close
  split
  · exact ⟨Nat.le_trans (delI_len ..) h.opn, by have h1 := h.qu; have h2 : (q.qu.filter (notId id)).length ≤ q.qu.length := List.length_filter_le ..; show (q.qu.filter (notId id)).length + n ≤ _; omega, h.last, h.out, fun i hi => h.ids i (delI_sub hi)⟩
  · exact h
theorem PVI.step {n : Nat} {q : PV} {k : UInt8} {body : Bs} (h : PVI (n + (body.length + 6)) q) : PVI n (q.step k body).1 := by
  have hv4 := val4_lt body
  unfold PV.step
  split
  · rename_i h1
    have h2 := h1.2
    split
    · exact h.mono
    · rename_i h3
      split
      · refine ⟨h.opn, by have := h.qu; show q.qu.length + n ≤ _; omega, by show q.last + 1 < _; omega, ?_, h.ids⟩
        have := h.out
        show (q.out ++ _).length + n ≤ _
        rw [List.length_append, encF_len, List.length_append, bigB_len]
        simp only [List.length_cons, List.length_nil]
        omega
      · rename_i h4
        refine ⟨by show (q.opn ++ _).length ≤ _; simp; omega, by have := h.qu; show (q.qu ++ _).length + n ≤ _; simp; omega, by show q.last + 1 < _; omega, by have := h.out; show q.out.length + n ≤ _; omega, fun i hi => ?_⟩
        rcases List.mem_append.1 hi with h5 | h5
        · exact h.ids i h5
        · rw [List.mem_singleton.1 h5]; omega
  · split
    · split
      · exact h.mono
      · exact (h.close _).mono
    · exact h.mono
structure SG where
  m : SvM
  x : Sv
theorem hs_ok {m : SvM} {x : Sv} (p : Nat) (h : SvIs m x) (hol : x.opn.length ≤ 32) (hql : x.qu.length ≤ 500000) (hlast : x.s.last < 4294967296) (hout : x.s.out.length ≤ 500000) (k : UInt8) (body : Bs) (h4 : 4 ≤ body.length) (hbl : body.length ≤ 1024) (v : Value) (o : Option Nat) (c2 : Nat) (tl : List Value) (own : Own o body.length c2 1 (bvs body) tl) (hstep : (x.v.step k body).2 = 0) : Spec Tryz.prog 37 [ptrC p, .agg #[.int .u8 (k.toNat : Int), slV o body.length c2]] ([⟨some p, cl [sVal m.sd.ob m.sd.ok x.s.out.length m.sd.oc, v, .int .i64 0, .int .i64 (x.s.last : Int), .int .i64 0, slV m.cb x.opn.length m.cc, sVal m.eb m.ek x.qu.length m.ec] 45⟩] ++ ([oE m.sd x.s, svO m x, svQ m x] ++ rqH x.qu) ++ [⟨o, cl (bvs body ++ tl) 5⟩]) (fun r H' => ∃ m' x', SvIs m' x' ∧ x'.v = (x.v.step k body).1 ∧ r = .tuple #[] ∧ H' = [⟨some p, cl [sVal m'.sd.ob m'.sd.ok x'.s.out.length m'.sd.oc, v, .int .i64 0, .int .i64 (x'.s.last : Int), .int .i64 0, slV m'.cb x'.opn.length m'.cc, sVal m'.eb m'.ek x'.qu.length m'.ec] 45⟩] ++ ([oE m'.sd x'.s, svO m' x', svQ m' x'] ++ rqH x'.qu)) := by
  unfold PV.step at *
  by_cases h1 : k = 16 ∧ 12 ≤ body.length
  · rw [if_pos h1] at *
    by_cases h2 : (valB (body.take 4)) = x.s.last + 1
    · rw [if_neg (show ¬ ¬ (valB (body.take 4)) = x.v.last + 1 from fun e => e h2)] at *
      by_cases h3 : 32 ≤ x.opn.length
      · rw [if_pos (show 32 ≤ x.v.opn.length from h3)] at *; exact hs_full p h hol hql hlast hout k body h4 hbl v o c2 tl own h1 h2 h3
      · rw [if_neg (show ¬ 32 ≤ x.v.opn.length from h3)] at *; exact hs_open p h hol hql hlast hout k body h4 hbl v o c2 tl own h1 h2 h3
    · rw [if_pos (show ¬ (valB (body.take 4)) = x.v.last + 1 from h2)] at hstep; cases hstep
  · rw [if_neg h1] at *
    by_cases h2 : k = 18 ∧ body.length = 4
    · rw [if_pos h2] at *
      by_cases h3 : 0 < (valB (body.take 4)) ∧ (valB (body.take 4)) ≤ x.s.last
      · rw [if_neg (show ¬ ¬ (0 < (valB (body.take 4)) ∧ (valB (body.take 4)) ≤ x.v.last) from fun e => e h3)] at *; exact hs_cancel p h hol hql hlast hout k body h4 hbl v o c2 tl own h2 h3
      · rw [if_pos (show ¬ (0 < (valB (body.take 4)) ∧ (valB (body.take 4)) ≤ x.v.last) from h3)] at hstep; cases hstep
    · rw [if_neg h2] at hstep; cases hstep
theorem hs_bad {m : SvM} {x : Sv} (p : Nat) (h : SvIs m x) (hol : x.opn.length ≤ 32) (hql : x.qu.length ≤ 500000) (hlast : x.s.last < 4294967296) (hout : x.s.out.length ≤ 500000) (k : UInt8) (body : Bs) (h4 : 4 ≤ body.length) (hbl : body.length ≤ 1024) (v : Value) (o : Option Nat) (c2 : Nat) (tl : List Value) (own : Own o body.length c2 1 (bvs body) tl) (hstep : (x.v.step k body).2 ≠ 0) : PSpec Tryz.prog 37 [ptrC p, .agg #[.int .u8 (k.toNat : Int), slV o body.length c2]] ([⟨some p, cl [sVal m.sd.ob m.sd.ok x.s.out.length m.sd.oc, v, .int .i64 0, .int .i64 (x.s.last : Int), .int .i64 0, slV m.cb x.opn.length m.cc, sVal m.eb m.ek x.qu.length m.ec] 45⟩] ++ ([oE m.sd x.s, svO m x, svQ m x] ++ rqH x.qu) ++ [⟨o, cl (bvs body ++ tl) 5⟩]) (errV (x.v.step k body).2) (fun H' => ∃ m' x', SvIs m' x' ∧ x'.v = (x.v.step k body).1 ∧ H' = [⟨some p, cl [sVal m'.sd.ob m'.sd.ok x'.s.out.length m'.sd.oc, v, .int .i64 0, .int .i64 (x'.s.last : Int), .int .i64 0, slV m'.cb x'.opn.length m'.cc, sVal m'.eb m'.ek x'.qu.length m'.ec] 45⟩] ++ ([oE m'.sd x'.s, svO m' x', svQ m' x'] ++ rqH x'.qu)) := by
  unfold PV.step at *
  by_cases h1 : k = 16 ∧ 12 ≤ body.length
  · rw [if_pos h1] at *
    by_cases h2 : (valB (body.take 4)) = x.s.last + 1
    · rw [if_neg (show ¬ ¬ (valB (body.take 4)) = x.v.last + 1 from fun e => e h2)] at hstep
      split at hstep <;> exact absurd rfl hstep
    · rw [if_pos (show ¬ (valB (body.take 4)) = x.v.last + 1 from h2)] at *; exact hs_next p h hol hql hlast hout k body h4 hbl v o c2 tl own h1 h2
  · rw [if_neg h1] at *
    by_cases h2 : k = 18 ∧ body.length = 4
    · rw [if_pos h2] at *
      by_cases h3 : 0 < (valB (body.take 4)) ∧ (valB (body.take 4)) ≤ x.s.last
      · rw [if_neg (show ¬ ¬ (0 < (valB (body.take 4)) ∧ (valB (body.take 4)) ≤ x.v.last) from fun e => e h3)] at hstep; exact absurd rfl hstep
      · rw [if_pos (show ¬ (0 < (valB (body.take 4)) ∧ (valB (body.take 4)) ≤ x.v.last) from h3)] at *; exact hs_none p h hol hql hlast hout k body h4 hbl v o c2 tl own h2 h3
    · rw [if_neg h2] at *; exact hs_form p h hol hql hlast hout k body h4 hbl v o c2 tl own h1 h2
theorem rcvS_ok {m : SvM} {x : Sv} (p : Nat) (h : SvIs m x) {l : Bs} {oa : Option Addr} {ent : Ent} {c0 : Nat} (hr : RdB oa ent l) (hl : l.length ≤ 65536) {bs : Bs} {ob : Option Nat} {k c : Nat} {pre tl : List Value} (hI : PVI (bs.length + l.length) x.v) (hO : OwnS ob k bs.length c 1 pre (bvs bs) tl) (hfit : bs.length + l.length ≤ 65536) :
    Spec Tryz.prog 36 [ptrC p, .slice oa l.length c0, .func (.func 37) #[ptrC p] #[]] ([⟨some p, cl [sVal m.sd.ob m.sd.ok x.s.out.length m.sd.oc, (sVal ob k bs.length c), .int .i64 0, .int .i64 (x.s.last : Int), .int .i64 0, slV m.cb x.opn.length m.cc, sVal m.eb m.ek x.qu.length m.ec] 45⟩] ++ [⟨ob, cl (pre ++ (bvs bs ++ tl)) 5⟩] ++ ([oE m.sd x.s, svO m x, svQ m x] ++ rqH x.qu) ++ [ent])
      (fun r H' => ∃ m' x' ob' k' c' pre' tl', SvIs m' x' ∧ PVI (rcvN PV.step (bs.length + l.length + 1) x.v (bs ++ l)).2.1.length x'.v ∧ x'.v = (rcvN PV.step (bs.length + l.length + 1) x.v (bs ++ l)).1 ∧ r = .int .i64 (rcvN PV.step (bs.length + l.length + 1) x.v (bs ++ l)).2.2.2 ∧ OwnS ob' k' (rcvN PV.step (bs.length + l.length + 1) x.v (bs ++ l)).2.1.length c' 1 pre' (bvs (rcvN PV.step (bs.length + l.length + 1) x.v (bs ++ l)).2.1) tl' ∧
        H' = [⟨some p, cl [sVal m'.sd.ob m'.sd.ok x'.s.out.length m'.sd.oc, (sVal ob' k' (rcvN PV.step (bs.length + l.length + 1) x.v (bs ++ l)).2.1.length c'), .int .i64 (rcvN PV.step (bs.length + l.length + 1) x.v (bs ++ l)).2.2.1, .int .i64 (x'.s.last : Int), .int .i64 (rcvN PV.step (bs.length + l.length + 1) x.v (bs ++ l)).2.2.2, slV m'.cb x'.opn.length m'.cc, sVal m'.eb m'.ek x'.qu.length m'.ec] 45⟩] ++ [⟨ob', cl (pre' ++ (bvs (rcvN PV.step (bs.length + l.length + 1) x.v (bs ++ l)).2.1 ++ tl')) 5⟩] ++ ([oE m'.sd x'.s, svO m' x', svQ m' x'] ++ rqH x'.qu) ++ [ent]) := by
  refine (receive_ok (S := SG) (Q := PV) p 45 (fun s => sVal s.m.sd.ob s.m.sd.ok s.x.s.out.length s.m.sd.oc) (fun s => .int .i64 (s.x.s.last : Int)) (fun s => [slV s.m.cb s.x.opn.length s.m.cc, sVal s.m.eb s.m.ek s.x.qu.length s.m.ec])
    (fun s => [oE s.m.sd s.x.s, svO s.m s.x, svQ s.m s.x] ++ rqH s.x.qu) (fun n s => SvIs s.m s.x ∧ PVI n s.x.v) (fun s => s.x.v) PV.step 37 [ptrC p] [] (fun _ _ _ h => ⟨h.1, h.2.mono⟩) ?_ ?_ hr ⟨m, x⟩ ⟨h, hI⟩ hO hl hfit).mono ?_
  · rintro ⟨m, x⟩ k body n ⟨h, hI⟩ h4 h10 hs v o c2 tl own
    refine (hs_ok p h hI.opn (by have h9 := hI.qu; simp only [Sv.v, List.length_map] at h9; show x.qu.length ≤ _; omega) hI.last (by have h9 := hI.out; simp only [Sv.v] at h9; show x.s.out.length ≤ _; omega) k body h4 h10 v o c2 tl own hs).mono ?_
    rintro r H' ⟨m', x', g1, g2, g3, g4⟩
    exact ⟨⟨m', x'⟩, ⟨g1, by show PVI n x'.v; rw [g2]; exact hI.step⟩, g2, g3, g4⟩
  · rintro ⟨m, x⟩ k body n ⟨h, hI⟩ h4 h10 hs v o c2 tl own
    refine (hs_bad p h hI.opn (by have h9 := hI.qu; simp only [Sv.v, List.length_map] at h9; show x.qu.length ≤ _; omega) hI.last (by have h9 := hI.out; simp only [Sv.v] at h9; show x.s.out.length ≤ _; omega) k body h4 h10 v o c2 tl own hs).mono ?_
    rintro H' ⟨m', x', g1, g2, g4⟩
    exact ⟨⟨m', x'⟩, ⟨g1, by show PVI n x'.v; rw [g2]; exact hI.step⟩, g2, g4⟩
  · rintro r H' ⟨⟨m', x'⟩, ob', k', c', pre', tl', ⟨g1, g2⟩, g3, g4, g5, g6⟩
    exact ⟨m', x', ob', k', c', pre', tl', g1, g2, g3, g4, g5, g6⟩
end Go.Proofs.YtkcfgglmlogjbaaGreat
end
